import PyProof.Rows.All
import Wide.All
import OpenK.AllK
import Wide.FinOn
import Open.SpecLaws
import KE.OsGo
import KE.GoesMore
import KE.GoesEnum
import HandS.ForSpec
import HandS.ForMost
import HandS.Walk
import HandS.Flow
import HandS.CallLocal
import HandS.TupAny
import HandS.Zip
import HandS.Defaults
import HandS.HeadHook1
import HandS.HeadHook2
import HandS.Codes
import HandS.DictSub
import HandS.Head0
import HandS.Head1
import HandS.Head2
import HandS.Head3
import HandS.Head4
import PySem.Challenge.RW_trolleylanes_s01_answers
set_option linter.all false
namespace Trl
open Kh433

/-! first fit -/
theorem range_find {n i : Nat} {p : Nat → Bool} (hi : i < n) (h : p i = true) (hb : ∀ j, j < i → p j = false) : (List.range n).find? p = some i := by
  rw [List.find?_range_eq_some]
  refine ⟨h, List.mem_range.mpr hi, fun j hj => ?_⟩
  rw [hb j hj]; rfl
theorem range_find_none {n : Nat} {p : Nat → Bool} (hb : ∀ j, j < n → p j = false) : (List.range n).find? p = none := by
  rw [List.find?_range_eq_none]
  intro j hj
  rw [hb j hj]; rfl
/-- the test of first fit -/
def fits (ll : List (List Nat)) (d : Nat) (k : Nat) : Bool := match (ll.getD k []).getLast? with
  | none => true
  | some x => decide (x ≤ d)
theorem put_eq (ll : List (List Nat)) (d : Nat) : putFirstFit ll d = (match (List.range ll.length).find? (fits ll d) with
    | some k => ll.set k (ll.getD k [] ++ [d])
    | none => ll ++ [[d]]) := by
  have e : fits ll d = fun k => match (ll.getD k []).getLast? with
    | none => true
    | some x => decide (x ≤ d) := rfl
  unfold putFirstFit
  rfl
/-- where first fit puts -/
def place (ll : List (List Nat)) (d : Nat) : Nat := ((List.range ll.length).find? (fits ll d)).getD ll.length
theorem place_at {ll : List (List Nat)} {d i : Nat} (hi : i < ll.length) (h : fits ll d i = true) (hb : ∀ j, j < i → fits ll d j = false) : place ll d = i := by
  unfold place
  rw [range_find hi h hb]; rfl
theorem place_none {ll : List (List Nat)} {d : Nat} (hb : ∀ j, j < ll.length → fits ll d j = false) : place ll d = ll.length := by
  unfold place
  rw [range_find_none hb]; rfl
theorem place_le (ll : List (List Nat)) (d : Nat) : place ll d ≤ ll.length := by
  unfold place
  cases e : (List.range ll.length).find? (fits ll d) with
  | none => exact Nat.le_refl _
  | some k =>
    have := List.mem_range.mp (List.mem_of_find?_eq_some e)
    exact Nat.le_of_lt this
theorem put_old {ll : List (List Nat)} {d : Nat} (h : place ll d ≠ ll.length) : place ll d < ll.length ∧ putFirstFit ll d = ll.set (place ll d) (ll.getD (place ll d) [] ++ [d]) := by
  have hl := place_le ll d
  refine ⟨by omega, ?_⟩
  rw [put_eq]
  unfold place at h ⊢
  cases e : (List.range ll.length).find? (fits ll d) with
  | none => rw [e] at h; exact (h rfl).elim
  | some k => rfl
theorem put_app {ll : List (List Nat)} {d : Nat} (h : place ll d = ll.length) : putFirstFit ll d = ll ++ [[d]] := by
  rw [put_eq]
  unfold place at h
  cases e : (List.range ll.length).find? (fits ll d) with
  | none => rfl
  | some k =>
    rw [e] at h
    have := List.mem_range.mp (List.mem_of_find?_eq_some e)
    have h' : k = ll.length := h
    omega
theorem ff_snoc (l : List Nat) (d : Nat) : firstFitLanes (l ++ [d]) = putFirstFit (firstFitLanes l) d := by
  unfold firstFitLanes
  rw [List.foldl_append]; rfl
theorem put_full {ll : List (List Nat)} {d : Nat} (h : ∀ l ∈ ll, l ≠ []) : ∀ l ∈ putFirstFit ll d, l ≠ [] := by
  intro l hl
  by_cases c : place ll d = ll.length
  · rw [put_app c] at hl
    rcases List.mem_append.mp hl with q | q
    · exact h l q
    · rw [List.mem_singleton.mp q]; simp
  · rw [(put_old c).2] at hl
    rcases List.mem_or_eq_of_mem_set hl with q | q
    · exact h l q
    · rw [q]; simp
theorem ff_full (l : List Nat) : ∀ x ∈ firstFitLanes l, x ≠ [] := by
  unfold firstFitLanes
  suffices h : ∀ (l : List Nat) (ll : List (List Nat)), (∀ x ∈ ll, x ≠ []) → ∀ x ∈ l.foldl putFirstFit ll, x ≠ [] from h l [] (by simp)
  intro l
  induction l with
  | nil => intro ll h; exact h
  | cons d r ih => intro ll h; exact ih _ (put_full h)
def total (ll : List (List Nat)) : Nat := (ll.map List.length).sum
theorem total_set : ∀ {ll : List (List Nat)} {k : Nat} {a : List Nat}, k < ll.length → total (ll.set k a) + (ll.getD k []).length = total ll + a.length
  | [], k, a, h => by simp at h
  | x :: r, 0, a, h => by
    simp [total]; omega
  | x :: r, k + 1, a, h => by
    have ih := total_set (ll := r) (k := k) (a := a) (by simpa using h)
    simp [total] at ih ⊢; omega
theorem total_app (a b : List (List Nat)) : total (a ++ b) = total a + total b := by
  simp [total]
theorem put_total (ll : List (List Nat)) (d : Nat) : total (putFirstFit ll d) = total ll + 1 := by
  by_cases c : place ll d = ll.length
  · rw [put_app c, total_app]; simp [total]
  · obtain ⟨h1, h2⟩ := put_old c
    rw [h2]
    have := total_set (ll := ll) (a := ll.getD (place ll d) [] ++ [d]) h1
    have e : (ll.getD (place ll d) [] ++ [d]).length = (ll.getD (place ll d) []).length + 1 := by rw [List.length_append]; rfl
    rw [e] at this
    omega
theorem ff_total (l : List Nat) : total (firstFitLanes l) = l.length := by
  unfold firstFitLanes
  suffices h : ∀ (l : List Nat) (ll : List (List Nat)), total (l.foldl putFirstFit ll) = total ll + l.length by
    have := h l []; simpa [total] using this
  intro l
  induction l with
  | nil => intro ll; simp
  | cons d r ih => intro ll; rw [List.foldl_cons, ih, put_total]; simp; omega
theorem put_len (ll : List (List Nat)) (d : Nat) : (putFirstFit ll d).length ≤ ll.length + 1 := by
  by_cases c : place ll d = ll.length
  · rw [put_app c]; simp
  · rw [(put_old c).2]; simp
theorem ff_len (l : List Nat) : (firstFitLanes l).length ≤ l.length := by
  unfold firstFitLanes
  suffices h : ∀ (l : List Nat) (ll : List (List Nat)), (l.foldl putFirstFit ll).length ≤ ll.length + l.length by
    have := h l []; simpa using this
  intro l
  induction l with
  | nil => intro ll; simp
  | cons d r ih =>
    intro ll
    rw [List.foldl_cons]
    have h1 := ih (putFirstFit ll d)
    have h2 := put_len ll d
    simp; omega
theorem take_more {α : Type} {l : List α} {i : Nat} {x : α} (h : l[i]? = some x) : l.take (i + 1) = l.take i ++ [x] := by
  rw [List.take_add_one, h]; rfl
theorem mem_total {ll : List (List Nat)} {l : List Nat} (h : l ∈ ll) : l.length ≤ total ll := by
  induction ll with
  | nil => simp at h
  | cons a r ih =>
    rcases List.mem_cons.mp h with q | q
    · subst q; simp [total]
    · have := ih q; simp [total] at this ⊢; omega

/-! nondecreasing, decreasing -/
theorem nd_zip : ∀ l : List Nat, ((l.zip (l.drop 1)).all fun p => decide (p.1 ≤ p.2)) = isNondecreasing l
  | [] => rfl
  | [_] => rfl
  | x :: y :: r => by
    have ih := nd_zip (y :: r)
    show (decide (x ≤ y) && (((y :: r).zip r).all fun p => decide (p.1 ≤ p.2))) = _
    unfold isNondecreasing
    rw [← ih]; rfl
theorem dec_zip : ∀ l : List Nat, ((l.zip (l.drop 1)).all fun p => decide (p.2 < p.1)) = isDecreasing l
  | [] => rfl
  | [_] => rfl
  | x :: y :: r => by
    have ih := dec_zip (y :: r)
    show (decide (y < x) && (((y :: r).zip r).all fun p => decide (p.2 < p.1))) = _
    unfold isDecreasing
    rw [← ih]; rfl

/-! subsequences -/
/-- what is chosen of the first i places -/
def chosenTo (l : List Nat) (mask i : Nat) : List Nat := ((List.range i).filter (isMember mask)).map (elementAt l)
theorem chosen_all (l : List Nat) (mask : Nat) : chosenTo l mask l.length = subsequence l mask := rfl
theorem chosen_zero (l : List Nat) (mask : Nat) : chosenTo l mask 0 = [] := rfl
theorem chosen_yes {l : List Nat} {mask i x : Nat} (h : l[i]? = some x) (hm : isMember mask i = true) : chosenTo l mask (i + 1) = chosenTo l mask i ++ [x] := by
  unfold chosenTo
  rw [List.range_succ, List.filter_append, List.map_append]
  have e : elementAt l i = x := by
    unfold elementAt
    rw [List.getD_eq_getElem?_getD, h]; rfl
  simp [hm, e]
theorem chosen_no {l : List Nat} {mask i : Nat} (hm : isMember mask i = false) : chosenTo l mask (i + 1) = chosenTo l mask i := by
  unfold chosenTo
  rw [List.range_succ, List.filter_append, List.map_append]
  simp [hm]
theorem chosen_len (l : List Nat) (mask i : Nat) : (chosenTo l mask i).length ≤ i := by
  unfold chosenTo
  rw [List.length_map]
  exact Nat.le_trans (List.length_filter_le _ _) (by simp)
theorem subs_len (l : List Nat) (mask : Nat) : (subsequence l mask).length = sizeOfSet l.length mask := by
  unfold subsequence sizeOfSet
  rw [List.length_map]
theorem subs_le (l : List Nat) (mask : Nat) : (subsequence l mask).length ≤ l.length := chosen_len l mask l.length
theorem subs_zero (l : List Nat) : subsequence l 0 = [] := by
  unfold subsequence
  have : (List.range l.length).filter (isMember 0) = [] := by
    rw [List.filter_eq_nil_iff]
    intro i hi
    unfold isMember
    simp
  rw [this]; rfl

/-- the best of the first i masks -/
def bestOf (l : List Nat) (ok : List Nat → Bool) (i : Nat) : Nat := (List.range i).foldl (fun best mask => if ok (subsequence l mask) && decide (sizeOfSet l.length best < sizeOfSet l.length mask) then mask else best) 0
theorem best_zero (l : List Nat) (ok : List Nat → Bool) : bestOf l ok 0 = 0 := rfl
theorem best_more (l : List Nat) (ok : List Nat → Bool) (i : Nat) : bestOf l ok (i + 1) = if ok (subsequence l i) && decide ((subsequence l (bestOf l ok i)).length < (subsequence l i).length) then i else bestOf l ok i := by
  unfold bestOf
  rw [List.range_succ, List.foldl_append, subs_len, subs_len]; rfl
theorem best_longest (l : List Nat) : bestOf l isDecreasing (2 ^ l.length) = longestDecreasing l := rfl
theorem best_max (k : Nat) (l : List Nat) : bestOf l (fun s => decide (lanesNeeded s ≤ k)) (2 ^ l.length) = maxSubset k l := rfl
end Trl

set_option linter.all false
namespace Trl
open Kh433

/-! valid assignments -/
/-- go on from the last dock of each lane -/
def goes (f : Nat → Nat) : List (Nat × Nat) → Bool
  | [] => true
  | (d, k) :: r => if f k > d then false else goes (fun j => if j = k then d else f j) r
def laneOf (ps : List (Nat × Nat)) (k : Nat) : List Nat := (ps.filter fun p => p.2 == k).map (·.1)
theorem nd_cons (a b : Nat) (l : List Nat) : isNondecreasing (a :: b :: l) = (decide (a ≤ b) && isNondecreasing (b :: l)) := rfl
theorem nd_zero : ∀ l : List Nat, isNondecreasing (0 :: l) = isNondecreasing l
  | [] => rfl
  | x :: r => by rw [nd_cons]; simp
theorem goes_iff : ∀ (ps : List (Nat × Nat)) (f : Nat → Nat), goes f ps = true ↔ ∀ k, isNondecreasing (f k :: laneOf ps k) = true
  | [], f => by
    refine ⟨fun _ k => rfl, fun _ => rfl⟩
  | (d, k) :: r, f => by
    show (if f k > d then false else goes (fun j => if j = k then d else f j) r) = true ↔ _
    have here : laneOf ((d, k) :: r) k = d :: laneOf r k := by simp [laneOf]
    have other : ∀ j, j ≠ k → laneOf ((d, k) :: r) j = laneOf r j := fun j hj => by
      have : (k == j) = false := by rw [beq_eq_false_iff_ne]; exact fun e => hj e.symm
      simp [laneOf, this]
    by_cases c : f k > d
    · rw [if_pos c]
      refine ⟨fun h => (by cases h), fun h => ?_⟩
      have := h k
      rw [here, nd_cons] at this
      have h1 := (Bool.and_eq_true_iff.mp this).1
      have := of_decide_eq_true h1
      omega
    · rw [if_neg c, goes_iff r]
      constructor
      · intro h j
        by_cases e : j = k
        · subst e
          have := h j
          rw [if_pos rfl] at this
          rw [here, nd_cons, this]
          simp; omega
        · have := h j
          rw [if_neg e] at this
          rw [other j e]; exact this
      · intro h j
        by_cases e : j = k
        · subst e
          have := h j
          rw [here, nd_cons] at this
          rw [if_pos rfl]
          exact (Bool.and_eq_true_iff.mp this).2
        · have := h j
          rw [other j e] at this
          rw [if_neg e]; exact this
theorem laneOf_zip : ∀ (l as : List Nat), l.length = as.length → ∀ k, laneOf (l.zip as) k = docksInLane l as k := by
  intro l as hl k
  unfold laneOf docksInLane
  have e : l.zip as = (List.range l.length).map fun i => (elementAt l i, elementAt as i) := by
    apply List.ext_getElem?
    intro i
    rw [List.getElem?_map]
    by_cases h : i < l.length
    · have h2 : i < as.length := by omega
      rw [List.getElem?_range h]
      have : (l.zip as)[i]? = some (l[i], as[i]) := by
        rw [List.getElem?_eq_getElem (by simp; omega)]
        simp
      rw [this]
      show _ = some (elementAt l i, elementAt as i)
      unfold elementAt
      rw [List.getD_eq_getElem?_getD, List.getD_eq_getElem?_getD, List.getElem?_eq_getElem h, List.getElem?_eq_getElem h2]; rfl
    · rw [List.getElem?_eq_none (by simp; omega), List.getElem?_eq_none (by simp; omega)]; rfl
  rw [e, List.filter_map, List.map_map]
  rfl
/-- what the loop says of an assignment is what the specification says -/
theorem valid_iff {n : Nat} {l as : List Nat} (hl : as.length = l.length) (hn : ∀ k ∈ as, k < n) : isValidAssignment n l as = goes (fun _ => 0) (l.zip as) := by
  rw [Bool.eq_iff_iff, goes_iff]
  unfold isValidAssignment
  have h1 : decide (as.length = l.length) = true := decide_eq_true hl
  have h2 : as.all (fun k => decide (k < n)) = true := by
    rw [List.all_eq_true]; intro k hk; exact decide_eq_true (hn k hk)
  rw [h1, h2, Bool.true_and, Bool.true_and, List.all_eq_true]
  constructor
  · intro h k
    rw [nd_zero, laneOf_zip l as hl.symm]
    by_cases c : k < n
    · exact h k (List.mem_range.mpr c)
    · have : docksInLane l as k = [] := by
        unfold docksInLane
        rw [List.map_eq_nil_iff, List.filter_eq_nil_iff]
        intro i hi
        have hi' : i < as.length := by rw [hl]; exact List.mem_range.mp hi
        unfold elementAt
        rw [List.getD_eq_getElem?_getD, List.getElem?_eq_getElem hi']
        have := hn as[i] (List.getElem_mem hi')
        simp; omega
      rw [this]; rfl
  · intro h k hk
    have := h k
    rwa [nd_zero, laneOf_zip l as hl.symm] at this

/-! all assignments -/
/-- as the program makes them: one more behind each -/
def assigns (n : Nat) : Nat → List (List Nat)
  | 0 => [[]]
  | m + 1 => (assigns n m).flatMap fun a => (List.range n).map fun k => a ++ [k]
theorem assigns_eq (n : Nat) : ∀ m, assigns n m = allAssignments n m
  | 0 => rfl
  | 1 => by
    show ([[]] : List (List Nat)).flatMap _ = (List.range n).flatMap _
    simp [allAssignments]
    induction List.range n with
    | nil => rfl
    | cons a r ih => simp [← ih]
  | m + 2 => by
    have ih1 := assigns_eq n (m + 1)
    have ih0 := assigns_eq n m
    show (assigns n (m + 1)).flatMap _ = (List.range n).flatMap fun k => (allAssignments n (m + 1)).map fun rest => k :: rest
    rw [ih1]
    show ((List.range n).flatMap fun k => (allAssignments n m).map fun rest => k :: rest).flatMap _ = _
    rw [List.flatMap_assoc]
    congr 1
    funext k
    rw [← ih1]
    show _ = ((assigns n m).flatMap fun a => (List.range n).map fun k => a ++ [k]).map fun rest => k :: rest
    rw [← ih0, List.flatMap_map, List.map_flatMap]
    congr 1
    funext a
    rw [List.map_map]
    rfl
theorem assigns_len (n : Nat) : ∀ m, (assigns n m).length = n ^ m
  | 0 => rfl
  | m + 1 => by
    have ih := assigns_len n m
    show ((assigns n m).flatMap _).length = _
    rw [List.length_flatMap]
    have : (assigns n m).map (fun a => ((List.range n).map fun k => a ++ [k]).length) = (assigns n m).map fun _ => n := by
      congr 1; funext a; simp
    rw [this]
    have : ∀ l : List (List Nat), (l.map fun _ => n).sum = l.length * n := by
      intro l; induction l with
      | nil => simp
      | cons a r ih => simp [ih, Nat.succ_mul]; omega
    rw [this, ih, Nat.pow_succ]
theorem assigns_mem (n : Nat) : ∀ m, ∀ a ∈ assigns n m, a.length = m ∧ ∀ k ∈ a, k < n
  | 0, a, h => by
    have : a = [] := List.mem_singleton.mp h
    subst this; simp
  | m + 1, a, h => by
    obtain ⟨b, hb, h2⟩ := List.mem_flatMap.mp h
    obtain ⟨k, hk, e⟩ := List.mem_map.mp h2
    subst e
    obtain ⟨h3, h4⟩ := assigns_mem n m b hb
    refine ⟨by simp [h3], fun j hj => ?_⟩
    rcases List.mem_append.mp hj with q | q
    · exact h4 j q
    · rw [List.mem_singleton.mp q]; exact List.mem_range.mp hk

/-! the next lane -/
/-- the best of the first i lanes -/
def nextOf (ll : List (List Nat)) (i : Nat) : Option Nat := (List.range i).foldl (fun best k => match (ll.getD k []).head?, best with
  | none, _ => best
  | some _, none => some k
  | some x, some j => match (ll.getD j []).head? with
    | none => some k
    | some y => if x < y then some k else best) none
theorem next_all (ll : List (List Nat)) : nextOf ll ll.length = nextLane ll := rfl
theorem next_zero (ll : List (List Nat)) : nextOf ll 0 = none := rfl
theorem next_step (ll : List (List Nat)) (i : Nat) : nextOf ll (i + 1) = (match (ll.getD i []).head?, nextOf ll i with
  | none, b => b
  | some _, none => some i
  | some x, some j => match (ll.getD j []).head? with
    | none => some i
    | some y => if x < y then some i else some j) := by
  unfold nextOf
  rw [List.range_succ, List.foldl_append, List.foldl_cons, List.foldl_nil]
  generalize (List.range i).foldl _ _ = b
  cases (ll.getD i []).head? with
  | none => rfl
  | some x => cases b with
    | none => rfl
    | some j => rfl
theorem next_empty {ll : List (List Nat)} {i : Nat} (h : ll.getD i [] = []) : nextOf ll (i + 1) = nextOf ll i := by
  rw [next_step, h]; rfl
theorem next_first {ll : List (List Nat)} {i x : Nat} {r : List Nat} (h : ll.getD i [] = x :: r) (hb : nextOf ll i = none) : nextOf ll (i + 1) = some i := by
  rw [next_step, h, hb]; rfl
theorem next_other {ll : List (List Nat)} {i j x y : Nat} {r t : List Nat} (h : ll.getD i [] = x :: r) (hb : nextOf ll i = some j) (hj : ll.getD j [] = y :: t) : nextOf ll (i + 1) = if x < y then some i else some j := by
  rw [next_step, h, hb]
  show (match (ll.getD j []).head? with
    | none => some i
    | some y => if x < y then some i else some j) = _
  rw [hj]; rfl
/-- the best lane so far is one of them, and not empty -/
theorem next_full {ll : List (List Nat)} : ∀ {i j : Nat}, nextOf ll i = some j → j < i ∧ ∃ x r, ll.getD j [] = x :: r
  | 0, j, h => by cases h
  | i + 1, j, h => by
    cases c : ll.getD i [] with
    | nil =>
      rw [next_empty c] at h
      obtain ⟨h1, h2⟩ := next_full h
      exact ⟨by omega, h2⟩
    | cons x r =>
      cases b : nextOf ll i with
      | none =>
        rw [next_first c b] at h
        cases h
        exact ⟨by omega, x, r, c⟩
      | some k =>
        obtain ⟨h1, y, t, h2⟩ := next_full b
        rw [next_other c b h2] at h
        by_cases q : x < y
        · rw [if_pos q] at h; cases h; exact ⟨by omega, x, r, c⟩
        · rw [if_neg q] at h; cases h; exact ⟨by omega, y, t, h2⟩
theorem lane_full {ll : List (List Nat)} {j : Nat} (h : nextLane ll = some j) : j < ll.length ∧ ∃ x r, ll.getD j [] = x :: r := next_full (i := ll.length) h
theorem next_none {ll : List (List Nat)} : ∀ {i : Nat}, nextOf ll i = none → ∀ j, j < i → ll.getD j [] = []
  | 0, _, j, hj => by omega
  | i + 1, h, j, hj => by
    cases c : ll.getD i [] with
    | cons x r =>
      cases b : nextOf ll i with
      | none => rw [next_first c b] at h; cases h
      | some k =>
        obtain ⟨h1, y, t, h2⟩ := next_full b
        rw [next_other c b h2] at h
        by_cases q : x < y
        · rw [if_pos q] at h; cases h
        · rw [if_neg q] at h; cases h
    | nil =>
      rw [next_empty c] at h
      by_cases q : j = i
      · rw [q]; exact c
      · exact next_none h j (by omega)

/-! the merge -/
theorem total_getD {ll : List (List Nat)} {k x : Nat} {r : List Nat} (h : ll.getD k [] = x :: r) : total (ll.set k r) + 1 = total ll := by
  have hk : k < ll.length := by
    by_cases c : k < ll.length
    · exact c
    · rw [List.getD_eq_getElem?_getD, List.getElem?_eq_none (by omega)] at h; cases h
  have := total_set (ll := ll) (a := r) hk
  rw [h] at this
  simp at this; omega
theorem merge_none {ll : List (List Nat)} (f : Nat) (h : nextLane ll = none) : mergeOrder f ll = [] := by
  cases f with
  | zero => rfl
  | succ n => unfold mergeOrder; rw [h]
theorem merge_some {ll : List (List Nat)} {k x : Nat} {r : List Nat} (h : nextLane ll = some k) (hk : ll.getD k [] = x :: r) : mergeOrder (total ll) ll = x :: mergeOrder (total (ll.set k r)) (ll.set k r) := by
  have e := total_getD hk
  rw [← e]
  conv => lhs; unfold mergeOrder
  rw [h]
  simp only [hk]
theorem in_total (y : Yard) : inLanes y = total y.lanes := rfl
theorem merge_len : ∀ (f : Nat) (ll : List (List Nat)), (mergeOrder f ll).length ≤ f
  | 0, _ => by simp [mergeOrder]
  | f + 1, ll => by
    unfold mergeOrder
    cases e : nextLane ll with
    | none => simp
    | some k =>
      simp only
      cases c : ll.getD k [] with
      | nil => simp
      | cons x r =>
        simp only [List.length_cons]
        have := merge_len f (ll.set k r)
        omega

/-! lanes by place -/
theorem lane_at {ll : List (List Nat)} {k : Nat} {l : List Nat} (h : ll[k]? = some l) : ll.getD k [] = l := by
  rw [List.getD_eq_getElem?_getD, h]; rfl
theorem lane_get {ll : List (List Nat)} {k : Nat} (h : k < ll.length) : ll[k]? = some (ll.getD k []) := by
  rw [List.getD_eq_getElem?_getD, List.getElem?_eq_getElem h]; rfl
theorem all_empty {ll : List (List Nat)} (h : total ll = 0) : ∀ (k : Nat) l, ll[k]? = some l → l = [] := by
  intro k l hk
  have := mem_total (List.mem_of_getElem? hk)
  exact List.eq_nil_of_length_eq_zero (by omega)
/-- the lanes behind i of the found ones -/
def spread (n : Nat) (found : List (List Nat)) : List (List Nat) := (List.range n).map fun k => found.getD k []
theorem spread_len (n : Nat) (found : List (List Nat)) : (spread n found).length = n := by simp [spread]
theorem spread_at {n k : Nat} (found : List (List Nat)) (h : k < n) : (spread n found)[k]? = some (found.getD k []) := by
  unfold spread
  rw [List.getElem?_map, List.getElem?_range h]; rfl
theorem spread_nil {ll : List (List Nat)} (h : total ll = 0) : spread ll.length [] = ll := by
  apply List.ext_getElem?
  intro k
  by_cases c : k < ll.length
  · rw [spread_at _ c, lane_get c]
    have := all_empty h k _ (lane_get c)
    rw [this]; rfl
  · rw [List.getElem?_eq_none (by simp [spread_len]; omega), List.getElem?_eq_none (by omega)]
theorem getD_take {found : List (List Nat)} {i j : Nat} : (found.take i).getD j [] = if j < i then found.getD j [] else [] := by
  rw [List.getD_eq_getElem?_getD, List.getD_eq_getElem?_getD, List.getElem?_take]
  by_cases c : j < i
  · rw [if_pos c, if_pos c]
  · rw [if_neg c, if_neg c]; rfl
theorem spread_step {n i : Nat} {found : List (List Nat)} {l : List Nat} (hi : i < n) (h : found[i]? = some l) : spread n (found.take (i + 1)) = (spread n (found.take i)).set i l ∧ (spread n (found.take i))[i]? = some [] := by
  refine ⟨?_, ?_⟩
  · apply List.ext_getElem?
    intro k
    by_cases c : k < n
    · rw [spread_at _ c]
      by_cases e : k = i
      · subst e
        rw [List.getElem?_set_self (by simp [spread_len]; omega), getD_take, if_pos (by omega), lane_at h]
      · rw [List.getElem?_set_ne (fun q => e q.symm), spread_at _ c, getD_take, getD_take]
        by_cases q : k < i
        · rw [if_pos q, if_pos (by omega)]
        · rw [if_neg q, if_neg (by omega)]
    · rw [List.getElem?_eq_none (by simp [spread_len]; omega), List.getElem?_eq_none (by simp [spread_len]; omega)]
  · rw [spread_at _ hi, getD_take, if_neg (by omega)]
theorem spread_total {found : List (List Nat)} : ∀ {n : Nat}, found.length ≤ n → total (spread n found) = total found := by
  intro n h
  have e : spread n found = found ++ List.replicate (n - found.length) [] := by
    apply List.ext_getElem?
    intro k
    by_cases c : k < n
    · rw [spread_at _ c]
      by_cases q : k < found.length
      · rw [List.getElem?_append_left q, lane_get q]
      · rw [List.getElem?_append_right (by omega), List.getElem?_replicate, if_pos (by omega), List.getD_eq_getElem?_getD, List.getElem?_eq_none (by omega)]; rfl
    · rw [List.getElem?_eq_none (by simp [spread_len]; omega), List.getElem?_eq_none (by simp; omega)]
  rw [e, total_app]
  simp [total]
end Trl

set_option linter.all false
namespace Trl
open Kh433

/-! the request, call by call -/
theorem whole_id (c : List (List Int)) : PyKh433.whole c = c := by
  unfold PyKh433.whole
  split <;> rfl
def withNumber (d : Nat) : Bool := [0, 1, 3, 5, 16, 17, 18, 21].contains d
def callOf (d : Nat) (nums row : List Nat) : Kh433.Call := match d with
  | 0 => .create (nums.getD 0 0)
  | 1 => .addTrolley (nums.getD 0 0)
  | 2 => .removeLastTrolley
  | 3 => .moveToLane (nums.getD 0 0)
  | 4 => .distribute
  | 5 => .release (nums.getD 0 0)
  | 6 => .releaseNext
  | 7 => .openLane
  | 8 => .listIncoming
  | 9 => .listLanes
  | 10 => .listDeparted
  | 11 => .lanesNeeded
  | 12 => .firstFitLanes
  | 13 => .longestDecreasing
  | 14 => .isValidAssignment row
  | 15 => .countAssignments
  | 16 => .maxSubset (nums.getD 0 0)
  | 17 => .lanesNeededWith (nums.getD 0 0)
  | 18 => .lanesNeededWithout (nums.getD 0 0)
  | 19 => .mergeOrder
  | 20 => .isSorted
  | 21 => .isLaneSorted (nums.getD 0 0)
  | 22 => .longestNondecreasing
  | _ => .status
/-- whole numbers that are not negative -/
def zs (us : List Nat) : List Int := us.map Int.ofNat
theorem zs_at {us : List Nat} {i : Nat} {p : Int} {r : List Int} (h : (zs us).drop i = p :: r) : ∃ d, us[i]? = some d ∧ p = Int.ofNat d ∧ r = zs (us.drop (i + 1)) := by
  unfold zs at h ⊢
  rw [← List.map_drop] at h
  cases e : us.drop i with
  | nil => rw [e] at h; cases h
  | cons d t =>
    rw [e] at h
    injection h with h1 h2
    refine ⟨d, ?_, h1.symm, ?_⟩
    · have : (us.drop i)[0]? = some d := by rw [e]; rfl
      rw [List.getElem?_drop] at this
      exact this
    · have : us.drop (i + 1) = t := by
        rw [← List.drop_drop, e]; rfl
      rw [this]; exact h2.symm
theorem zs_len (us : List Nat) : (zs us).length = us.length := by simp [zs]
theorem zs_take (us : List Nat) (n : Nat) : (zs us).take n = zs (us.take n) := by simp [zs, List.map_take]
theorem zs_drop (us : List Nat) (n : Nat) : (zs us).drop n = zs (us.drop n) := by simp [zs, List.map_drop]
theorem zs_nat (us : List Nat) : (zs us).map Int.toNat = us := by
  unfold zs
  rw [List.map_map]
  induction us with
  | nil => rfl
  | cons a r ih =>
    rw [List.map_cons, ih]; rfl
/-- what the program reads of one call -/
structure Read (us : List Nat) (i d : Nat) (nums row : List Nat) (j : Nat) : Prop where
  at_ : us[i]? = some d
  small : d ≤ 23
  numsE : nums = (us.drop (i + 1)).take (if withNumber d then 1 else 0)
  one : withNumber d = true → ∃ x, nums = [x]
  some_ : d = 14 → ∃ many, us[i + 1]? = some many ∧ row = (us.drop (i + 2)).take many ∧ j = i + 2 + many ∧ j ≤ us.length
  none_ : d ≠ 14 → row = [] ∧ j = i + 1 + (if withNumber d then 1 else 0)
  le : j ≤ us.length
theorem Read.lt {us : List Nat} {i d j : Nat} {nums row : List Nat} (h : Read us i d nums row j) : i < j := by
  by_cases c : d = 14
  · obtain ⟨m, _, _, e, _⟩ := h.some_ c
    omega
  · have := (h.none_ c).2
    omega
theorem shape_ (d : Nat) (h : PyKh433.shape (Int.ofNat d) ≠ none) : d ≤ 23 ∧ PyKh433.shape (Int.ofNat d) = some (if withNumber d then 1 else 0, if d = 14 then 1 else 0) := by
  by_cases c : d ≤ 23
  · refine ⟨c, ?_⟩
    have : ∀ k : Fin 24, PyKh433.shape (Int.ofNat k.val) = some (if withNumber k.val then 1 else 0, if k.val = 14 then 1 else 0) := by decide +kernel
    exact this ⟨d, by omega⟩
  · exfalso
    apply h
    unfold PyKh433.shape
    have e : ∀ k : Int, k ≤ 23 → Int.ofNat d ≠ k := fun k hk q => by
      have : (d : Int) = k := q
      omega
    rw [if_neg (e 0 (by omega)), if_neg (e 1 (by omega)), if_neg (e 2 (by omega)), if_neg (e 3 (by omega)), if_neg (e 4 (by omega)), if_neg (e 5 (by omega)), if_neg (e 6 (by omega)), if_neg (e 7 (by omega)), if_neg (e 8 (by omega)), if_neg (e 9 (by omega)), if_neg (e 10 (by omega)), if_neg (e 11 (by omega)), if_neg (e 12 (by omega)), if_neg (e 13 (by omega)), if_neg (e 14 (by omega)), if_neg (e 15 (by omega)), if_neg (e 16 (by omega)), if_neg (e 17 (by omega)), if_neg (e 18 (by omega)), if_neg (e 19 (by omega)), if_neg (e 20 (by omega)), if_neg (e 21 (by omega)), if_neg (e 22 (by omega)), if_neg (e 23 (by omega))]
/-- the next call of a request -/
theorem next_call {us : List Nat} {i f : Nat} {raw : List (List (List Int))} (hi : i < us.length) (h : PyFlat.calls PyKh433.shape f ((zs us).drop i) = some raw) :
    ∃ d nums row j c cs f', Read us i d nums row j ∧ raw = c :: cs ∧ Kh433Neutral.decodeCall c = callOf d nums row ∧ PyFlat.calls PyKh433.shape f' ((zs us).drop j) = some cs := by
  cases e : (zs us).drop i with
  | nil =>
    have := congrArg List.length e
    rw [List.length_drop, zs_len] at this
    simp at this; omega
  | cons p r =>
    obtain ⟨d, h1, rfl, rfl⟩ := zs_at e
    rw [e] at h
    cases f with
    | zero => cases h
    | succ f =>
      unfold PyFlat.calls at h
      cases hc : PyFlat.call PyKh433.shape (Int.ofNat d :: zs (us.drop (i + 1))) with
      | none => rw [hc] at h; cases h
      | some ct =>
        obtain ⟨c, t⟩ := ct
        rw [hc] at h
        simp only at h
        cases ht : PyFlat.calls PyKh433.shape f t with
        | none => rw [ht] at h; cases h
        | some cs =>
          rw [ht] at h
          simp only [Option.some.injEq] at h
          unfold PyFlat.call at hc
          dsimp only at hc
          have sh := shape_ d (fun q => by rw [q] at hc; cases hc)
          obtain ⟨h23, sh⟩ := sh
          rw [sh] at hc
          simp only at hc
          have hlen : (zs (us.drop (i + 1))).length = us.length - (i + 1) := by rw [zs_len, List.length_drop]
          by_cases c14 : d = 14
          · -- a row
            subst c14
            have w0 : withNumber 14 = false := by decide
            rw [w0] at hc
            simp only [Bool.false_eq_true, if_false, if_true, Nat.not_lt_zero, List.drop_zero, List.take_zero] at hc
            cases hr : PyFlat.rows 1 (zs (us.drop (i + 1))) with
            | none => rw [hr] at hc; cases hc
            | some xt =>
              obtain ⟨xs, t'⟩ := xt
              rw [hr] at hc
              simp only [Option.some.injEq, Prod.mk.injEq] at hc
              obtain ⟨rfl, rfl⟩ := hc
              unfold PyFlat.rows at hr
              cases hw : PyFlat.row (zs (us.drop (i + 1))) with
              | none => rw [hw] at hr; cases hr
              | some ys =>
                obtain ⟨x, s⟩ := ys
                rw [hw] at hr
                simp only [PyFlat.rows, Option.some.injEq, Prod.mk.injEq] at hr
                obtain ⟨rfl, rfl⟩ := hr
                unfold PyFlat.row at hw
                cases q : zs (us.drop (i + 1)) with
                | nil => rw [q] at hw; cases hw
                | cons n r2 =>
                  rw [q] at hw
                  simp only at hw
                  rw [← zs_drop] at q
                  obtain ⟨many, g1, rfl, rfl⟩ := zs_at q
                  split at hw
                  · rename_i hle
                    simp only [Option.some.injEq, Prod.mk.injEq] at hw
                    obtain ⟨rfl, rfl⟩ := hw
                    have hm : (Int.ofNat many).toNat = many := rfl
                    rw [hm] at hle ht h
                    rw [zs_len, List.length_drop] at hle
                    have hi1 : i + 1 < us.length := (List.getElem?_eq_some_iff.mp g1).1
                    refine ⟨14, [], (us.drop (i + 2)).take many, i + 2 + many, _, cs, f, ⟨h1, h23, ?_, fun z => (by cases z), fun _ => ⟨many, g1, rfl, rfl, by omega⟩, fun z => (z rfl).elim, by omega⟩, h.symm, ?_, ?_⟩
                    · rw [w0]; simp
                    · show Kh433.Call.isValidAssignment (((zs (us.drop (i + 1 + 1))).take many).map Int.toNat) = Kh433.Call.isValidAssignment _
                      rw [zs_take, zs_nat]
                    · rw [zs_drop] at ht ⊢
                      rw [List.drop_drop] at ht
                      exact ht
                  · cases hw
          · rw [if_neg c14] at hc
            simp only [PyFlat.rows] at hc
            by_cases hw : withNumber d = true
            · rw [hw] at hc
              simp only [if_true] at hc
              by_cases hl : (zs (us.drop (i + 1))).length < 1
              · rw [if_pos hl] at hc; cases hc
              · rw [if_neg hl] at hc
                simp only [Option.some.injEq, Prod.mk.injEq] at hc
                obtain ⟨rfl, rfl⟩ := hc
                cases q : us.drop (i + 1) with
                | nil => rw [q] at hl; simp [zs] at hl
                | cons x r2 =>
                  have hx : (us.drop (i + 1)).take 1 = [x] := by rw [q]; rfl
                  refine ⟨d, [x], [], i + 1 + 1, _, cs, f, ⟨h1, h23, by rw [hw]; exact hx.symm, fun _ => ⟨x, rfl⟩, fun z => (c14 z).elim, fun _ => ⟨rfl, by rw [hw]; rfl⟩, by omega⟩, h.symm, ?_, ?_⟩
                  · rw [zs_take, q]
                    show Kh433Neutral.decodeCall [[Int.ofNat d, Int.ofNat x]] = callOf d [x] []
                    have hd : d < 24 := by omega
                    unfold Kh433Neutral.decodeCall
                    match d, hd with
                    | 0, _ => rfl
                    | 1, _ => rfl
                    | 2, _ => rfl
                    | 3, _ => rfl
                    | 4, _ => rfl
                    | 5, _ => rfl
                    | 6, _ => rfl
                    | 7, _ => rfl
                    | 8, _ => rfl
                    | 9, _ => rfl
                    | 10, _ => rfl
                    | 11, _ => rfl
                    | 12, _ => rfl
                    | 13, _ => rfl
                    | 14, _ => exact (c14 rfl).elim
                    | 15, _ => rfl
                    | 16, _ => rfl
                    | 17, _ => rfl
                    | 18, _ => rfl
                    | 19, _ => rfl
                    | 20, _ => rfl
                    | 21, _ => rfl
                    | 22, _ => rfl
                    | 23, _ => rfl
                  · rw [zs_drop] at ht ⊢
                    rw [List.drop_drop] at ht
                    exact ht
            · have hw' : withNumber d = false := by
                cases z : withNumber d with
                | true => exact (hw z).elim
                | false => rfl
              rw [hw'] at hc
              simp only [Bool.false_eq_true, if_false, Nat.not_lt_zero, List.drop_zero, List.take_zero, Option.some.injEq, Prod.mk.injEq] at hc
              obtain ⟨rfl, rfl⟩ := hc
              refine ⟨d, [], [], i + 1, _, cs, f, ⟨h1, h23, by rw [hw']; simp, fun z => (hw z).elim, fun z => (c14 z).elim, fun _ => ⟨rfl, by rw [hw']; rfl⟩, by omega⟩, h.symm, ?_, ?_⟩
              · show Kh433Neutral.decodeCall [[Int.ofNat d]] = callOf d [] []
                have hd : d < 24 := by omega
                unfold Kh433Neutral.decodeCall
                match d, hd with
                | 0, _ => rfl
                | 1, _ => rfl
                | 2, _ => rfl
                | 3, _ => rfl
                | 4, _ => rfl
                | 5, _ => rfl
                | 6, _ => rfl
                | 7, _ => rfl
                | 8, _ => rfl
                | 9, _ => rfl
                | 10, _ => rfl
                | 11, _ => rfl
                | 12, _ => rfl
                | 13, _ => rfl
                | 14, _ => exact (c14 rfl).elim
                | 15, _ => rfl
                | 16, _ => rfl
                | 17, _ => rfl
                | 18, _ => rfl
                | 19, _ => rfl
                | 20, _ => rfl
                | 21, _ => rfl
                | 22, _ => rfl
                | 23, _ => rfl
              · rw [zs_drop]; exact ht
theorem calls_end {us : List Nat} {i f : Nat} {raw : List (List (List Int))} (hi : us.length ≤ i) (h : PyFlat.calls PyKh433.shape f ((zs us).drop i) = some raw) : raw = [] := by
  have e : (zs us).drop i = [] := List.drop_eq_nil_of_le (by rw [zs_len]; exact hi)
  rw [e] at h
  cases f with
  | zero => cases h; rfl
  | succ f => cases h; rfl
def exec (s : Option Yard) (d : Nat) (nums row : List Nat) : Option Yard × List Int :=
  let r := Kh433.execute s (callOf d nums row)
  (r.1, r.2.status :: r.2.values)
theorem told_cons (s : Option Yard) (c : List (List Int)) (cs : List (List (List Int))) {d : Nat} {nums row : List Nat} (h : Kh433Neutral.decodeCall c = callOf d nums row) :
    PyFlat.told (PyFlat.played Kh433Neutral.step s (c :: cs)) = (((exec s d nums row).2.length : Int) :: (exec s d nums row).2) ++ PyFlat.told (PyFlat.played Kh433Neutral.step (exec s d nums row).1 cs) := by
  have e : Kh433Neutral.step s c = exec s d nums row := by
    unfold Kh433Neutral.step exec
    rw [h]
  show PyFlat.told ((Kh433Neutral.step s c).2 :: PyFlat.played Kh433Neutral.step (Kh433Neutral.step s c).1 cs) = _
  rw [e]
  rfl
/-- what is asked, for the proof -/
theorem asked_ {ns : List Int} (h : PyKh433.answers_asked ns = true) : ∃ raw, PyFlat.calls PyKh433.shape ns.length ns = some raw ∧ raw.length ≤ 60 ∧ (PyKh433.answers ns).length ≤ 10000000 ∧
    PyKh433.answers ns = PyFlat.told (PyFlat.played Kh433Neutral.step none raw) := by
  unfold PyKh433.answers_asked at h
  cases e : PyFlat.calls PyKh433.shape ns.length ns with
  | none => rw [e] at h; cases h
  | some raw =>
    rw [e] at h
    simp only [Bool.and_eq_true] at h
    obtain ⟨⟨⟨⟨_, h2⟩, _⟩, _⟩, h5⟩ := h
    refine ⟨raw, rfl, of_decide_eq_true h2, of_decide_eq_true h5, ?_⟩
    unfold PyKh433.answers PyKh433.calls
    rw [e]
    have : raw.map PyKh433.whole = raw := by
      have : PyKh433.whole = id := funext whole_id
      rw [this, List.map_id]
    show PyFlat.told (PyFlat.played Kh433Neutral.step Kh433Neutral.start (raw.map PyKh433.whole)) = _
    rw [this]; rfl

/-! what stays true of a yard -/
structure Good (i : Nat) (m : Yard) : Prop where
  inc : m.incoming.length ≤ 8
  lan : m.lanes.length ≤ 4
  all : m.incoming.length + total m.lanes + m.departed.length ≤ i
theorem Good.mono {i j : Nat} {m : Yard} (h : Good i m) (hij : i ≤ j) : Good j m := ⟨h.inc, h.lan, by have := h.all; omega⟩
theorem total_rep (n : Nat) : total (List.replicate n ([] : List Nat)) = 0 := by simp [total]
theorem good_apply {i : Nat} {m : Yard} (h : Good i m) (c : Kh433.Call) : Good (i + 1) (apply m c).1 := by
  have hall := h.all
  cases c with
  | addTrolley d =>
    unfold apply; simp only
    split
    · exact h.mono (by omega)
    · split
      · exact h.mono (by omega)
      · rename_i h1 h2
        unfold maxIncoming at h2
        exact ⟨by simp; omega, h.lan, by simp; omega⟩
  | removeLastTrolley =>
    unfold apply; simp only
    split
    · exact h.mono (by omega)
    · have := h.inc
      exact ⟨by simp; omega, h.lan, by simp; omega⟩
  | moveToLane k =>
    unfold apply; simp only
    split
    · exact h.mono (by omega)
    · rename_i d r e
      split
      · exact h.mono (by omega)
      · rename_i h1
        have hk : k < m.lanes.length := by
          unfold isLane at h1
          simpa using h1
        have h2 := total_set (a := m.lanes.getD k [] ++ [d]) hk
        have h3 : (m.lanes.getD k [] ++ [d]).length = (m.lanes.getD k []).length + 1 := by rw [List.length_append]; rfl
        have h4 := h.inc
        rw [e] at h4 hall
        simp only [List.length_cons] at h4 hall
        exact ⟨by show r.length ≤ 8; omega, by show (m.lanes.set k _).length ≤ 4; rw [List.length_set]; exact h.lan, by show r.length + total (m.lanes.set k _) + m.departed.length ≤ i + 1; omega⟩
  | distribute =>
    unfold apply; simp only
    split
    · exact h.mono (by omega)
    · split
      · exact h.mono (by omega)
      · rename_i h1 h2
        have h3 : (firstFitLanes m.incoming).length ≤ m.lanes.length := by
          unfold Kh433.lanesNeeded at h2
          omega
        have e := spread_total h3
        have e2 := ff_total m.incoming
        refine ⟨by show ([] : List Nat).length ≤ 8; simp, by show (spread _ _).length ≤ 4; rw [spread_len]; exact h.lan, ?_⟩
        show 0 + total (spread m.lanes.length (firstFitLanes m.incoming)) + m.departed.length ≤ i + 1
        omega
  | release k =>
    unfold apply; simp only
    split
    · exact h.mono (by omega)
    · split
      · exact h.mono (by omega)
      · rename_i d r e
        have e2 := total_getD e
        exact ⟨h.inc, by show (m.lanes.set k r).length ≤ 4; rw [List.length_set]; exact h.lan, by show m.incoming.length + total (m.lanes.set k r) + (m.departed ++ [d]).length ≤ i + 1; rw [List.length_append]; simp; omega⟩
  | releaseNext =>
    unfold apply; simp only
    split
    · exact h.mono (by omega)
    · rename_i k _
      split
      · exact h.mono (by omega)
      · rename_i d r e
        have e2 := total_getD e
        exact ⟨h.inc, by show (m.lanes.set k r).length ≤ 4; rw [List.length_set]; exact h.lan, by show m.incoming.length + total (m.lanes.set k r) + (m.departed ++ [d]).length ≤ i + 1; rw [List.length_append]; simp; omega⟩
  | openLane =>
    unfold apply; simp only
    split
    · exact h.mono (by omega)
    · rename_i h1
      unfold maxLanes at h1
      refine ⟨h.inc, by show (m.lanes ++ [[]]).length ≤ 4; simp; omega, ?_⟩
      show m.incoming.length + total (m.lanes ++ [[]]) + m.departed.length ≤ i + 1
      rw [total_app]
      have : total [([] : List Nat)] = 0 := rfl
      omega
  | _ => exact h.mono (by omega)
theorem good_exec {i d : Nat} {s : Option Yard} {nums row : List Nat} (h : ∀ m, s = some m → Good i m) : ∀ m, (exec s d nums row).1 = some m → Good (i + 1) m := by
  intro m hm
  have hm : (execute s (callOf d nums row)).1 = some m := hm
  generalize callOf d nums row = c at hm
  have create : ∀ k : Nat, (execute s (.create k)).1 = some m → Good (i + 1) m := fun k hm => by
    have hm : (if k < 1 ∨ maxLanes < k then (s, single (-22)) else (some (⟨[], List.replicate k [], []⟩ : Yard), single 0)).1 = some m := by
      rw [← hm]; rfl
    split at hm
    · exact (h m hm).mono (by omega)
    · rename_i hk
      have e : (⟨[], List.replicate k [], []⟩ : Yard) = m := Option.some.inj hm
      subst e
      unfold maxLanes at hk
      refine ⟨by simp, by simp; omega, ?_⟩
      show 0 + total (List.replicate k []) + 0 ≤ i + 1
      rw [total_rep]; omega
  cases s with
  | none => cases c with
    | create k => exact create k hm
    | _ => cases hm
  | some y =>
    have g := good_apply (h y rfl) c
    cases c with
    | create k => exact create k hm
    | _ =>
      have e := Option.some.inj hm
      rw [← e]
      exact g
end Trl

set_option Elab.async false
set_option linter.all false
set_option maxRecDepth 100000
set_option maxHeartbeats 4000000
namespace Trl
open PySem PySem.Spec PyProof.Rows L2

/-! ### a dict of the top whose keys are ints -/
/-- its entries in order: a key, the address of its value -/
def entB : List DictEntry → List (Int × Addr) → Bool
  | [], [] => true
  | e :: es, p :: ps => (match e.key with
      | .int k _ => decide (k = p.1)
      | _ => false) && (decide (e.hash = hashInt p.1) && ((match e.val with
      | .ref a => decide (a = p.2)
      | _ => false) && entB es ps))
  | _, _ => false
theorem entB_keys : ∀ {es : List DictEntry} {ps : List (Int × Addr)}, entB es ps = true → ∀ e ∈ es, ∃ k t, e.key = .int k t ∧ e.hash = hashInt k
  | [], [], _, e, h => by cases h
  | [], _ :: _, h, _, _ => by cases h
  | _ :: _, [], h, _, _ => by cases h
  | e :: es, p :: ps, h, x, hx => by
    have h : ((match e.key with
      | .int k _ => decide (k = p.1)
      | _ => false) && (decide (e.hash = hashInt p.1) && ((match e.val with
      | .ref a => decide (a = p.2)
      | _ => false) && entB es ps))) = true := h
    rw [Bool.and_eq_true, Bool.and_eq_true, Bool.and_eq_true] at h
    obtain ⟨h1, h2, h3, h4⟩ := h
    rcases List.mem_cons.mp hx with q | q
    · subst q
      split at h1
      · rename_i k t ek
        have := of_decide_eq_true h1
        subst this
        exact ⟨_, t, ek, of_decide_eq_true h2⟩
      · cases h1
    · exact entB_keys h4 x q
theorem entB_find : ∀ {es : List DictEntry} {ps : List (Int × Addr)} {i : Int} {a : Addr}, entB es ps = true → ps.find? (fun p => decide (p.1 = i)) = some (i, a) → (es.find? fun e => Value.isInt i e.key).map (·.val) = some (.ref a)
  | [], [], i, a, _, h => by cases h
  | [], _ :: _, _, _, h, _ => by cases h
  | _ :: _, [], _, _, h, _ => by cases h
  | e :: es, p :: ps, i, a, h, hf => by
    have h : ((match e.key with
      | .int k _ => decide (k = p.1)
      | _ => false) && (decide (e.hash = hashInt p.1) && ((match e.val with
      | .ref a => decide (a = p.2)
      | _ => false) && entB es ps))) = true := h
    rw [Bool.and_eq_true, Bool.and_eq_true, Bool.and_eq_true] at h
    obtain ⟨h1, h2, h3, h4⟩ := h
    split at h1
    · rename_i k t ek
      have e1 := of_decide_eq_true h1
      split at h3
      · rename_i b eb
        have e2 := of_decide_eq_true h3
        rw [List.find?_cons] at hf ⊢
        have ekk : Value.isInt i e.key = (k == i) := by rw [ek]; rfl
        rw [ekk]
        by_cases c : p.1 = i
        · rw [decide_eq_true c] at hf
          have hp := Option.some.inj hf
          have : (k == i) = true := by rw [e1, c]; exact beq_self_eq_true _
          rw [this]
          show some e.val = _
          rw [eb, e2, hp]
        · rw [decide_eq_false c] at hf
          have : (k == i) = false := by rw [e1]; exact beq_eq_false_iff_ne.mpr c
          rw [this]
          exact entB_find h4 hf
      · cases h3
    · cases h1
def deedB (K : PySem.W.Frag) (a : Addr) (ps : List (Int × Addr)) : Bool := match K.lookup a with
  | some ⟨.type c, none, .dict es _, sl⟩ => decide (c = "dict") && (sl.isEmpty && (!(a == sysModules) && entB es.toList ps))
  | _ => false
structure IDict (K : PySem.W.Frag) (a : Addr) (ps : List (Int × Addr)) : Prop where
  ex : ∃ es n, K.lookup a = some ⟨.type "dict", none, .dict es n, #[]⟩ ∧ entB es.toList ps = true
theorem deedB_ok {K : PySem.W.Frag} {a : Addr} {ps : List (Int × Addr)} (h : deedB K a ps = true) : IDict K a ps := by
  unfold deedB at h
  cases q : K.lookup a with
  | none => rw [q] at h; cases h
  | some o =>
    obtain ⟨oc, od, dt, osl⟩ := o
    rw [q] at h
    cases oc with
    | type c =>
      cases od with
      | none =>
        cases dt with
        | dict es n =>
          have h : (decide (c = "dict") && (osl.isEmpty && (!(a == sysModules) && entB es.toList ps))) = true := h
          rw [Bool.and_eq_true, Bool.and_eq_true, Bool.and_eq_true] at h
          obtain ⟨h1, h2, h3, h4⟩ := h
          have e1 := of_decide_eq_true h1
          have e2 : osl = #[] := Array.isEmpty_iff.mp h2
          subst e1 e2
          exact ⟨⟨es, n, q, h4⟩⟩
        | _ => cases h
      | some b => cases dt <;> cases h
    | _ => cases od <;> cases dt <;> cases h
/-- d[i], d a dict of the top -/
def rIdi (K : PySem.W.Frag) (ps : List (Int × Addr)) : R2 := fun x y H Q => ∃ p i a, x = .ref p ∧ y = .int i ∧ IDict K p ps ∧ ps.find? (fun p => decide (p.1 = i)) = some (i, a) ∧ Q (.ref a) H
theorem ix_idict {X : Cx} {ps : List (Int × Addr)} : IxR X (rIdi X.K ps) := by
  intro value slice pins s σ H x y v u Q I rx ry h hs
  obtain ⟨p, i, a, rfl, rfl, ⟨es, n, hl, he⟩, hf, q⟩ := h
  cases rx
  obtain ⟨t, rfl⟩ := ry
  have hm : s.heap.MapOf (intKind X.prog X.w) p (fun k => findBy Value.isInt es k) :=
    ⟨_, es, n, I.kIn p _ hl, ⟨rfl, rfl, rfl⟩, rfl, fun e hm => by
      obtain ⟨k, t, e1, e2⟩ := entB_keys he e (Array.mem_toList_iff.mpr hm)
      exact ⟨k, by rw [e1]; simp [intKind, Value.isInt], e2⟩, fun _ => rfl⟩
  have hv : findBy Value.isInt es i = some (.ref a) := by
    obtain ⟨l⟩ := es
    unfold findBy
    rw [List.find?_toArray]
    exact entB_find he hf
  refine tail_any hm.typeIs slot_dict_getitem.lookup (wpAny_getItem_of (k := i) (by simp [intKind, Value.isInt]) hm hv ?_) hs
  exact ⟨.ref a, H, I.tok _, rfl, q⟩

/-! ### zip of a list and a tuple -/
def ItzM (K : PySem.W.Frag) (a b : Addr) : It :=
  ⟨fun i H => ∃ (xs ys : List V), SqL K H a xs ∧ SqT K H b ys ∧ i < xs.length ∧ i < ys.length,
    fun i H v H' => ∃ T x y, v = .ref T ∧ H T = none ∧ H' = upd H T (.tup [x, y]) ∧ (∀ xs, SqL K H a xs → xs[i]? = some x) ∧ ∀ ys, SqT K H b ys → ys[i]? = some y,
    fun i H => ∃ xs ys : List V, SqL K H a xs ∧ SqT K H b ys ∧ xs.length = i ∧ ys.length = i⟩
def stM (a b z TI TO i1 i2 : Addr) (i : Nat) (h : Heap) : Prop :=
  IsZip h z TI TO .none ∧ IsTupOf2 h TI (.ref i1) (.ref i2) ∧ (∃ x y, IsTupOf2 h TO x y) ∧ h.IsListIter i1 a i ∧ h.IsTupleIter i2 b i
def cellsM (N : Nat) : List Addr := [N + 4, N + 2, N + 3, N, N + 1]
theorem mem_cellsM {N : Nat} {c : Addr} (h : c ∈ cellsM N) : c = N + 4 ∨ c = N + 2 ∨ c = N + 3 ∨ c = N ∨ c = N + 1 := by simpa [cellsM] using h
theorem sepM {N : Nat} {a b : Addr} (ha : a < N) (hb : b < N) : ZipSep2 (N + 4) (N + 2) (N + 3) N (N + 1) [N, a] [N + 1, b] :=
  zip_sep2 (fp1 := [a]) (fp2 := [b]) (fun c h => by rw [List.mem_singleton.mp h]; exact ha) (fun c h => by rw [List.mem_singleton.mp h]; exact hb)
theorem Inv.get_lt {X : Cx} {pins : List (Addr × Obj)} {σ : L2.St} {H : Hp} {s : Shared} {c : Addr} {o : Obj} (I : Inv X pins σ H s) (e : s.heap.get? c = some o) : c < s.heap.objs.size := Heap.lt_size e
theorem turn_zipM {P : Program} {w : World} {K : PySem.W.Frag} {elts : List Expr} {kk : Nat} {tpos : Pos} {a b : Addr} {N : Nat} (ha : a < N) (hb : b < N) :
    Turn P w K (.Tuple elts kk tpos) (ItzM K a b) (cellsM N) (N + 4) (stM a b (N + 4) (N + 2) (N + 3) N (N + 1)) where
  mem := by simp [cellsM]
  obj := fun i h st c hc => by
    obtain ⟨hz, hTI, ⟨x, y, hTO⟩, ⟨o1, e1, _, d1⟩, ⟨o2, e2, _, d2⟩⟩ := st
    rcases mem_cellsM hc with rfl | rfl | rfl | rfl | rfl
    · exact ⟨_, hz, fun v q => nomatch q⟩
    · exact ⟨_, hTI, fun v q => nomatch q⟩
    · exact ⟨_, hTO, fun v q => nomatch q⟩
    · exact ⟨o1, e1, fun v q => by rw [d1] at q; cases q⟩
    · exact ⟨o2, e2, fun v q => by rw [d2] at q; cases q⟩
  keep := fun i h h' st k => by
    obtain ⟨hz, hTI, ⟨x, y, hTO⟩, h1, h2⟩ := st
    exact ⟨k _ (by simp [cellsM]) _ hz, k _ (by simp [cellsM]) _ hTI, ⟨x, y, k _ (by simp [cellsM]) _ hTO⟩, h1.at fun o q => k _ (by simp [cellsM]) o q, h2.at fun o q => k _ (by simp [cellsM]) o q⟩
  item := by
    intro X hP hw hK hc i pins s σ H E I hf st hg
    subst hP hw hK
    obtain ⟨hz, hTI, ⟨x0, y0, hTO⟩, h1, h2⟩ := st
    obtain ⟨xs, ys, qx, qy, lx, ly⟩ := hg
    obtain ⟨its, rv, p, _⟩ := I.list qx
    obtain ⟨its2, rv2, p2, _⟩ := I.tuple qy
    have S := sepM ha hb
    have hh := I.ok.hd hc
    have na : a ≠ N := Nat.ne_of_lt ha
    have nb : b ≠ N + 1 := Nat.ne_of_lt (Nat.lt_succ_of_lt hb)
    have D1 := Draws.list (prog := X.prog) (w := X.w) (A := X.A.in1) hh N a na its.toArray
    have D2 := Draws.tuple (prog := X.prog) (w := X.w) (A := X.A.in1) hh (N + 1) b nb its2.toArray
    have n1 : i < its.toArray.size := by rw [List.size_toArray, ← rv.length]; exact lx
    have n2 : i < its2.toArray.size := by rw [List.size_toArray, ← rv2.length]; exact ly
    have zlt : N + 4 < s.heap.objs.size := Heap.lt_size hz
    refine wpAny_pyNext_zipD2_item S D1 D2 hz hTI hTO ⟨h1, p.isList⟩ ⟨h2, p2⟩ n1 n2 fun u1 u2 h' tk g1 g2 z' TO' s1 s2 hT hsz hk => ?_
    refine ⟨_, rfl, wpAny_letOwnedTupleGo_zip (s := { s with heap := h', toks := tk }) z' fun h'' z'' sb => ?_⟩
    obtain ⟨x, ex⟩ : ∃ x, xs[i]? = some x := ⟨_, List.getElem?_eq_getElem lx⟩
    obtain ⟨y, ey⟩ : ∃ y, ys[i]? = some y := ⟨_, List.getElem?_eq_getElem ly⟩
    obtain ⟨v1, w1, r1⟩ := rv.get ex
    obtain ⟨v2, w2, r2⟩ := rv2.get ey
    have e1 : v1 = u1 := by
      have : its[i]? = some u1 := by simpa using g1
      exact Option.some.inj (w1.symm.trans this)
    have e2 : v2 = u2 := by
      have : its2[i]? = some u2 := by simpa using g2
      exact Option.some.inj (w2.symm.trans this)
    subst e1 e2
    have up : ∀ c o, c ∉ cellsM N → s.heap.get? c = some o → h''.get? c = some o := fun c o hn q => by
      have m : ∀ d, d ∈ cellsM N → c ≠ d := fun d hd e => hn (by rw [e]; exact hd)
      exact (sb.2 c (m _ (by simp [cellsM]))).trans (hk c o (m _ (by simp [cellsM])) (m _ (by simp [cellsM])) (m _ (by simp [cellsM])) (m _ (by simp [cellsM])) q)
    have tz : s.heap.objs.size ≠ N + 4 := Nat.ne_of_gt zlt
    have hT2 : h''.get? s.heap.objs.size = some { cls := .type "tuple", data := .seq #[v1, v2] } := (sb.2 _ tz).trans hT
    have new : ObjOk X.prog X.w (upd H s.heap.objs.size (.tup [x, y])) h'' s.heap.objs.size (.tup [x, y]) :=
      ⟨(by show 2 ≤ sizeLine; decide), [v1, v2], .cons r1 (.cons r2 .nil), _, hT2, rfl, _, rfl⟩
    have I1 : Inv X pins σ (upd H s.heap.objs.size (.tup [x, y])) { s with heap := h'', toks := tk } := I.turnedNew (t' := tk) (ch := cellsM N) up hf (Nat.le_refl _) new
    have q1 : (N + 2) ≠ (N + 4) := S.TIz
    refine ⟨.ref s.heap.objs.size, _, I1, rfl, ⟨_, x, y, rfl, I.hok.fresh (Nat.le_refl _), rfl, fun l hl => by rw [I.list_inj hl qx]; exact ex, fun l hl => by rw [I.tuple_inj hl qy]; exact ey⟩, ⟨z'', ?_, ⟨v1, v2, ?_⟩, ?_, ?_⟩, fun c hcm => ?_⟩
    · exact (sb.2 _ S.TIz).trans (hk _ _ S.TIz S.TITO S.TIi1 S.TIi2 hTI)
    · exact (sb.2 _ S.TOz).trans TO'
    · exact s1.1.at fun o q => (sb.2 _ S.zi1.symm).trans q
    · exact s2.1.at fun o q => (sb.2 _ S.zi2.symm).trans q
    · have hlt : c < s.heap.objs.size := by
        rcases mem_cellsM hcm with rfl | rfl | rfl | rfl | rfl
        · exact zlt
        · exact Heap.lt_size hTI
        · exact Heap.lt_size hTO
        · obtain ⟨_, e, _⟩ := h1; exact Heap.lt_size e
        · obtain ⟨_, e, _⟩ := h2; exact Heap.lt_size e
      rw [upd_ne (Nat.ne_of_lt hlt)]
      exact (hf c hcm).1
  done := by
    intro X hP hw hK hc i pins s σ H E I hf st hg
    subst hP hw hK
    obtain ⟨hz, hTI, ⟨x0, y0, hTO⟩, h1, h2⟩ := st
    obtain ⟨xs, ys, qx, qy, lx, ly⟩ := hg
    obtain ⟨its, rv, p, _⟩ := I.list qx
    obtain ⟨its2, rv2, p2, _⟩ := I.tuple qy
    have S := sepM ha hb
    have hh := I.ok.hd hc
    have na : a ≠ N := Nat.ne_of_lt ha
    have nb : b ≠ N + 1 := Nat.ne_of_lt (Nat.lt_succ_of_lt hb)
    have D1 := Draws.list (prog := X.prog) (w := X.w) (A := X.A.in1) hh N a na its.toArray
    have D2 := Draws.tuple (prog := X.prog) (w := X.w) (A := X.A.in1) hh (N + 1) b nb its2.toArray
    have n1 : i = its.toArray.size := by rw [List.size_toArray, ← rv.length]; exact lx.symm
    have n2 : i = its2.toArray.size := by rw [List.size_toArray, ← rv2.length]; exact ly.symm
    refine wpAny_pyNext_zipD2_end S D1 D2 hz hTI hTO ⟨h1, p.isList⟩ ⟨h2, p2⟩ (Nat.le_of_eq n1) (Nat.le_of_eq n2) (.inl n1) fun h' tk hk => ⟨rfl, I.turnedL (t' := tk) (ch := cellsM N) (fun c o hn q => ?_) hf⟩
    have m : ∀ d, d ∈ cellsM N → c ≠ d := fun d hd e => hn (by rw [e]; exact hd)
    exact hk c o (m _ (by simp [cellsM])) (m _ (by simp [cellsM])) (m _ (by simp [cellsM])) (m _ (by simp [cellsM])) q
  self := fun A i s Q E st h => wpAny_pyIter_zip st.1 h
/-- zip(x, y): two lists, or a list and a tuple -/
def iZipM (K : PySem.W.Frag) (ta : TA) : TI := fun σ H R => ta σ H fun vs H1 => ∃ a b xs ys, vs = [.ref a, .ref b] ∧ SqL K H1 a xs ∧ ((SqL K H1 b ys ∧ R (Itz K a b) H1) ∨ (SqT K H1 b ys ∧ R (ItzM K a b) H1))
theorem walk_zipM {K : PySem.W.Frag} {a b : Addr} {xs ys : List V} (hl : xs.length = ys.length) : Walk (ItzM K a b) xs.length (fun H => SqL K H a xs ∧ SqT K H b ys) (YPair (fun i => xs[i]?) (fun i => ys[i]?)) := by
  refine ⟨fun i H hi q => ⟨xs, ys, q.1, q.2, hi, by omega⟩, fun H q => ⟨xs, ys, q.1, q.2, rfl, hl.symm⟩, fun i H v H' _ q y => ?_⟩
  obtain ⟨T, x, z, h1, h2, h3, h4, h5⟩ := y
  exact ⟨T, x, z, h1, h2, h3, h4 xs q.1, h5 ys q.2⟩
theorem pi_zipM {X : Cx} {e e2 : Expr} {ta : TA} {p pos tpos : Pos} {elts : List Expr} {kk : Nat} (hg : Gl X "zip") (hm : X.mg "zip" = none) (ha : PA X [e, e2] ta)
    (hs : starEach [e, e2] X.env = (false, eval e X.env) :: starEach [e2] X.env := by rfl) (hpl : (backTo pos (starEach [e2] X.env)).any (·.1) = false := by rfl) :
    PI X (.Tuple elts kk tpos) (.Call (.Name "zip" p) [e, e2] [] pos) (iZipM X.K ta) := by
  refine ⟨fun pins s σ H R I h => ?_⟩
  refine Call_ (ld_blt I hg hm PyProof.Rows.boot_zip (PyProof.Rows.callWith_type1 (thn (ha.run pos pins s σ H _ I h) fun us s1 ⟨vs, H1, I1, r1, q1⟩ => ?_) hs hpl))
  obtain ⟨a, b, xs, ys, rfl, qx, q1⟩ := q1
  obtain ⟨u1, u2, rfl, ra, rb⟩ : ∃ u1 u2, us = [u1, u2] ∧ RelV (.ref a) u1 ∧ RelV (.ref b) u2 := by
    cases r1 with
    | cons r rr =>
      cases rr with
      | cons r' rr =>
        cases rr
        exact ⟨_, _, rfl, r, r'⟩
  cases ra
  cases rb
  obtain ⟨its, rv, p1, _⟩ := I1.list qx
  have la : a < s1.heap.objs.size := p1.lt
  have fresh : ∀ c, c ∈ cellsM s1.heap.objs.size → FpOk X pins H1 c := fun c hc => by
    have hle : s1.heap.objs.size ≤ c := by
      rcases mem_cellsM hc with rfl | rfl | rfl | rfl | rfl
      · exact Nat.le_add_right _ _
      · exact Nat.le_add_right _ _
      · exact Nat.le_add_right _ _
      · exact Nat.le_refl _
      · exact Nat.le_add_right _ _
    exact I1.fpOk hle (I1.hok.fresh hle)
  rcases q1 with ⟨qy, q⟩ | ⟨qy, q⟩
  · obtain ⟨its2, rv2, p2, _⟩ := I1.list qy
    refine call_zip_2 p1.isList p2.isList fun h' hz hTI hTO h1 h2 hsz hk => wpAny_pyIter_zip hz ?_
    have I2 : Inv X pins σ H1 { s1 with heap := h' } := I1.kept (t' := s1.toks) hk
    exact ⟨_, cellsM s1.heap.objs.size, _, _, H1, rfl, I2, turn_zip (PySem.W.ktu_apart s1.heap.objs.size a b la p2.lt), ⟨hz, hTI, ⟨_, _, hTO⟩, h1, h2⟩, fresh, q⟩
  · obtain ⟨its2, rv2, p2, _⟩ := I1.tuple qy
    have lb : b < s1.heap.objs.size := by
      obtain ⟨o2, ho2, _⟩ := id p2
      exact Heap.lt_size ho2
    refine zip_begins2 (begins_list a its.toArray) (begins_tuple b its2.toArray) p1.isList p2 fun h' hz hTI hTO g1 g2 hsz hk => wpAny_pyIter_zip hz ?_
    have I2 : Inv X pins σ H1 { s1 with heap := h' } := I1.kept (t' := s1.toks) hk
    exact ⟨_, cellsM s1.heap.objs.size, _, _, H1, rfl, I2, turn_zipM la lb, ⟨hz, hTI, ⟨_, _, hTO⟩, ⟨_, g1, rfl, rfl⟩, ⟨_, g2, rfl, rfl⟩⟩, fresh, q⟩
end Trl

set_option Elab.async false
set_option linter.all false
set_option maxRecDepth 100000
set_option maxHeartbeats 4000000
noncomputable section
namespace Trl
open PySem PySem.Spec PyProof.Rows L2
/-! ### the text by places -/
def topS (i : Nat) : Stmt := PySem.Challenge.pw_trolleylanes_s01_answers.main.body.getD i (.Pass ⟨0, 0, 0, 0⟩)
abbrev FnP (K : PySem.W.Frag) (x q : Str) (st : Stmt) (f : Addr) (fd : FuncData) : Prop := FunD K x q (defArgs st) (defBody st) (defScope st) [] [] f fd
abbrev s_place_for : Stmt := topS 1
abbrev s_first_fit : Stmt := topS 2
abbrev s_never_falls : Stmt := topS 3
abbrev s_always_falls : Stmt := topS 4
abbrev s_chosen : Stmt := topS 5
abbrev s_longest_falling : Stmt := topS 6
abbrev s_largest_sortable : Stmt := topS 7
abbrev s_is_valid : Stmt := topS 8
abbrev s_assignments_of : Stmt := topS 9
abbrev s_next_lane : Stmt := topS 10
abbrev s_merged : Stmt := topS 11
abbrev s_counted : Stmt := topS 19
abbrev s_told_lanes : Stmt := topS 20
abbrev s_call_create : Stmt := topS 21
abbrev s_call_add_trolley : Stmt := topS 22
abbrev s_call_remove_last_trolley : Stmt := topS 23
abbrev s_call_move_to_lane : Stmt := topS 24
abbrev s_call_distribute : Stmt := topS 25
abbrev s_call_release : Stmt := topS 26
abbrev s_call_release_next : Stmt := topS 27
abbrev s_call_open_lane : Stmt := topS 28
abbrev s_call_list_incoming : Stmt := topS 29
abbrev s_call_list_lanes : Stmt := topS 30
abbrev s_call_list_departed : Stmt := topS 31
abbrev s_call_lanes_needed : Stmt := topS 32
abbrev s_call_first_fit_lanes : Stmt := topS 33
abbrev s_call_longest_decreasing : Stmt := topS 34
abbrev s_call_is_valid_assignment : Stmt := topS 35
abbrev s_call_count_assignments : Stmt := topS 36
abbrev s_call_max_subset : Stmt := topS 37
abbrev s_call_lanes_needed_with : Stmt := topS 38
abbrev s_call_lanes_needed_without : Stmt := topS 39
abbrev s_call_merge_order : Stmt := topS 40
abbrev s_call_is_sorted : Stmt := topS 41
abbrev s_call_is_lane_sorted : Stmt := topS 42
abbrev s_call_longest_nondecreasing : Stmt := topS 43
abbrev s_call_status : Stmt := topS 44
abbrev s_answered : Stmt := topS 47
abbrev s_answers : Stmt := topS 48
abbrev s_Yard_init : Stmt := inClass (topS 17) 0
abbrev s_Yard_let_go : Stmt := inClass (topS 17) 1
abbrev s_Yard_in_lanes : Stmt := inClass (topS 17) 2
abbrev s_Holder_init : Stmt := inClass (topS 18) 0
/-! ### the defs as the head finds them -/
def d_place_for : He.DefD := ⟨("place_for", none), "place_for", "place_for", defArgs s_place_for, defBody s_place_for, defScope s_place_for, [], []⟩
def d_first_fit : He.DefD := ⟨("first_fit", none), "first_fit", "first_fit", defArgs s_first_fit, defBody s_first_fit, defScope s_first_fit, [], []⟩
def d_never_falls : He.DefD := ⟨("never_falls", none), "never_falls", "never_falls", defArgs s_never_falls, defBody s_never_falls, defScope s_never_falls, [], []⟩
def d_always_falls : He.DefD := ⟨("always_falls", none), "always_falls", "always_falls", defArgs s_always_falls, defBody s_always_falls, defScope s_always_falls, [], []⟩
def d_chosen : He.DefD := ⟨("chosen", none), "chosen", "chosen", defArgs s_chosen, defBody s_chosen, defScope s_chosen, [], []⟩
def d_longest_falling : He.DefD := ⟨("longest_falling", none), "longest_falling", "longest_falling", defArgs s_longest_falling, defBody s_longest_falling, defScope s_longest_falling, [], []⟩
def d_largest_sortable : He.DefD := ⟨("largest_sortable", none), "largest_sortable", "largest_sortable", defArgs s_largest_sortable, defBody s_largest_sortable, defScope s_largest_sortable, [], []⟩
def d_is_valid : He.DefD := ⟨("is_valid", none), "is_valid", "is_valid", defArgs s_is_valid, defBody s_is_valid, defScope s_is_valid, [], []⟩
def d_assignments_of : He.DefD := ⟨("assignments_of", none), "assignments_of", "assignments_of", defArgs s_assignments_of, defBody s_assignments_of, defScope s_assignments_of, [], []⟩
def d_next_lane : He.DefD := ⟨("next_lane", none), "next_lane", "next_lane", defArgs s_next_lane, defBody s_next_lane, defScope s_next_lane, [], []⟩
def d_merged : He.DefD := ⟨("merged", none), "merged", "merged", defArgs s_merged, defBody s_merged, defScope s_merged, [], []⟩
def d_counted : He.DefD := ⟨("counted", none), "counted", "counted", defArgs s_counted, defBody s_counted, defScope s_counted, [], []⟩
def d_told_lanes : He.DefD := ⟨("told_lanes", none), "told_lanes", "told_lanes", defArgs s_told_lanes, defBody s_told_lanes, defScope s_told_lanes, [], []⟩
def d_call_create : He.DefD := ⟨("call_create", none), "call_create", "call_create", defArgs s_call_create, defBody s_call_create, defScope s_call_create, [], []⟩
def d_call_add_trolley : He.DefD := ⟨("call_add_trolley", none), "call_add_trolley", "call_add_trolley", defArgs s_call_add_trolley, defBody s_call_add_trolley, defScope s_call_add_trolley, [], []⟩
def d_call_remove_last_trolley : He.DefD := ⟨("call_remove_last_trolley", none), "call_remove_last_trolley", "call_remove_last_trolley", defArgs s_call_remove_last_trolley, defBody s_call_remove_last_trolley, defScope s_call_remove_last_trolley, [], []⟩
def d_call_move_to_lane : He.DefD := ⟨("call_move_to_lane", none), "call_move_to_lane", "call_move_to_lane", defArgs s_call_move_to_lane, defBody s_call_move_to_lane, defScope s_call_move_to_lane, [], []⟩
def d_call_distribute : He.DefD := ⟨("call_distribute", none), "call_distribute", "call_distribute", defArgs s_call_distribute, defBody s_call_distribute, defScope s_call_distribute, [], []⟩
def d_call_release : He.DefD := ⟨("call_release", none), "call_release", "call_release", defArgs s_call_release, defBody s_call_release, defScope s_call_release, [], []⟩
def d_call_release_next : He.DefD := ⟨("call_release_next", none), "call_release_next", "call_release_next", defArgs s_call_release_next, defBody s_call_release_next, defScope s_call_release_next, [], []⟩
def d_call_open_lane : He.DefD := ⟨("call_open_lane", none), "call_open_lane", "call_open_lane", defArgs s_call_open_lane, defBody s_call_open_lane, defScope s_call_open_lane, [], []⟩
def d_call_list_incoming : He.DefD := ⟨("call_list_incoming", none), "call_list_incoming", "call_list_incoming", defArgs s_call_list_incoming, defBody s_call_list_incoming, defScope s_call_list_incoming, [], []⟩
def d_call_list_lanes : He.DefD := ⟨("call_list_lanes", none), "call_list_lanes", "call_list_lanes", defArgs s_call_list_lanes, defBody s_call_list_lanes, defScope s_call_list_lanes, [], []⟩
def d_call_list_departed : He.DefD := ⟨("call_list_departed", none), "call_list_departed", "call_list_departed", defArgs s_call_list_departed, defBody s_call_list_departed, defScope s_call_list_departed, [], []⟩
def d_call_lanes_needed : He.DefD := ⟨("call_lanes_needed", none), "call_lanes_needed", "call_lanes_needed", defArgs s_call_lanes_needed, defBody s_call_lanes_needed, defScope s_call_lanes_needed, [], []⟩
def d_call_first_fit_lanes : He.DefD := ⟨("call_first_fit_lanes", none), "call_first_fit_lanes", "call_first_fit_lanes", defArgs s_call_first_fit_lanes, defBody s_call_first_fit_lanes, defScope s_call_first_fit_lanes, [], []⟩
def d_call_longest_decreasing : He.DefD := ⟨("call_longest_decreasing", none), "call_longest_decreasing", "call_longest_decreasing", defArgs s_call_longest_decreasing, defBody s_call_longest_decreasing, defScope s_call_longest_decreasing, [], []⟩
def d_call_is_valid_assignment : He.DefD := ⟨("call_is_valid_assignment", none), "call_is_valid_assignment", "call_is_valid_assignment", defArgs s_call_is_valid_assignment, defBody s_call_is_valid_assignment, defScope s_call_is_valid_assignment, [], []⟩
def d_call_count_assignments : He.DefD := ⟨("call_count_assignments", none), "call_count_assignments", "call_count_assignments", defArgs s_call_count_assignments, defBody s_call_count_assignments, defScope s_call_count_assignments, [], []⟩
def d_call_max_subset : He.DefD := ⟨("call_max_subset", none), "call_max_subset", "call_max_subset", defArgs s_call_max_subset, defBody s_call_max_subset, defScope s_call_max_subset, [], []⟩
def d_call_lanes_needed_with : He.DefD := ⟨("call_lanes_needed_with", none), "call_lanes_needed_with", "call_lanes_needed_with", defArgs s_call_lanes_needed_with, defBody s_call_lanes_needed_with, defScope s_call_lanes_needed_with, [], []⟩
def d_call_lanes_needed_without : He.DefD := ⟨("call_lanes_needed_without", none), "call_lanes_needed_without", "call_lanes_needed_without", defArgs s_call_lanes_needed_without, defBody s_call_lanes_needed_without, defScope s_call_lanes_needed_without, [], []⟩
def d_call_merge_order : He.DefD := ⟨("call_merge_order", none), "call_merge_order", "call_merge_order", defArgs s_call_merge_order, defBody s_call_merge_order, defScope s_call_merge_order, [], []⟩
def d_call_is_sorted : He.DefD := ⟨("call_is_sorted", none), "call_is_sorted", "call_is_sorted", defArgs s_call_is_sorted, defBody s_call_is_sorted, defScope s_call_is_sorted, [], []⟩
def d_call_is_lane_sorted : He.DefD := ⟨("call_is_lane_sorted", none), "call_is_lane_sorted", "call_is_lane_sorted", defArgs s_call_is_lane_sorted, defBody s_call_is_lane_sorted, defScope s_call_is_lane_sorted, [], []⟩
def d_call_longest_nondecreasing : He.DefD := ⟨("call_longest_nondecreasing", none), "call_longest_nondecreasing", "call_longest_nondecreasing", defArgs s_call_longest_nondecreasing, defBody s_call_longest_nondecreasing, defScope s_call_longest_nondecreasing, [], []⟩
def d_call_status : He.DefD := ⟨("call_status", none), "call_status", "call_status", defArgs s_call_status, defBody s_call_status, defScope s_call_status, [], []⟩
def d_answered : He.DefD := ⟨("answered", none), "answered", "answered", defArgs s_answered, defBody s_answered, defScope s_answered, [], []⟩
def d_answers : He.DefD := ⟨("answers", none), "answers", "answers", defArgs s_answers, defBody s_answers, defScope s_answers, [], []⟩
def d_Yard_init : He.DefD := ⟨("Yard", some "__init__"), "__init__", "Yard.__init__", defArgs s_Yard_init, defBody s_Yard_init, defScope s_Yard_init, [], []⟩
def d_Yard_let_go : He.DefD := ⟨("Yard", some "let_go"), "let_go", "Yard.let_go", defArgs s_Yard_let_go, defBody s_Yard_let_go, defScope s_Yard_let_go, [], []⟩
def d_Yard_in_lanes : He.DefD := ⟨("Yard", some "in_lanes"), "in_lanes", "Yard.in_lanes", defArgs s_Yard_in_lanes, defBody s_Yard_in_lanes, defScope s_Yard_in_lanes, [], []⟩
def d_Holder_init : He.DefD := ⟨("Holder", some "__init__"), "__init__", "Holder.__init__", defArgs s_Holder_init, defBody s_Holder_init, defScope s_Holder_init, [], []⟩
def fnL : List He.DefD := [d_place_for, d_first_fit, d_never_falls, d_always_falls, d_chosen, d_longest_falling, d_largest_sortable, d_is_valid, d_assignments_of, d_next_lane, d_merged, d_counted, d_told_lanes, d_call_create, d_call_add_trolley, d_call_remove_last_trolley, d_call_move_to_lane, d_call_distribute, d_call_release, d_call_release_next, d_call_open_lane, d_call_list_incoming, d_call_list_lanes, d_call_list_departed, d_call_lanes_needed, d_call_first_fit_lanes, d_call_longest_decreasing, d_call_is_valid_assignment, d_call_count_assignments, d_call_max_subset, d_call_lanes_needed_with, d_call_lanes_needed_without, d_call_merge_order, d_call_is_sorted, d_call_is_lane_sorted, d_call_longest_nondecreasing, d_call_status, d_answered, d_answers, d_Yard_init, d_Yard_let_go, d_Yard_in_lanes, d_Holder_init]
def faL : List He.Fa := [.free "len", .free "enumerate", .free "all", .free "zip", .free "range", .free "list", .free "sum", .int "MOST_LANES" 4, .int "MOST_TROLLEYS" 8, .int "MOST_DOCK" 99, .int "MOST_COUNTED" 6, .cls "Yard", .cls "Holder", .noat "Yard" "incoming", .noat "Yard" "lanes", .noat "Yard" "departed", .noat "Holder" "yard", .meth "Yard" "let_go", .meth "Yard" "in_lanes", .mkr "Yard", .mkr "Holder", .glo "place_for", .glo "first_fit", .glo "never_falls", .glo "always_falls", .glo "chosen", .glo "longest_falling", .glo "largest_sortable", .glo "is_valid", .glo "assignments_of", .glo "next_lane", .glo "merged", .glo "counted", .glo "told_lanes", .glo "call_create", .glo "call_add_trolley", .glo "call_remove_last_trolley", .glo "call_move_to_lane", .glo "call_distribute", .glo "call_release", .glo "call_release_next", .glo "call_open_lane", .glo "call_list_incoming", .glo "call_list_lanes", .glo "call_list_departed", .glo "call_lanes_needed", .glo "call_first_fit_lanes", .glo "call_longest_decreasing", .glo "call_is_valid_assignment", .glo "call_count_assignments", .glo "call_max_subset", .glo "call_lanes_needed_with", .glo "call_lanes_needed_without", .glo "call_merge_order", .glo "call_is_sorted", .glo "call_is_lane_sorted", .glo "call_longest_nondecreasing", .glo "call_status", .glo "answered", .glo "answers", .glo "Yard", .glo "Holder", .glo "DEEDS", .glo "WITH_NUMBER"]
def deeds (K : PySem.W.Frag) : List (Int × Addr) := [(0, He.ga K "call_create"), (1, He.ga K "call_add_trolley"), (2, He.ga K "call_remove_last_trolley"), (3, He.ga K "call_move_to_lane"), (4, He.ga K "call_distribute"), (5, He.ga K "call_release"), (6, He.ga K "call_release_next"), (7, He.ga K "call_open_lane"), (8, He.ga K "call_list_incoming"), (9, He.ga K "call_list_lanes"), (10, He.ga K "call_list_departed"), (11, He.ga K "call_lanes_needed"), (12, He.ga K "call_first_fit_lanes"), (13, He.ga K "call_longest_decreasing"), (14, He.ga K "call_is_valid_assignment"), (15, He.ga K "call_count_assignments"), (16, He.ga K "call_max_subset"), (17, He.ga K "call_lanes_needed_with"), (18, He.ga K "call_lanes_needed_without"), (19, He.ga K "call_merge_order"), (20, He.ga K "call_is_sorted"), (21, He.ga K "call_is_lane_sorted"), (22, He.ga K "call_longest_nondecreasing"), (23, He.ga K "call_status")]
def withs : List He.Dv := [.int 0, .int 1, .int 3, .int 5, .int 16, .int 17, .int 18, .int 21]
def tabsB (K : PySem.W.Frag) : Bool := deedB K (He.ga K "DEEDS") (deeds K) && He.tupB K "WITH_NUMBER" withs
/-! ### the hook -/
abbrev Al : Type := He.AlD × Bool
def obsK (n : Nat) (g : Addr → Option Obj) : Al := (He.obsD faL fnL (He.frG g (He.asD g n)), tabsB (He.frG g (He.asD g n)))
def SaysK (K : PySem.W.Frag) : Prop := He.SaysD faL fnL K ∧ tabsB K = true
def hk : PySem.W.Hook where
  α := Al
  obs := fun s => obsK 5 s.heap.get?
  val := fun _ => (He.valD fnL, true)
  says := fun _ h => ∃ K : PySem.W.Frag, K.In h ∧ SaysK K
  of := fun w s e => ⟨_, He.frG_in, congrArg (fun z : Al => z.1) e, congrArg (fun z : Al => z.2) e⟩
  keeps := fun _ _ _ ⟨K, hK, c⟩ k => ⟨K, PySem.W.Frag.In.keeps hK k, c⟩
end Trl

set_option Elab.async false
set_option linter.all false
set_option maxRecDepth 100000
set_option maxHeartbeats 4000000
namespace Trl
open PySem PySem.Spec PyProof.Rows L2
open C8 (Cal pe_c pe_gc Met pe_mt pe_mt0)

/-! ### words -/
def nv (n : Nat) : V := .int (n : Int)
def ds (l : List Nat) : List V := l.map nv
def rs (ps : List Addr) : List V := ps.map V.ref
theorem ds_len (l : List Nat) : (ds l).length = l.length := List.length_map _
theorem rs_len (l : List Addr) : (rs l).length = l.length := List.length_map _
theorem ds_app (l m : List Nat) : ds (l ++ m) = ds l ++ ds m := List.map_append
theorem rs_app (l m : List Addr) : rs (l ++ m) = rs l ++ rs m := List.map_append
theorem ds_get {l : List Nat} {i : Nat} {v : V} (h : (ds l)[i]? = some v) : ∃ x, l[i]? = some x ∧ v = nv x := by
  unfold ds at h
  rw [List.getElem?_map] at h
  cases e : l[i]? with
  | none => rw [e] at h; cases h
  | some x => rw [e] at h; exact ⟨x, rfl, (Option.some.inj h).symm⟩
theorem rs_get {l : List Addr} {i : Nat} {v : V} (h : (rs l)[i]? = some v) : ∃ x, l[i]? = some x ∧ v = .ref x := by
  unfold rs at h
  rw [List.getElem?_map] at h
  cases e : l[i]? with
  | none => rw [e] at h; cases h
  | some x => rw [e] at h; exact ⟨x, rfl, (Option.some.inj h).symm⟩
theorem ds_at {l : List Nat} {i x : Nat} (h : l[i]? = some x) : (ds l)[i]? = some (nv x) := by
  unfold ds
  rw [List.getElem?_map, h]; rfl
theorem rs_at {l : List Addr} {i : Nat} {x : Addr} (h : l[i]? = some x) : (rs l)[i]? = some (.ref x) := by
  unfold rs
  rw [List.getElem?_map, h]; rfl
theorem ds_take (l : List Nat) (n : Nat) : ds (l.take n) = (ds l).take n := List.map_take
theorem ds_drop (l : List Nat) (n : Nat) : ds (l.drop n) = (ds l).drop n := List.map_drop
theorem ds_set (l : List Nat) (i x : Nat) : ds (l.set i x) = (ds l).set i (nv x) := List.map_set
theorem get_some {α : Type} {l : List α} {i : Nat} (h : i < l.length) : ∃ x, l[i]? = some x := ⟨_, List.getElem?_eq_getElem h⟩
theorem get_lt {α : Type} {l : List α} {i : Nat} {x : α} (h : l[i]? = some x) : i < l.length := (List.getElem?_eq_some_iff.mp h).1

/-! ### heaps -/
theorem same_new {H : Hp} {T : Addr} {o : HO} (h : H T = none) : Same H (upd H T o) := fun b u e => by
  rw [upd_ne (ne_of_none e h)]; exact e
theorem _root_.L2.Same.new1 {H H' : Hp} {T : Addr} {o : HO} (s : Same H H') (h : H' T = none) : Same H (upd H' T o) := s.trans (same_new h)
/-- a write to what was not there at H -/
theorem _root_.L2.Same.put1 {H H' : Hp} {T : Addr} {o : HO} (s : Same H H') (h : H T = none) : Same H (upd H' T o) := fun b u e => by
  rw [upd_ne (ne_of_none e h)]; exact s b u e
theorem up_ne {H : Hp} {a b : Addr} {o u : HO} (h : H b = some u) (n : b ≠ a) : upd H a o b = some u := by rw [upd_ne n]; exact h
/-- all but the addresses at F is as it was -/
def Keep (F : List Addr) (H H' : Hp) : Prop := ∀ b o, H b = some o → b ∉ F → H' b = some o
theorem Keep.of_same {F : List Addr} {H H' : Hp} (s : Same H H') : Keep F H H' := fun b o e _ => s b o e
theorem Keep.trans {F : List Addr} {H H1 H2 : Hp} (a : Keep F H H1) (b : Keep F H1 H2) : Keep F H H2 := fun c o e n => b c o (a c o e n) n
theorem Keep.same {F : List Addr} {H H1 H2 : Hp} (a : Keep F H H1) (b : Same H1 H2) : Keep F H H2 := fun c o e n => b c o (a c o e n)
theorem Keep.put {F : List Addr} {H H' : Hp} {T : Addr} {o : HO} (s : Keep F H H') (h : T ∈ F) : Keep F H (upd H' T o) := fun b u e n => by
  rw [upd_ne (fun q => n (by rw [q]; exact h))]; exact s b u e n
theorem Keep.mono {F G : List Addr} {H H' : Hp} (s : Keep F H H') (h : ∀ a ∈ F, a ∈ G) : Keep G H H' := fun b o e n => s b o e fun m => n (h b m)
theorem Keep.nil {H H' : Hp} (s : Keep [] H H') : Same H H' := fun b o e => s b o e (by simp)
/-- a list of lists of numbers -/
structure LL (H : Hp) (a : Addr) (ps : List Addr) (ll : List (List Nat)) : Prop where
  top : H a = some (.lst (rs ps))
  len : ps.length = ll.length
  at_ : ∀ (i : Nat) p l, ps[i]? = some p → ll[i]? = some l → H p = some (.lst (ds l))
  nd : ps.Nodup
  out : a ∉ ps
theorem LL.get {H : Hp} {a : Addr} {ps : List Addr} {ll : List (List Nat)} (L : LL H a ps ll) {i : Nat} {l : List Nat} (h : ll[i]? = some l) : ∃ p, ps[i]? = some p ∧ H p = some (.lst (ds l)) := by
  have hl : i < ps.length := by rw [L.len]; exact get_lt h
  obtain ⟨p, hp⟩ := get_some hl
  exact ⟨p, hp, L.at_ i p l hp h⟩
theorem LL.get' {H : Hp} {a : Addr} {ps : List Addr} {ll : List (List Nat)} (L : LL H a ps ll) {i : Nat} {p : Addr} (h : ps[i]? = some p) : ∃ l, ll[i]? = some l ∧ H p = some (.lst (ds l)) := by
  have hl : i < ll.length := by rw [← L.len]; exact get_lt h
  obtain ⟨l, hp⟩ := get_some hl
  exact ⟨l, hp, L.at_ i p l h hp⟩
theorem LL.keep {H H' : Hp} {a : Addr} {ps : List Addr} {ll : List (List Nat)} (L : LL H a ps ll) {F : List Addr} (k : Keep F H H') (ha : a ∉ F) (hp : ∀ p ∈ ps, p ∉ F) : LL H' a ps ll :=
  ⟨k a _ L.top ha, L.len, fun i p l h1 h2 => k p _ (L.at_ i p l h1 h2) (hp p (List.mem_of_getElem? h1)), L.nd, L.out⟩
theorem LL.same {H H' : Hp} {a : Addr} {ps : List Addr} {ll : List (List Nat)} (L : LL H a ps ll) (s : Same H H') : LL H' a ps ll := L.keep (F := []) (Keep.of_same s) (by simp) (by simp)
theorem LL.there {H : Hp} {a : Addr} {ps : List Addr} {ll : List (List Nat)} (L : LL H a ps ll) : ∀ p ∈ ps, ∃ o, H p = some o := fun p hp => by
  obtain ⟨i, hi⟩ := List.mem_iff_getElem?.mp hp
  obtain ⟨l, _, h⟩ := L.get' hi
  exact ⟨_, h⟩
theorem nodup_ne {ps : List Addr} (nd : ps.Nodup) {i j : Nat} {p q : Addr} (hi : ps[i]? = some p) (hj : ps[j]? = some q) (h : i ≠ j) : p ≠ q := fun e => h (nd_ix nd hi (by rw [e]; exact hj))
/-- one of them is written -/
theorem LL.put {H : Hp} {a : Addr} {ps : List Addr} {ll : List (List Nat)} (L : LL H a ps ll) {i : Nat} {p : Addr} (h : ps[i]? = some p) (l : List Nat) : LL (upd H p (.lst (ds l))) a ps (ll.set i l) := by
  have hm := List.mem_of_getElem? h
  refine ⟨up_ne L.top (fun e => L.out (by rw [e]; exact hm)), by rw [List.length_set]; exact L.len, fun j q m h1 h2 => ?_, L.nd, L.out⟩
  by_cases c : j = i
  · subst c
    have e : q = p := Option.some.inj (h1.symm.trans h)
    subst e
    have hl : j < ll.length := by rw [← L.len]; exact get_lt h
    rw [List.getElem?_set_self hl] at h2
    rw [upd_same, ← Option.some.inj h2]
  · rw [List.getElem?_set_ne (fun e => c e.symm)] at h2
    exact up_ne (L.at_ j q m h1 h2) (nodup_ne L.nd h1 h c)
/-- a new one behind -/
theorem LL.pushL {H H1 : Hp} {a : Addr} {ps : List Addr} {ll : List (List Nat)} (L : LL H a ps ll) {p : Addr} (hp : H p = none) (l0 : List Nat) (h1 : H1 = upd (upd H p (.lst (ds l0))) a (.lst (rs ps ++ [.ref p]))) : LL H1 a (ps ++ [p]) (ll ++ [l0]) := by
  subst h1
  have pa : p ≠ a := fun e => by rw [e, L.top] at hp; cases hp
  have pn : p ∉ ps := fun m => by
    obtain ⟨o, e⟩ := L.there p m
    rw [hp] at e; cases e
  refine ⟨by rw [upd_same, rs_app]; rfl, by simp [L.len], fun j q m h1 h2 => ?_, nd_snoc L.nd pn, fun m => ?_⟩
  · by_cases c : j < ps.length
    · rw [List.getElem?_append_left c] at h1
      rw [List.getElem?_append_left (by rw [← L.len]; exact c)] at h2
      have hq := L.at_ j q m h1 h2
      have qm := List.mem_of_getElem? h1
      exact up_ne (up_ne hq (fun e => pn (by rw [← e]; exact qm))) (fun e => L.out (by rw [← e]; exact qm))
    · have e : j = ps.length := by
        have := get_lt h1
        simp at this; omega
      subst e
      rw [List.getElem?_append_right (Nat.le_refl _)] at h1
      rw [List.getElem?_append_right (by rw [L.len]; exact Nat.le_refl _), L.len] at h2
      simp at h1 h2
      subst h1 h2
      exact up_ne upd_same pa
  · rcases List.mem_append.mp m with q | q
    · exact L.out q
    · exact pa (List.mem_singleton.mp q).symm

theorem LL.push {H H1 : Hp} {a : Addr} {ps : List Addr} {ll : List (List Nat)} (L : LL H a ps ll) {p : Addr} (hp : H p = none) (h1 : H1 = upd (upd H p (.lst [])) a (.lst (rs ps ++ [.ref p]))) : LL H1 a (ps ++ [p]) (ll ++ [[]]) := L.pushL hp [] h1

/-! ### short words for readings -/
theorem pairT {K : PySem.W.Frag} {i j : Nat} {T : Addr} {x y : V} {σ : L2.St} {H : Hp} {Q : L2.St → Hp → Prop} (h : H T = some (.tup [x, y])) (q : Q ((σ.set i (some x)).set j (some y)) H) : gTup K 2 (gCons (gName i) (gCons (gName j) gNil)) (.ref T) σ H Q :=
  ⟨T, _, rfl, SqT.of h, rfl, x, [y], rfl, y, [], rfl, rfl, q⟩
theorem okP {P : Program} {w : World} {K : PySem.W.Frag} {mg : Str → Option Value} {base : Heap} {x q : Str} {st : Stmt} {f : Addr} {fd : FuncData} {N ps : List Str} {k : Nat} {sp : Sp} (F : FnP K x q st f fd) (S : FnScope N ps (defScope st)) (len : ∀ vs H Q E, sp vs H Q E → vs.length = ps.length)
    (hbody : ∀ (cdv : Value) (A : Around) (outer : List Env) (s : Shared) (H : Hp) (vs : List V) (Q : VK) (E : XK), Room k (A.deeper (envOfC q (defScope st) s.heap.objs.size f cdv)) → sp vs H Q E →
      ∃ t, PSs (cxOf CX0 P w K mg base N q (defScope st) f cdv A outer s H E).nox (defBody st) t ∧ t { nx := fun _ H' => Q .non H', rt := Q } (start N vs) H) : FnOk P w K mg base CX0 (k + 1) f fd ps sp :=
  FunD.ok F S len fun cdv A outer s H vs Q E hr h => let ⟨t, a, b⟩ := hbody cdv A outer s H vs Q E hr h; ⟨t, a.nox, b⟩
/-- for i, x in enumerate(list) -/
theorem for_enum {K : PySem.W.Frag} {a : Addr} {xs : List V} {i j : Nat} {tb : TS} {D : Ends} {σ : L2.St} {H : Hp} (Pv : Nat → L2.St → Hp → Prop) (h0 : Pv 0 σ H) (hG : ∀ n σ H, Pv n σ H → SqL K H a xs)
    (hs : ∀ (n : Nat) x T σ H, xs[n]? = some x → Pv n σ H → H T = none → tb { D with nx := Pv (n + 1), ct := Pv (n + 1), bk := D.nx } ((σ.set i (some (nv n))).set j (some x)) (upd H T (.tup [nv n, x]))) (hd : ∀ σ H, Pv xs.length σ H → D.nx σ H) :
    ∃ W : Nat → Nat → L2.St → Hp → Prop, (∃ m, W 0 m σ H) ∧ ∀ n m σ H, W n m σ H →
      ((Ite K a).stop n H ∧ D.nx σ H) ∨ ((Ite K a).go n H ∧ ∃ N : L2.St → Hp → Prop, (∀ σ' H', N σ' H' → ∃ m', m' < m ∧ W (n + 1) m' σ' H') ∧ ∀ x H', (Ite K a).yld n H x H' → gTup K 2 (gCons (gName i) (gCons (gName j) gNil)) x σ H' fun σ2 H2 => tb { D with nx := N, ct := N, bk := D.nx } σ2 H2) :=
  for_it (walk_enum (K := K) (a := a) (xs := xs)) Pv h0 (fun n σ H _ p => hG n σ H p) (fun n x σ H H' hn p y => by
    obtain ⟨T, x1, y1, rfl, hT, rfl, e1, e2⟩ := y
    have ex : nv n = x1 := Option.some.inj e1
    subst ex
    exact pairT upd_same (hs n y1 T σ H e2 p hT)) hd
/-- for x, y in zip(a list, a tuple) of one length -/
theorem for_zipM {K : PySem.W.Frag} {a b : Addr} {xs ys : List V} {i j : Nat} {tb : TS} {D : Ends} {σ : L2.St} {H : Hp} (hl : xs.length = ys.length) (Pv : Nat → L2.St → Hp → Prop) (h0 : Pv 0 σ H) (hG : ∀ n σ H, Pv n σ H → SqL K H a xs ∧ SqT K H b ys)
    (hs : ∀ (n : Nat) x y T σ H, xs[n]? = some x → ys[n]? = some y → Pv n σ H → H T = none → tb { D with nx := Pv (n + 1), ct := Pv (n + 1), bk := D.nx } ((σ.set i (some x)).set j (some y)) (upd H T (.tup [x, y]))) (hd : ∀ σ H, Pv xs.length σ H → D.nx σ H) :
    ∃ W : Nat → Nat → L2.St → Hp → Prop, (∃ m, W 0 m σ H) ∧ ∀ n m σ H, W n m σ H →
      ((ItzM K a b).stop n H ∧ D.nx σ H) ∨ ((ItzM K a b).go n H ∧ ∃ N : L2.St → Hp → Prop, (∀ σ' H', N σ' H' → ∃ m', m' < m ∧ W (n + 1) m' σ' H') ∧ ∀ x H', (ItzM K a b).yld n H x H' → gTup K 2 (gCons (gName i) (gCons (gName j) gNil)) x σ H' fun σ2 H2 => tb { D with nx := N, ct := N, bk := D.nx } σ2 H2) :=
  for_it (walk_zipM (K := K) (a := a) (b := b) hl) Pv h0 (fun n σ H _ p => hG n σ H p) (fun n x σ H H' hn p y => by
    obtain ⟨T, x1, y1, rfl, hT, rfl, e1, e2⟩ := y
    exact pairT upd_same (hs n x1 y1 T σ H e1 e2 p hT)) hd
/-- for x, y in zip(two lists) of one length -/
theorem for_zipL2 {K : PySem.W.Frag} {a b : Addr} {xs ys : List V} {i j : Nat} {tb : TS} {D : Ends} {σ : L2.St} {H : Hp} (hl : xs.length = ys.length) (Pv : Nat → L2.St → Hp → Prop) (h0 : Pv 0 σ H) (hG : ∀ n σ H, Pv n σ H → SqL K H a xs ∧ SqL K H b ys)
    (hs : ∀ (n : Nat) x y T σ H, xs[n]? = some x → ys[n]? = some y → Pv n σ H → H T = none → tb { D with nx := Pv (n + 1), ct := Pv (n + 1), bk := D.nx } ((σ.set i (some x)).set j (some y)) (upd H T (.tup [x, y]))) (hd : ∀ σ H, Pv xs.length σ H → D.nx σ H) :
    ∃ W : Nat → Nat → L2.St → Hp → Prop, (∃ m, W 0 m σ H) ∧ ∀ n m σ H, W n m σ H →
      ((Itz K a b).stop n H ∧ D.nx σ H) ∨ ((Itz K a b).go n H ∧ ∃ N : L2.St → Hp → Prop, (∀ σ' H', N σ' H' → ∃ m', m' < m ∧ W (n + 1) m' σ' H') ∧ ∀ x H', (Itz K a b).yld n H x H' → gTup K 2 (gCons (gName i) (gCons (gName j) gNil)) x σ H' fun σ2 H2 => tb { D with nx := N, ct := N, bk := D.nx } σ2 H2) :=
  for_it (walk_zip (K := K) (a := a) (b := b) (n := xs.length) (by rw [← hl]; simp)) Pv h0 (fun n σ H _ p => hG n σ H p) (fun n x σ H H' hn p y => by
    obtain ⟨T, x1, y1, rfl, hT, rfl, e1, e2⟩ := y
    exact pairT upd_same (hs n x1 y1 T σ H e1 e2 p hT)) hd
/-- [.. for i, x in enumerate(list)] -/
theorem lc_enum {K : PySem.W.Frag} {a : Addr} {xs : List V} {i j : Nat} {tt : TT} {te : TE} {vs : List Nat} {σ : L2.St} {H1 : Hp} {D : Addr} {Qd : Hp → Prop} (Pv : Nat → Hp → Prop) (h0 : Pv 0 (upd H1 D (.lst []))) (hG : ∀ n H, Pv n H → SqL K H a xs)
    (hs : ∀ (n : Nat) x T H, xs[n]? = some x → Pv n H → H T = none → wipe (((wipe σ vs).set i (some (nv n))).set j (some x)) vs = wipe σ vs ∧ tt (((wipe σ vs).set i (some (nv n))).set j (some x)) (upd H T (.tup [nv n, x])) fun b H3 =>
      if b = true then te (((wipe σ vs).set i (some (nv n))).set j (some x)) H3 fun y H4 => ∃ acc, H4 D = some (.lst acc) ∧ acc.length < sizeLine ∧ Pv (n + 1) (upd H4 D (.lst (acc ++ [y]))) else Pv (n + 1) H3) (hd : ∀ H, Pv xs.length H → Qd H) :
    ∃ W : Nat → Nat → Hp → Prop, (∃ m, W 0 m (upd H1 D (.lst []))) ∧ ∀ n m H, W n m H →
      ((Ite K a).stop n H ∧ Qd H) ∨ ((Ite K a).go n H ∧ ∃ Nx : Hp → Prop, (∀ H', Nx H' → ∃ m', m' < m ∧ W (n + 1) m' H') ∧ ∀ x H', (Ite K a).yld n H x H' → gTup K 2 (gCons (gName i) (gCons (gName j) gNil)) x (wipe σ vs) H' fun σ2 H2 => wipe σ2 vs = wipe σ vs ∧ tt σ2 H2 fun b H3 =>
        if b = true then te σ2 H3 fun y H4 => ∃ acc, H4 D = some (.lst acc) ∧ acc.length < sizeLine ∧ Nx (upd H4 D (.lst (acc ++ [y]))) else Nx H3) :=
  lc_it (walk_enum (K := K) (a := a) (xs := xs)) Pv h0 (fun n H _ p => hG n H p) (fun n x H H' hn p y => by
    obtain ⟨T, x1, y1, rfl, hT, rfl, e1, e2⟩ := y
    have ex : nv n = x1 := Option.some.inj e1
    subst ex
    exact pairT upd_same (hs n y1 T H e2 p hT)) hd
/-- [.. for x, y in zip(two lists)] -/
theorem lc_zip {K : PySem.W.Frag} {a b : Addr} {xs ys : List V} {i j : Nat} {tt : TT} {te : TE} {vs : List Nat} {σ : L2.St} {H1 : Hp} {D : Addr} {Qd : Hp → Prop} {m : Nat} (hm : m = min xs.length ys.length) (Pv : Nat → Hp → Prop) (h0 : Pv 0 (upd H1 D (.lst []))) (hG : ∀ n H, Pv n H → SqL K H a xs ∧ SqL K H b ys)
    (hs : ∀ (n : Nat) x y T H, xs[n]? = some x → ys[n]? = some y → Pv n H → H T = none → wipe (((wipe σ vs).set i (some x)).set j (some y)) vs = wipe σ vs ∧ tt (((wipe σ vs).set i (some x)).set j (some y)) (upd H T (.tup [x, y])) fun b H3 =>
      if b = true then te (((wipe σ vs).set i (some x)).set j (some y)) H3 fun y H4 => ∃ acc, H4 D = some (.lst acc) ∧ acc.length < sizeLine ∧ Pv (n + 1) (upd H4 D (.lst (acc ++ [y]))) else Pv (n + 1) H3) (hd : ∀ H, Pv m H → Qd H) :
    ∃ W : Nat → Nat → Hp → Prop, (∃ m, W 0 m (upd H1 D (.lst []))) ∧ ∀ n m H, W n m H →
      ((Itz K a b).stop n H ∧ Qd H) ∨ ((Itz K a b).go n H ∧ ∃ Nx : Hp → Prop, (∀ H', Nx H' → ∃ m', m' < m ∧ W (n + 1) m' H') ∧ ∀ x H', (Itz K a b).yld n H x H' → gTup K 2 (gCons (gName i) (gCons (gName j) gNil)) x (wipe σ vs) H' fun σ2 H2 => wipe σ2 vs = wipe σ vs ∧ tt σ2 H2 fun b H3 =>
        if b = true then te σ2 H3 fun y H4 => ∃ acc, H4 D = some (.lst acc) ∧ acc.length < sizeLine ∧ Nx (upd H4 D (.lst (acc ++ [y]))) else Nx H3) :=
  lc_it (walk_zip (K := K) (a := a) (b := b) hm) Pv h0 (fun n H _ p => hG n H p) (fun n x H H' hn p y => by
    obtain ⟨T, x1, y1, rfl, hT, rfl, e1, e2⟩ := y
    exact pairT upd_same (hs n x1 y1 T H e1 e2 p hT)) hd
theorem if_t {c : Bool} {A B : Prop} (hc : c = true) (h : A) : if c = true then A else B := by
  rw [if_pos hc]; exact h
theorem if_f {c : Bool} {A B : Prop} (hc : c = false) (h : B) : if c = true then A else B := by
  rw [hc, if_neg Bool.false_ne_true]; exact h
theorem calP {P : Program} {w : World} {K : PySem.W.Frag} {mg : Str → Option Value} {base : Heap} {x : Str} {st : Stmt} {f : Addr} {fd : FuncData} {ps : List Str} {k : Nat} {sp : Sp} (F : FnP K x x st f fd) (hm : mg x = some (.ref f)) (b : Binds K fd ps []) (ok : FnOk P w K mg base CX0 k f fd ps sp) : Cal P w K mg base k x sp [] :=
  ⟨f, fd, ps, [], ok, hm, F.kp, b, .nil⟩
/-- the last of a list -/
theorem at_last {l : List Nat} {z : Nat} (h : l.getLast? = some z) : atI (ds l) (-1) = some (nv z) := by
  obtain ⟨r, e⟩ := List.getLast?_eq_some_iff.mp h
  rw [e, ds_app]
  exact atI_last (ds r) (nv z)
theorem small_lt {n : Nat} (h : n ≤ 10000000) : n < sizeLine := Nat.lt_of_le_of_lt h (by decide)
theorem small_le {n : Nat} (h : n ≤ 10000000) : n ≤ sizeLine := Nat.le_of_lt (small_lt h)
/-! ### slices -/
theorem cut_mid (xs : List V) (i j : Nat) : cutV xs (some (i : Int)) (some (j : Int)) = (xs.drop i).take (j - i) := by
  unfold cutV
  rw [HT.sIx_nat, HT.sIx_nat]
  apply List.ext_getElem?
  intro k
  rw [List.getElem?_take, List.getElem?_take, List.getElem?_drop, List.getElem?_drop]
  by_cases c : k < j - i
  · rw [if_pos c]
    by_cases d : k < min j xs.length - min i xs.length
    · rw [if_pos d, show min i xs.length = i by omega]
    · rw [if_neg d, List.getElem?_eq_none (by omega)]
  · rw [if_neg c, if_neg (by omega)]
theorem cut_from (xs : List V) (i : Nat) : cutV xs (some (i : Int)) none = xs.drop i := by
  unfold cutV
  rw [HT.sIx_nat, HT.sIx_none]
  apply List.ext_getElem?
  intro k
  rw [List.getElem?_take, List.getElem?_drop, List.getElem?_drop]
  by_cases c : k < xs.length - min i xs.length
  · rw [if_pos c, show min i xs.length = i by omega]
  · rw [if_neg c, List.getElem?_eq_none (by omega)]
theorem cut_to (xs : List V) (j : Nat) : cutV xs none (some (j : Int)) = xs.take j := by
  unfold cutV
  rw [HT.sIx_nat, HT.sIx_none, List.drop_zero]
  apply List.ext_getElem?
  intro k
  rw [List.getElem?_take, List.getElem?_take]
  by_cases c : k < j
  · rw [if_pos c]
    by_cases d : k < min j xs.length - 0
    · rw [if_pos d]
    · rw [if_neg d, List.getElem?_eq_none (by omega)]
  · rw [if_neg c, if_neg (by omega)]
/-- what the top has: names that are no names of its own -/
structure Txt (K : PySem.W.Frag) (mg : Str → Option Value) : Prop where
  len : mg "len" = none
  enumerate : mg "enumerate" = none
  all : mg "all" = none
  zip : mg "zip" = none
  range : mg "range" = none
  list : mg "list" = none
  sum : mg "sum" = none
  mLanes : ∃ t, mg "MOST_LANES" = some (.int 4 t)
  mTrol : ∃ t, mg "MOST_TROLLEYS" = some (.int 8 t)
  mDock : ∃ t, mg "MOST_DOCK" = some (.int 99 t)
  mCount : ∃ t, mg "MOST_COUNTED" = some (.int 6 t)
end Trl

set_option Elab.async false
set_option linter.all false
set_option maxRecDepth 100000
set_option maxHeartbeats 4000000
namespace Trl
open PySem PySem.Spec PyProof.Rows L2
open C8 (Cal pe_c pe_gc Met pe_mt pe_mt0)
section
variable {P : Program} {w : World} {K : PySem.W.Frag} {mg : Str → Option Value} {base : Heap}
/-! ### place_for -/
def spPlace (K : PySem.W.Frag) : Sp := fun vs H Q _ => ∃ (a : Addr) (ps : List Addr) (ll : List (List Nat)) (d : Nat), vs = [.ref a, nv d] ∧ LL H a ps ll ∧ (∀ l ∈ ll, l ≠ []) ∧
  ∀ H', Same H H' → Q (nv (place ll d)) H'
theorem sc_place : FnScope ["lanes", "dock", "at", "lane"] ["lanes", "dock"] (defScope s_place_for) := ⟨rfl, rfl, rfl, by decide +kernel, rfl, by decide +kernel, by decide +kernel⟩
theorem ok_place {f : Addr} {fd : FuncData} (F : FnP K "place_for" "place_for" s_place_for f fd) (T : Txt K mg) : FnOk P w K mg base CX0 1 f fd ["lanes", "dock"] (spPlace K) := by
  refine okP F sc_place (fun vs H Q E h => ?_) (fun cdv A outer s H vs Q E hr h => ?_)
  · obtain ⟨a, ps, ll, d, rfl, _⟩ := h
    rfl
  obtain ⟨a, ps, ll, d, rfl, L, full, k⟩ := h
  have nd := sc_place.nd
  refine ⟨_, pss_cons (ps_for PassesOwn.never rfl (pi_enum rfl T.enumerate (pa_cons (pv 0) pa_nil)) (pg_tup rfl (pgs_cons (pg_name (i := 2) nd rfl (.inl rfl)) (pgs_cons (pg_name (i := 3) nd rfl (.inl rfl)) pgs_nil)))
      (pss_one (ps_if (pt_cmpR op_le (pe_ix ix_list (pv 3) (pe_un un_neg pe_int) (fun _ _ => rfl)) (pv 1) (nomark _)) (pss_one (ps_ret (pv 2))) pss_nil)))
    (pss_one (ps_ret (pe_callB call_len_seq (by rfl) T.len PySem.boot_len (pa_cons (pv 0) pa_nil)))), ?_⟩
  refine ⟨_, rfl, a, _, rfl, SqL.of L.top, for_enum (K := K) (a := a) (xs := rs ps) (fun i σ H' => ∃ v2 v3, σ = [some (.ref a), some (nv d), v2, v3] ∧ Same H H' ∧ ∀ j, j < i → fits ll d j = false)
    ⟨none, none, rfl, Same.refl H, fun j hj => absurd hj (Nat.not_lt_zero j)⟩ (fun i σ H' ⟨_, _, _, s1, _⟩ => SqL.of (s1 _ _ L.top)) ?_ ?_⟩
  · rintro i x T0 σ H' hx ⟨v2, v3, rfl, s1, hb⟩ hT
    obtain ⟨p, hp, rfl⟩ := rs_get hx
    obtain ⟨l, hl, hlp⟩ := L.get' hp
    have s2 := s1.new1 (o := .tup [nv i, .ref p]) hT
    have ne := full l (List.mem_of_getElem? hl)
    obtain ⟨z, hz⟩ : ∃ z, l.getLast? = some z := by
      cases e : l.getLast? with
      | none => exact absurd (List.getLast?_eq_none_iff.mp e) ne
      | some z => exact ⟨z, rfl⟩
    refine ⟨_, rfl, _, rfl, p, _, _, _, rfl, rfl, SqL.of (s2 _ _ hlp), at_last hz, _, rfl, _, _, rfl, rfl, _, rfl, ?_⟩
    have hf : fits ll d i = decide (z ≤ d) := by
      unfold fits
      rw [lane_at hl, hz]
    by_cases c : (z : Int) ≤ (d : Int)
    · rw [decide_eq_true c]
      refine iteT ⟨_, rfl, ?_⟩
      have e := place_at (get_lt hl) (by rw [hf]; exact decide_eq_true (by omega)) hb
      have q := k _ s2
      rw [e] at q
      exact q
    · rw [decide_eq_false c]
      refine iteF ⟨_, _, rfl, s2, fun j hj => ?_⟩
      by_cases e : j = i
      · subst e
        rw [hf]; exact decide_eq_false (by omega)
      · exact hb j (by omega)
  · rintro σ H' ⟨v2, v3, rfl, s1, hb⟩
    refine ⟨_, rfl, a, _, rfl, .inl (SqL.of (s1 _ _ L.top)), ?_⟩
    rw [rs_len, L.len] at hb
    have e := place_none hb
    have := k H' s1
    rw [e, ← L.len] at this
    rw [rs_len]; exact this
/-! ### first_fit -/
def spFit (K : PySem.W.Frag) : Sp := fun vs H Q _ => ∃ (a : Addr) (l : List Nat), vs = [.ref a] ∧ SqL K H a (ds l) ∧ l.length ≤ 1000 ∧
  ∀ H' p ps, Same H H' → H p = none → (∀ q ∈ ps, H q = none) → LL H' p ps (Kh433.firstFitLanes l) → Q (.ref p) H'
theorem sc_fit : FnScope ["docks", "lanes", "dock", "at"] ["docks"] (defScope s_first_fit) := ⟨rfl, rfl, rfl, by decide +kernel, rfl, by decide +kernel, by decide +kernel⟩
theorem ok_fit {f : Addr} {fd : FuncData} (F : FnP K "first_fit" "first_fit" s_first_fit f fd) (T : Txt K mg) (cP : Cal P w K mg base 1 "place_for" (spPlace K) []) : FnOk P w K mg base CX0 2 f fd ["docks"] (spFit K) := by
  refine okP F sc_fit (fun vs H Q E h => ?_) (fun cdv A outer s H vs Q E hr h => ?_)
  · obtain ⟨a, l, rfl, _⟩ := h
    rfl
  obtain ⟨a, l, rfl, hS, hlen, k⟩ := h
  have nd := sc_fit.nd
  refine ⟨_, pss_cons (ps_set (i := 1) nd rfl (.inl rfl) (pe_lst pa_nil))
    (pss_cons (ps_for PassesOwn.never rfl (pi_list (pv 0)) (pg_name (i := 2) nd rfl (.inl rfl))
      (pss_cons (ps_set (i := 3) nd rfl (.inl rfl) (pe_c cP hr (by decide) rfl (pa_cons (pv 1) (pa_cons (pv 2) pa_nil))))
      (pss_cons (ps_if (pt_cmpR op_eq (pv 3) (pe_callB call_len_seq (by rfl) T.len PySem.boot_len (pa_cons (pv 1) pa_nil)) (nomark _))
        (pss_one (ps_expr (pe_bm PySem.F.plainAttrs_list PySem.F.slot_list_append PySem.F.type_list_append mt_append (pv 1) (pa_cons (pe_lst pa_nil) pa_nil)))) pss_nil)
      (pss_one (ps_expr (pe_bm PySem.F.plainAttrs_list PySem.F.slot_list_append PySem.F.type_list_append mt_append (pe_ix ix_list (pv 1) (pv 3) (fun _ _ => rfl)) (pa_cons (pv 2) pa_nil)))))))
    (pss_one (ps_ret (pv 1)))), ?_⟩
  refine ⟨Nat.zero_le _, fun p hp => ?_⟩
  have s0 : Same H (upd H p (.lst [])) := same_new hp
  refine ⟨_, rfl, a, rfl, ⟨_, s0.seq hS⟩, for_list (K := K) (a := a) (xs := ds l) (fun i σ H' => ∃ v2 v3 ps, σ = [some (.ref a), some (.ref p), v2, v3] ∧ Same H H' ∧ (∀ q ∈ ps, H q = none) ∧ LL H' p ps (Kh433.firstFitLanes (l.take i)))
    ⟨none, none, [], rfl, s0, by simp, ⟨upd_same, rfl, fun i p l h => by simp at h, List.nodup_nil, by simp⟩⟩ (fun i σ H' _ ⟨_, _, _, _, s1, _⟩ => s1.seq hS) ?_ ?_⟩
  · rintro i x σ H' hx ⟨v2, v3, ps, rfl, s1, fr, L⟩
    obtain ⟨d, hd, rfl⟩ := ds_get hx
    have ei : Kh433.firstFitLanes (l.take (i + 1)) = Kh433.putFirstFit (Kh433.firstFitLanes (l.take i)) d := by rw [take_more hd, ff_snoc]
    have tot : total (Kh433.firstFitLanes (l.take i)) ≤ 1000 := by
      rw [ff_total, List.length_take]; omega
    have nl : (Kh433.firstFitLanes (l.take i)).length ≤ 1000 := Nat.le_trans (ff_len _) (by rw [List.length_take]; omega)
    have full := ff_full (l.take i)
    generalize Kh433.firstFitLanes (l.take i) = ll at L ei tot nl full
    refine ⟨_, rfl, _, rfl, p, ps, ll, d, rfl, L, full, fun H2 s2 => ?_⟩
    have L2 := L.same s2
    have s12 := s1.trans s2
    refine ⟨_, rfl, _, rfl, p, _, rfl, .inl (SqL.of L2.top), rfl, _, rfl, ?_⟩
    -- the second statement, from any lanes that stand
    have fin : ∀ (H3 : Hp) (ps3 : List Addr) (ll3 : List (List Nat)) (j : Nat) (m : List Nat), Same H H3 → (∀ q ∈ ps3, H q = none) → LL H3 p ps3 ll3 → ll3[j]? = some m → m.length ≤ 1000 → j = place ll d → ll3.set j (m ++ [d]) = Kh433.putFirstFit ll d →
        ∀ D : Ends, (∀ H4 ps4, Same H H4 → (∀ q ∈ ps4, H q = none) → LL H4 p ps4 (Kh433.putFirstFit ll d) → D.nx [some (.ref a), some (.ref p), some (nv d), some (nv (place ll d))] H4) →
        tDrop (tBM K "list" rAppend (tOp (rIxL K) (tVar 1) (tVar 3)) (tCons (tVar 2) tNil)) D [some (.ref a), some (.ref p), some (nv d), some (nv (place ll d))] H3 := by
      intro H3 ps3 ll3 j m s3 fr3 L3 hj hm ej es D hD
      obtain ⟨q, hq, hqm⟩ := L3.get hj
      subst ej
      refine ⟨_, rfl, _, rfl, p, _, _, _, rfl, rfl, SqL.of L3.top, atI_nat (rs_at hq), .inl ⟨rfl, _, SqL.of hqm⟩, _, rfl, q, _, _, rfl, rfl, hqm, small_lt (by rw [ds_len]; omega), ?_⟩
      have hfr := fr3 q (List.mem_of_getElem? hq)
      have L4 := L3.put hq (m ++ [d])
      rw [es, ds_app] at L4
      exact hD _ _ (s3.put1 hfr) fr3 L4
    have done : ∀ H4 ps4, Same H H4 → (∀ q ∈ ps4, H q = none) → LL H4 p ps4 (Kh433.putFirstFit ll d) → ∃ v2 v3 ps, [some (V.ref a), some (.ref p), some (nv d), some (nv (place ll d))] = [some (.ref a), some (.ref p), v2, v3] ∧ Same H H4 ∧ (∀ q ∈ ps, H q = none) ∧ LL H4 p ps (Kh433.firstFitLanes (l.take (i + 1))) :=
      fun H4 ps4 a1 a2 a3 => ⟨_, _, ps4, rfl, a1, a2, by rw [ei]; exact a3⟩
    by_cases c : place ll d = ll.length
    · have ec : decide (nv (place ll d) = V.int ((rs ps).length : Nat)) = true := decide_eq_true (by rw [rs_len, L.len, c]; rfl)
      refine if_t ec ?_
      refine ⟨_, rfl, .inl ⟨rfl, _, SqL.of L2.top⟩, Nat.zero_le _, fun q hq => ?_⟩
      have hqa : p ≠ q := ne_of_none L2.top hq
      refine ⟨p, _, _, rfl, rfl, up_ne L2.top hqa, small_lt (by rw [rs_len, L.len]; omega), ?_⟩
      have L3 := L2.push hq rfl
      have e3 : (ll ++ [[]])[ll.length]? = some [] := by simp
      refine fin _ _ _ ll.length [] ((s12.new1 hq).put1 hp) (fun r hr => ?_) L3 e3 (by simp) c.symm ?_ _ done
      · rcases List.mem_append.mp hr with z | z
        · exact fr r z
        · rw [List.mem_singleton.mp z]; exact s12.free hq
      · rw [put_app c, List.set_append]; simp
    · have ec : decide (nv (place ll d) = V.int ((rs ps).length : Nat)) = false := decide_eq_false (fun e => c (by
        rw [rs_len, L.len] at e
        have : (place ll d : Int) = (ll.length : Int) := V.int.inj e
        omega))
      refine if_f ec ?_
      obtain ⟨h1, h2⟩ := put_old c
      have hm := mem_total (List.mem_of_getElem? (lane_get h1))
      exact fin _ _ _ (place ll d) _ s12 fr L2 (lane_get h1) (by omega) rfl h2.symm _ done
  · rintro σ H' ⟨v2, v3, ps, rfl, s1, fr, L⟩
    rw [ds_len, List.take_length] at L
    exact ⟨_, rfl, k H' p ps s1 hp fr L⟩
end
end Trl

set_option Elab.async false
set_option linter.all false
set_option maxRecDepth 100000
set_option maxHeartbeats 4000000
namespace Trl
open PySem PySem.Spec PyProof.Rows L2
open C8 (Cal pe_c pe_gc Met pe_mt pe_mt0)
section
variable {P : Program} {w : World} {K : PySem.W.Frag} {mg : Str → Option Value} {base : Heap}

/-! ### never_falls, always_falls -/
def spNever (K : PySem.W.Frag) : Sp := fun vs H Q _ => ∃ (a : Addr) (l : List Nat), vs = [.ref a] ∧ SqL K H a (ds l) ∧ l.length ≤ 10000 ∧
  ∀ H', Same H H' → Q (.bl (Kh433.isNondecreasing l)) H'
def spAlways (K : PySem.W.Frag) : Sp := fun vs H Q _ => ∃ (a : Addr) (l : List Nat), vs = [.ref a] ∧ SqL K H a (ds l) ∧ l.length ≤ 10000 ∧
  ∀ H', Same H H' → Q (.bl (Kh433.isDecreasing l)) H'
theorem zip_more {l m : List Nat} {i x y : Nat} (hx : l[i]? = some x) (hy : m[i]? = some y) : (l.zip m).take (i + 1) = (l.zip m).take i ++ [(x, y)] := take_more (by rw [List.getElem?_zip_eq_some]; exact ⟨hx, hy⟩)
theorem sc_never : FnScope ["docks", "one", "other"] ["docks"] (defScope s_never_falls) := ⟨rfl, rfl, rfl, by decide +kernel, rfl, by decide +kernel, by decide +kernel⟩
theorem sc_always : FnScope ["docks", "one", "other"] ["docks"] (defScope s_always_falls) := ⟨rfl, rfl, rfl, by decide +kernel, rfl, by decide +kernel, by decide +kernel⟩
theorem ok_never {f : Addr} {fd : FuncData} (F : FnP K "never_falls" "never_falls" s_never_falls f fd) (T : Txt K mg) : FnOk P w K mg base CX0 1 f fd ["docks"] (spNever K) := by
  refine okP F sc_never (fun vs H Q E h => ?_) (fun cdv A outer s H vs Q E hr h => ?_)
  · obtain ⟨a, l, rfl, _⟩ := h
    rfl
  obtain ⟨a, l, rfl, hS, hlen, k⟩ := h
  have nd := sc_never.nd
  refine ⟨_, pss_one (ps_ret (pe_callB (cr_all rfl) (by rfl) T.all (by decide +kernel) (pa_cons (pe_lc (own := [("one", 1), ("other", 2)]) (g := gTup K 2 (gCons (gName 1) (gCons (gName 2) gNil))) (tt := tYes) rfl nd
      (pi_zip rfl T.zip (pa_cons (pv 0) (pa_cons (pe_slice sl_list (pv 0) (po_some pe_int) po_none) pa_nil)))
      (blkOk_by (own := [("one", 1), ("other", 2)]) (N := ["docks", "one", "other"]) (sc := defScope s_never_falls) (by decide +kernel))
      (fun _ _ _ _ _ => pg_tup rfl (pgs_cons (pg_name (i := 1) nd rfl (.inl rfl)) (pgs_cons (pg_name (i := 2) nd rfl (.inl rfl)) pgs_nil))) (fun _ _ _ _ _ => pts_nil)
      (fun _ _ _ _ _ => pe_cmpR op_le (pv 1) (pv 2) (nomark _))) pa_nil))), ?_⟩
  refine ⟨_, rfl, _, rfl, _, rfl, a, _, rfl, hS, fun p hp => ?_⟩
  have ec : cutV (ds l) (some 1) none = ds (l.drop 1) := (cut_from (ds l) 1).trans (ds_drop l 1).symm
  rw [ec]
  have s0 : Same H (upd H p (.lst (ds (l.drop 1)))) := same_new hp
  refine ⟨a, p, _, _, rfl, s0.seq hS, SqL.of upd_same, fun D hD => lc_zip (K := K) (a := a) (b := p) (xs := ds l) (ys := ds (l.drop 1)) (m := (l.zip (l.drop 1)).length) (by rw [ds_len, ds_len, List.length_zip])
    (fun i H' => Same (upd H p (.lst (ds (l.drop 1)))) H' ∧ H' D = some (.lst ((((l.zip (l.drop 1)).take i).map fun q => decide (q.1 ≤ q.2)).map V.bl))) ⟨same_new hD, upd_same⟩
    (fun i H' ⟨s1, _⟩ => ⟨(s0.trans s1).seq hS, SqL.of (s1 _ _ upd_same)⟩) ?_ ?_⟩
  · rintro i x y T0 H' hx hy ⟨s1, h1⟩ hT
    obtain ⟨x, hx2, rfl⟩ := ds_get hx
    obtain ⟨y, hy2, rfl⟩ := ds_get hy
    refine ⟨rfl, _, rfl, _, rfl, _, _, rfl, rfl, _, up_ne h1 (ne_of_none h1 hT), ?_, (s1.new1 hT).put1 hD, ?_⟩
    · rw [List.length_map, List.length_map, List.length_take, List.length_zip]
      exact small_lt (by omega)
    · rw [upd_same, zip_more hx2 hy2]
      simp
  · rintro H' ⟨s1, h1⟩
    rw [List.take_length] at h1
    refine ⟨D, _, rfl, SqL.of h1, ?_⟩
    have q := k H' (s0.trans s1)
    rw [← nd_zip] at q
    rw [List.all_map]
    exact q
theorem ok_always {f : Addr} {fd : FuncData} (F : FnP K "always_falls" "always_falls" s_always_falls f fd) (T : Txt K mg) : FnOk P w K mg base CX0 1 f fd ["docks"] (spAlways K) := by
  refine okP F sc_always (fun vs H Q E h => ?_) (fun cdv A outer s H vs Q E hr h => ?_)
  · obtain ⟨a, l, rfl, _⟩ := h
    rfl
  obtain ⟨a, l, rfl, hS, hlen, k⟩ := h
  have nd := sc_always.nd
  refine ⟨_, pss_one (ps_ret (pe_callB (cr_all rfl) (by rfl) T.all (by decide +kernel) (pa_cons (pe_lc (own := [("one", 1), ("other", 2)]) (g := gTup K 2 (gCons (gName 1) (gCons (gName 2) gNil))) (tt := tYes) rfl nd
      (pi_zip rfl T.zip (pa_cons (pv 0) (pa_cons (pe_slice sl_list (pv 0) (po_some pe_int) po_none) pa_nil)))
      (blkOk_by (own := [("one", 1), ("other", 2)]) (N := ["docks", "one", "other"]) (sc := defScope s_always_falls) (by decide +kernel))
      (fun _ _ _ _ _ => pg_tup rfl (pgs_cons (pg_name (i := 1) nd rfl (.inl rfl)) (pgs_cons (pg_name (i := 2) nd rfl (.inl rfl)) pgs_nil))) (fun _ _ _ _ _ => pts_nil)
      (fun _ _ _ _ _ => pe_cmpR op_gt (pv 1) (pv 2) (nomark _))) pa_nil))), ?_⟩
  refine ⟨_, rfl, _, rfl, _, rfl, a, _, rfl, hS, fun p hp => ?_⟩
  have ec : cutV (ds l) (some 1) none = ds (l.drop 1) := (cut_from (ds l) 1).trans (ds_drop l 1).symm
  rw [ec]
  have s0 : Same H (upd H p (.lst (ds (l.drop 1)))) := same_new hp
  refine ⟨a, p, _, _, rfl, s0.seq hS, SqL.of upd_same, fun D hD => lc_zip (K := K) (a := a) (b := p) (xs := ds l) (ys := ds (l.drop 1)) (m := (l.zip (l.drop 1)).length) (by rw [ds_len, ds_len, List.length_zip])
    (fun i H' => Same (upd H p (.lst (ds (l.drop 1)))) H' ∧ H' D = some (.lst ((((l.zip (l.drop 1)).take i).map fun q => decide (q.2 < q.1)).map V.bl))) ⟨same_new hD, upd_same⟩
    (fun i H' ⟨s1, _⟩ => ⟨(s0.trans s1).seq hS, SqL.of (s1 _ _ upd_same)⟩) ?_ ?_⟩
  · rintro i x y T0 H' hx hy ⟨s1, h1⟩ hT
    obtain ⟨x, hx2, rfl⟩ := ds_get hx
    obtain ⟨y, hy2, rfl⟩ := ds_get hy
    refine ⟨rfl, _, rfl, _, rfl, _, _, rfl, rfl, _, up_ne h1 (ne_of_none h1 hT), ?_, (s1.new1 hT).put1 hD, ?_⟩
    · rw [List.length_map, List.length_map, List.length_take, List.length_zip]
      exact small_lt (by omega)
    · rw [upd_same, zip_more hx2 hy2]
      simp
  · rintro H' ⟨s1, h1⟩
    rw [List.take_length] at h1
    refine ⟨D, _, rfl, SqL.of h1, ?_⟩
    have q := k H' (s0.trans s1)
    rw [← dec_zip] at q
    rw [List.all_map]
    exact q
/-! ### chosen -/
def spChosen (K : PySem.W.Frag) : Sp := fun vs H Q _ => ∃ (a : Addr) (l : List Nat) (m : Nat), vs = [.ref a, nv m] ∧ SqL K H a (ds l) ∧ l.length ≤ 1000 ∧
  ∀ H' p, Same H H' → H p = none → H' p = some (.lst (ds (Kh433.subsequence l m))) → Q (.ref p) H'
theorem sc_chosen : FnScope ["docks", "mask", "at", "dock"] ["docks", "mask"] (defScope s_chosen) := ⟨rfl, rfl, rfl, by decide +kernel, rfl, by decide +kernel, by decide +kernel⟩
theorem bit_is (m i : Nat) : decide (V.int (Builtin.bitAnd ((m : Int) / 2 ^ ((i : Nat) : Int).toNat) 1) = V.int 1) = Kh433.isMember m i := by
  rw [bitAnd_m1, Int.toNat_natCast]
  have e : ((m : Int) / 2 ^ i) % 2 = ((m / 2 ^ i % 2 : Nat) : Int) := by
    rw [Int.natCast_emod, Int.natCast_ediv, Int.natCast_pow]; rfl
  rw [e]
  unfold Kh433.isMember
  rw [Bool.eq_iff_iff]
  simp only [decide_eq_true_eq, beq_iff_eq]
  constructor
  · intro h
    have := V.int.inj h
    omega
  · intro h
    rw [h]; rfl
theorem ok_chosen {f : Addr} {fd : FuncData} (F : FnP K "chosen" "chosen" s_chosen f fd) (T : Txt K mg) : FnOk P w K mg base CX0 1 f fd ["docks", "mask"] (spChosen K) := by
  refine okP F sc_chosen (fun vs H Q E h => ?_) (fun cdv A outer s H vs Q E hr h => ?_)
  · obtain ⟨a, l, m, rfl, _⟩ := h
    rfl
  obtain ⟨a, l, m, rfl, hS, hlen, k⟩ := h
  have nd := sc_chosen.nd
  refine ⟨_, pss_one (ps_ret (pe_lc (own := [("at", 2), ("dock", 3)]) (g := gTup K 2 (gCons (gName 2) (gCons (gName 3) gNil))) rfl nd
      (pi_enum rfl T.enumerate (pa_cons (pv 0) pa_nil))
      (blkOk_by (own := [("at", 2), ("dock", 3)]) (N := ["docks", "mask", "at", "dock"]) (sc := defScope s_chosen) (by decide +kernel))
      (fun _ _ _ _ _ => pg_tup rfl (pgs_cons (pg_name (i := 2) nd rfl (.inl rfl)) (pgs_cons (pg_name (i := 3) nd rfl (.inl rfl)) pgs_nil)))
      (fun _ _ _ _ _ => pts_one (pt_cmpR op_eq (pe_op op_and (pe_op op_shr (pv 1) (pv 2)) pe_int) pe_int (nomark _)))
      (fun _ _ _ _ _ => pv 3))), ?_⟩
  refine ⟨_, rfl, a, _, rfl, hS, fun D hD => lc_enum (K := K) (a := a) (xs := ds l) (fun i H' => Same H H' ∧ H' D = some (.lst (ds (chosenTo l m i)))) ⟨same_new hD, upd_same⟩
    (fun i H' ⟨s1, _⟩ => s1.seq hS) ?_ ?_⟩
  · rintro i x T0 H' hx ⟨s1, h1⟩ hT
    obtain ⟨x, hx2, rfl⟩ := ds_get hx
    have h2 := up_ne (o := .tup [nv i, nv x]) h1 (ne_of_none h1 hT)
    refine ⟨rfl, _, rfl, _, rfl, _, _, rfl, rfl, Int.natCast_nonneg _, _, _, rfl, rfl, rfl, _, rfl, ?_⟩
    rw [bit_is]
    cases c : Kh433.isMember m i with
    | true =>
      refine iteT ⟨_, rfl, _, h2, ?_, (s1.new1 hT).put1 hD, ?_⟩
      · rw [ds_len]
        have := chosen_len l m i
        have := get_lt hx2
        exact small_lt (by omega)
      · rw [upd_same, chosen_yes hx2 c, ds_app]; rfl
    | false =>
      refine iteF ⟨s1.new1 hT, ?_⟩
      rw [chosen_no c]; exact h2
  · rintro H' ⟨s1, h1⟩
    rw [ds_len, chosen_all] at h1
    exact k H' D s1 hD h1
end
end Trl

set_option Elab.async false
set_option linter.all false
set_option maxRecDepth 100000
set_option maxHeartbeats 4000000
namespace Trl
open PySem PySem.Spec PyProof.Rows L2
open C8 (Cal pe_c pe_gc Met pe_mt pe_mt0)
section
variable {P : Program} {w : World} {K : PySem.W.Frag} {mg : Str → Option Value} {base : Heap}

theorem pow_is (n : Nat) : (1 * 2 ^ ((n : Nat) : Int).toNat : Int) = ((2 ^ n : Nat) : Int) := by
  rw [Int.one_mul, Int.toNat_natCast, Int.natCast_pow]; rfl
theorem zero_add_nv (i : Nat) : V.int (0 + (i : Int)) = nv i := by rw [Int.zero_add]; rfl
theorem pow_small {n : Nat} (h : n ≤ 8) : 2 ^ n ≤ 256 := Nat.pow_le_pow_right (n := 2) (by decide) h
def spLong (K : PySem.W.Frag) : Sp := fun vs H Q _ => ∃ (a : Addr) (l : List Nat), vs = [.ref a] ∧ SqL K H a (ds l) ∧ l.length ≤ 8 ∧
  ∀ H' p, Same H H' → H p = none → H' p = some (.lst (ds (Kh433.subsequence l (Kh433.longestDecreasing l)))) → Q (.ref p) H'
theorem sc_long : FnScope ["docks", "best", "mask", "some"] ["docks"] (defScope s_longest_falling) := ⟨rfl, rfl, rfl, by decide +kernel, rfl, by decide +kernel, by decide +kernel⟩
theorem ok_long {f : Addr} {fd : FuncData} (F : FnP K "longest_falling" "longest_falling" s_longest_falling f fd) (T : Txt K mg) (cC : Cal P w K mg base 1 "chosen" (spChosen K) []) (cA : Cal P w K mg base 1 "always_falls" (spAlways K) []) :
    FnOk P w K mg base CX0 2 f fd ["docks"] (spLong K) := by
  refine okP F sc_long (fun vs H Q E h => ?_) (fun cdv A outer s H vs Q E hr h => ?_)
  · obtain ⟨a, l, rfl, _⟩ := h
    rfl
  obtain ⟨a, l, rfl, hS, hlen, k⟩ := h
  have nd := sc_long.nd
  refine ⟨_, pss_cons (ps_set (i := 1) nd rfl (.inl rfl) (pe_lst pa_nil))
    (pss_cons (ps_for PassesOwn.never rfl (pi_range1 rfl T.range (pa_cons (pe_op op_shl pe_int (pe_callB call_len_seq (by rfl) T.len PySem.boot_len (pa_cons (pv 0) pa_nil))) pa_nil)) (pg_name (i := 2) nd rfl (.inl rfl))
      (pss_cons (ps_set (i := 3) nd rfl (.inl rfl) (pe_c cC hr (by decide) rfl (pa_cons (pv 0) (pa_cons (pv 2) pa_nil))))
      (pss_one (ps_if (PW.pt (pw_and (pt_cmpR op_gt (pe_callB call_len_seq (by rfl) T.len PySem.boot_len (pa_cons (pv 3) pa_nil)) (pe_callB call_len_seq (by rfl) T.len PySem.boot_len (pa_cons (pv 1) pa_nil)) (nomark _))
          (pw_and1 (pt_val (pe_c cA hr (by decide) rfl (pa_cons (pv 3) pa_nil))))))
        (pss_one (ps_set (i := 1) nd rfl (.inl rfl) (pv 3))) pss_nil))))
    (pss_one (ps_ret (pv 1)))), ?_⟩
  refine ⟨Nat.zero_le _, fun p hp => ?_⟩
  have s0 : Same H (upd H p (.lst [])) := same_new hp
  have e2 := pow_is (ds l).length
  have small : 2 ^ (ds l).length ≤ 256 := pow_small (by rw [ds_len]; exact hlen)
  have en : (1 * 2 ^ (((ds l).length : Nat) : Int).toNat : Int).toNat = 2 ^ l.length := by rw [e2, Int.toNat_natCast, ds_len]
  have ok0 : Kh433.subsequence l (bestOf l (Kh433.isDecreasing) 0) = [] := subs_zero l
  refine ⟨_, rfl, a, _, rfl, .inl (s0.seq hS), _, _, rfl, rfl, ⟨Int.natCast_nonneg _, by rw [ds_len]; omega, by decide⟩, _, rfl, (by rw [e2]; exact Int.le_trans (by decide) (Int.natCast_nonneg _)), (by rw [e2]; exact Int.lt_of_le_of_lt (Int.ofNat_le.mpr small) (by decide)),
    for_range (lo := 0) (n := (1 * 2 ^ (((ds l).length : Nat) : Int).toNat : Int).toNat) (fun i σ H' => ∃ v2 v3 pb, σ = [some (.ref a), some (.ref pb), v2, v3] ∧ Same H H' ∧ H pb = none ∧ H' pb = some (.lst (ds (Kh433.subsequence l (bestOf l (Kh433.isDecreasing) i)))))
    ⟨none, none, p, rfl, s0, hp, by rw [ok0]; exact upd_same⟩ ?_ ?_⟩
  · rintro i σ H' hi ⟨v2, v3, pb, rfl, s1, fb, hb⟩
    refine ⟨_, rfl, _, rfl, a, l, i, (by rw [zero_add_nv]; rfl), s1.seq hS, by omega, fun H2 q s2 fq hq => ?_⟩
    have s12 := s1.trans s2
    have hb2 := s2 _ _ hb
    have fq1 := s1.free fq
    have step := best_more l (Kh433.isDecreasing) i
    generalize bestOf l (Kh433.isDecreasing) i = bm at hb hb2 step
    have sl := subs_le l i
    refine ⟨_, rfl, q, _, rfl, .inl (SqL.of hq), _, rfl, pb, _, rfl, .inl (SqL.of hb2), _, _, rfl, rfl, _, rfl, ?_⟩
    by_cases c : (Kh433.subsequence l bm).length < (Kh433.subsequence l i).length
    · refine if_t (decide_eq_true (by rw [ds_len, ds_len]; omega)) ?_
      refine ⟨_, rfl, q, _, rfl, SqL.of hq, by omega, fun H3 s3 => ⟨_, rfl, ?_⟩⟩
      have s13 := s12.trans s3
      cases c2 : Kh433.isDecreasing (Kh433.subsequence l i) with
      | true =>
        have e : bestOf l (Kh433.isDecreasing) (i + 1) = i := by rw [step, c2, decide_eq_true c]; rfl
        exact ⟨_, rfl, _, _, q, rfl, s13, fq1, by rw [e]; exact s3 _ _ hq⟩
      | false =>
        have e : bestOf l (Kh433.isDecreasing) (i + 1) = bm := by rw [step, c2]; rfl
        exact ⟨_, _, pb, rfl, s13, fb, by rw [e]; exact s3 _ _ hb2⟩
    · refine if_f (decide_eq_false (by rw [ds_len, ds_len]; omega)) ?_
      have e : bestOf l (Kh433.isDecreasing) (i + 1) = bm := by rw [step, decide_eq_false c, Bool.and_false]; rfl
      exact ⟨_, _, pb, rfl, s12, fb, by rw [e]; exact hb2⟩
  · rintro σ H' ⟨v2, v3, pb, rfl, s1, fb, hb⟩
    rw [en, best_longest] at hb
    exact ⟨_, rfl, k H' pb s1 fb hb⟩
def spLarge (K : PySem.W.Frag) : Sp := fun vs H Q _ => ∃ (a : Addr) (l : List Nat) (kk : Nat), vs = [.ref a, nv kk] ∧ SqL K H a (ds l) ∧ l.length ≤ 8 ∧
  ∀ H' p, Same H H' → H p = none → H' p = some (.lst (ds (Kh433.subsequence l (Kh433.maxSubset kk l)))) → Q (.ref p) H'
theorem sc_large : FnScope ["docks", "lanes", "best", "mask", "some"] ["docks", "lanes"] (defScope s_largest_sortable) := ⟨rfl, rfl, rfl, by decide +kernel, rfl, by decide +kernel, by decide +kernel⟩
theorem ok_large {f : Addr} {fd : FuncData} (F : FnP K "largest_sortable" "largest_sortable" s_largest_sortable f fd) (T : Txt K mg) (cC : Cal P w K mg base 1 "chosen" (spChosen K) []) (cA : Cal P w K mg base 2 "first_fit" (spFit K) []) :
    FnOk P w K mg base CX0 3 f fd ["docks", "lanes"] (spLarge K) := by
  refine okP F sc_large (fun vs H Q E h => ?_) (fun cdv A outer s H vs Q E hr h => ?_)
  · obtain ⟨a, l, kk, rfl, _⟩ := h
    rfl
  obtain ⟨a, l, kk, rfl, hS, hlen, k⟩ := h
  have nd := sc_large.nd
  refine ⟨_, pss_cons (ps_set (i := 2) nd rfl (.inl rfl) (pe_lst pa_nil))
    (pss_cons (ps_for PassesOwn.never rfl (pi_range1 rfl T.range (pa_cons (pe_op op_shl pe_int (pe_callB call_len_seq (by rfl) T.len PySem.boot_len (pa_cons (pv 0) pa_nil))) pa_nil)) (pg_name (i := 3) nd rfl (.inl rfl))
      (pss_cons (ps_set (i := 4) nd rfl (.inl rfl) (pe_c cC hr (by decide) rfl (pa_cons (pv 0) (pa_cons (pv 3) pa_nil))))
      (pss_one (ps_if (PW.pt (pw_and (pt_cmpR op_gt (pe_callB call_len_seq (by rfl) T.len PySem.boot_len (pa_cons (pv 4) pa_nil)) (pe_callB call_len_seq (by rfl) T.len PySem.boot_len (pa_cons (pv 2) pa_nil)) (nomark _))
          (pw_and1 (pt_cmpR op_le (pe_callB call_len_seq (by rfl) T.len PySem.boot_len (pa_cons (pe_c cA hr (by decide) rfl (pa_cons (pv 4) pa_nil)) pa_nil)) (pv 1) (nomark _)))))
        (pss_one (ps_set (i := 2) nd rfl (.inl rfl) (pv 4))) pss_nil))))
    (pss_one (ps_ret (pv 2)))), ?_⟩
  refine ⟨Nat.zero_le _, fun p hp => ?_⟩
  have s0 : Same H (upd H p (.lst [])) := same_new hp
  have e2 := pow_is (ds l).length
  have small : 2 ^ (ds l).length ≤ 256 := pow_small (by rw [ds_len]; exact hlen)
  have en : (1 * 2 ^ (((ds l).length : Nat) : Int).toNat : Int).toNat = 2 ^ l.length := by rw [e2, Int.toNat_natCast, ds_len]
  have ok0 : Kh433.subsequence l (bestOf l (fun x => decide (Kh433.lanesNeeded x ≤ kk)) 0) = [] := subs_zero l
  refine ⟨_, rfl, a, _, rfl, .inl (s0.seq hS), _, _, rfl, rfl, ⟨Int.natCast_nonneg _, by rw [ds_len]; omega, by decide⟩, _, rfl, (by rw [e2]; exact Int.le_trans (by decide) (Int.natCast_nonneg _)), (by rw [e2]; exact Int.lt_of_le_of_lt (Int.ofNat_le.mpr small) (by decide)),
    for_range (lo := 0) (n := (1 * 2 ^ (((ds l).length : Nat) : Int).toNat : Int).toNat) (fun i σ H' => ∃ v2 v3 pb, σ = [some (.ref a), some (nv kk), some (.ref pb), v2, v3] ∧ Same H H' ∧ H pb = none ∧ H' pb = some (.lst (ds (Kh433.subsequence l (bestOf l (fun x => decide (Kh433.lanesNeeded x ≤ kk)) i)))))
    ⟨none, none, p, rfl, s0, hp, by rw [ok0]; exact upd_same⟩ ?_ ?_⟩
  · rintro i σ H' hi ⟨v2, v3, pb, rfl, s1, fb, hb⟩
    refine ⟨_, rfl, _, rfl, a, l, i, (by rw [zero_add_nv]; rfl), s1.seq hS, by omega, fun H2 q s2 fq hq => ?_⟩
    have s12 := s1.trans s2
    have hb2 := s2 _ _ hb
    have fq1 := s1.free fq
    have step := best_more l (fun x => decide (Kh433.lanesNeeded x ≤ kk)) i
    generalize bestOf l (fun x => decide (Kh433.lanesNeeded x ≤ kk)) i = bm at hb hb2 step
    have sl := subs_le l i
    refine ⟨_, rfl, q, _, rfl, .inl (SqL.of hq), _, rfl, pb, _, rfl, .inl (SqL.of hb2), _, _, rfl, rfl, _, rfl, ?_⟩
    by_cases c : (Kh433.subsequence l bm).length < (Kh433.subsequence l i).length
    · refine if_t (decide_eq_true (by rw [ds_len, ds_len]; omega)) ?_
      refine ⟨_, rfl, q, _, rfl, SqL.of hq, by omega, fun H3 p3 ps3 s3 f3 fr3 L3 => ?_⟩
      have s13 := s12.trans s3
      refine ⟨p3, _, rfl, .inl (SqL.of L3.top), _, rfl, _, _, rfl, rfl, _, rfl, ?_⟩
      have el : (rs ps3).length = Kh433.lanesNeeded (Kh433.subsequence l i) := by rw [rs_len, L3.len]; rfl
      by_cases c2 : Kh433.lanesNeeded (Kh433.subsequence l i) ≤ kk
      · refine if_t (decide_eq_true (by rw [el]; omega)) ?_
        have e : bestOf l (fun x => decide (Kh433.lanesNeeded x ≤ kk)) (i + 1) = i := by
          rw [step]
          show (if (decide (Kh433.lanesNeeded (Kh433.subsequence l i) ≤ kk) && _) = true then i else bm) = i
          rw [decide_eq_true c2, decide_eq_true c]; rfl
        exact ⟨_, rfl, _, _, q, rfl, s13, fq1, by rw [e]; exact s3 _ _ hq⟩
      · refine if_f (decide_eq_false (by rw [el]; omega)) ?_
        have e : bestOf l (fun x => decide (Kh433.lanesNeeded x ≤ kk)) (i + 1) = bm := by
          rw [step]
          show (if (decide (Kh433.lanesNeeded (Kh433.subsequence l i) ≤ kk) && _) = true then i else bm) = bm
          rw [decide_eq_false c2]; rfl
        exact ⟨_, _, pb, rfl, s13, fb, by rw [e]; exact s3 _ _ hb2⟩
    · refine if_f (decide_eq_false (by rw [ds_len, ds_len]; omega)) ?_
      have e : bestOf l (fun x => decide (Kh433.lanesNeeded x ≤ kk)) (i + 1) = bm := by rw [step, decide_eq_false c, Bool.and_false]; rfl
      exact ⟨_, _, pb, rfl, s12, fb, by rw [e]; exact hb2⟩
  · rintro σ H' ⟨v2, v3, pb, rfl, s1, fb, hb⟩
    rw [en, best_max] at hb
    exact ⟨_, rfl, k H' pb s1 fb hb⟩
end
end Trl

set_option Elab.async false
set_option linter.all false
set_option maxRecDepth 100000
set_option maxHeartbeats 4000000
namespace Trl
open PySem PySem.Spec PyProof.Rows L2
open C8 (Cal pe_c pe_gc Met pe_mt pe_mt0)
section
variable {P : Program} {w : World} {K : PySem.W.Frag} {mg : Str → Option Value} {base : Heap}

/-! ### is_valid -/
def spValid (K : PySem.W.Frag) : Sp := fun vs H Q _ => ∃ (a b : Addr) (l as : List Nat), vs = [.ref a, .ref b] ∧ SqL K H a (ds l) ∧ (SqL K H b (ds as) ∨ SqT K H b (ds as)) ∧ as.length = l.length ∧ l.length ≤ 1000 ∧
  ∀ H', Same H H' → Q (.bl (goes (fun _ => 0) (l.zip as))) H'
theorem seqT {K : PySem.W.Frag} {H H' : Hp} {a : Addr} {xs : List V} (e : Same H H') (h : SqT K H a xs) : SqT K H' a xs := by
  rcases h with (h | ⟨o, h⟩) | h
  · exact .inl (.inl (e _ _ h))
  · exact .inl (.inr ⟨o, e _ _ h⟩)
  · exact .inr h
/-- the dict says the last dock of each lane -/
def Says (kvs : List (Key × V)) (f : Nat → Nat) : Prop := ∀ k : Nat, (valV kvs (Sum.inl (k : Int))).getD (nv 0) = nv (f k)
theorem says_put {kvs : List (Key × V)} {f : Nat → Nat} (h : Says kvs f) (k d : Nat) : Says (putK kvs (Sum.inl (k : Int)) (nv d)) (fun j => if j = k then d else f j) := by
  intro j
  rw [valV_put]
  by_cases c : j = k
  · subst c
    rw [if_pos rfl]
    show nv d = nv (if j = j then d else f j)
    rw [if_pos rfl]
  · rw [if_neg (fun e => c (by have := Sum.inl.inj e; omega))]
    show _ = nv (if j = k then d else f j)
    rw [if_neg c]
    exact h j
theorem len_put (c : List (Key × V)) (k : Key) (x : V) : (putK c k x).length ≤ c.length + 1 := by
  unfold putK
  split
  · simp
  · simp
theorem goes_step {f : Nat → Nat} {ps : List (Nat × Nat)} {i d k : Nat} (h : ps[i]? = some (d, k)) : goes f (ps.drop i) = if f k > d then false else goes (fun j => if j = k then d else f j) (ps.drop (i + 1)) := by
  have e : ps.drop i = (d, k) :: ps.drop (i + 1) := by
    obtain ⟨hl, he⟩ := List.getElem?_eq_some_iff.mp h
    rw [List.drop_eq_getElem_cons hl, he]
  rw [e]; rfl
theorem sc_valid : FnScope ["docks", "assignment", "last", "dock", "lane"] ["docks", "assignment"] (defScope s_is_valid) := ⟨rfl, rfl, rfl, by decide +kernel, rfl, by decide +kernel, by decide +kernel⟩
theorem ok_valid {f : Addr} {fd : FuncData} (F : FnP K "is_valid" "is_valid" s_is_valid f fd) (T : Txt K mg) : FnOk P w K mg base CX0 1 f fd ["docks", "assignment"] (spValid K) := by
  refine okP F sc_valid (fun vs H Q E h => ?_) (fun cdv A outer s H vs Q E hr h => ?_)
  · obtain ⟨a, b, l, as, rfl, _⟩ := h
    rfl
  obtain ⟨a, b, l, as, rfl, hS, hB, hl, hlen, k⟩ := h
  have nd := sc_valid.nd
  have hu := hu_of hr
  refine ⟨_, pss_cons (ps_set (i := 2) nd rfl (.inl rfl) pe_dnewK)
    (pss_cons (ps_for PassesOwn.never rfl (pi_zipM rfl T.zip (pa_cons (pv 0) (pa_cons (pv 1) pa_nil))) (pg_tup rfl (pgs_cons (pg_name (i := 3) nd rfl (.inl rfl)) (pgs_cons (pg_name (i := 4) nd rfl (.inl rfl)) pgs_nil)))
      (pss_cons (ps_if (pt_cmpR op_gt (pe_dget2 hu (pv 2) (pv 4) pe_int ⟨rfl, rfl, rfl, rfl⟩) (pv 3) (nomark _)) (pss_one (ps_ret pe_bl)) pss_nil)
      (pss_one (ps_dput hu (pv 2) (pv 4) (pv 3) rfl))))
    (pss_one (ps_ret pe_bl))), ?_⟩
  intro d hd
  have s0 : Same H (upd H d (.dK [])) := same_new hd
  have hlz : (ds l).length = (ds as).length := by rw [ds_len, ds_len, hl]
  rcases hB with hB | hB
  · refine ⟨_, rfl, _, rfl, a, b, _, _, rfl, s0.seq hS, .inl ⟨s0.seq hB, for_zipL2 (K := K) (a := a) (b := b) (xs := ds l) (ys := ds as) hlz (fun i σ H' => ∃ v3 v4 kvs f, σ = [some (.ref a), some (.ref b), some (.ref d), v3, v4] ∧ Same H H' ∧ H' d = some (.dK kvs) ∧ kvs.length ≤ i ∧ Says kvs f ∧ goes (fun _ => 0) (l.zip as) = goes f ((l.zip as).drop i))
      ⟨none, none, [], fun _ => 0, rfl, s0, upd_same, Nat.le_refl _, fun k => rfl, rfl⟩
      (fun i σ H' ⟨_, _, _, _, _, s1, _⟩ => ⟨s1.seq hS, s1.seq hB⟩) ?_ ?_⟩⟩
    · rintro n x y T0 σ H' hx hy ⟨v3, v4, kvs, f, rfl, s1, hk, hkl, say, eg⟩ hT
      obtain ⟨x, hx2, rfl⟩ := ds_get hx
      obtain ⟨y, hy2, rfl⟩ := ds_get hy
      have hk2 := up_ne (o := .tup [nv x, nv y]) hk (ne_of_none hk hT)
      have ez : (l.zip as)[n]? = some (x, y) := by rw [List.getElem?_zip_eq_some]; exact ⟨hx2, hy2⟩
      have step := goes_step (f := f) ez
      have sy := say y
      have hn := get_lt hx2
      refine ⟨_, rfl, d, rfl, .inl ⟨kvs, .inl hk2⟩, _, rfl, _, DGet.k (k := Sum.inl (y : Int)) hk2, _, rfl, ?_⟩
      rw [show (V.int 0) = nv 0 from rfl, sy]
      refine ⟨_, _, rfl, rfl, _, rfl, ?_⟩
      by_cases c : f y > x
      · refine if_t (decide_eq_true (by omega)) ?_
        have q := k _ (s1.new1 (o := .tup [nv x, nv y]) hT)
        rw [eg, step, if_pos c] at q
        exact q
      · refine if_f (decide_eq_false (by omega)) ?_
        refine ⟨_, rfl, _, rfl, _, rfl, d, _, rfl, DPut.k (k := Sum.inl (y : Int)) hk2 (small_lt (by omega)), ?_⟩
        refine ⟨_, _, _, _, rfl, (s1.new1 hT).put1 hd, upd_same, ?_, says_put say y x, ?_⟩
        · have := len_put kvs (Sum.inl (y : Int)) (nv x)
          omega
        · rw [eg, step, if_neg c]
    · rintro σ H' ⟨v3, v4, kvs, f, rfl, s1, hk, hkl, say, eg⟩
      have q := k H' s1
      rw [eg, List.drop_eq_nil_of_le (by rw [List.length_zip, ds_len]; omega)] at q
      exact q
  · refine ⟨_, rfl, _, rfl, a, b, _, _, rfl, s0.seq hS, .inr ⟨seqT s0 hB, for_zipM (K := K) (a := a) (b := b) (xs := ds l) (ys := ds as) hlz (fun i σ H' => ∃ v3 v4 kvs f, σ = [some (.ref a), some (.ref b), some (.ref d), v3, v4] ∧ Same H H' ∧ H' d = some (.dK kvs) ∧ kvs.length ≤ i ∧ Says kvs f ∧ goes (fun _ => 0) (l.zip as) = goes f ((l.zip as).drop i))
      ⟨none, none, [], fun _ => 0, rfl, s0, upd_same, Nat.le_refl _, fun k => rfl, rfl⟩
      (fun i σ H' ⟨_, _, _, _, _, s1, _⟩ => ⟨s1.seq hS, seqT s1 hB⟩) ?_ ?_⟩⟩
    · rintro n x y T0 σ H' hx hy ⟨v3, v4, kvs, f, rfl, s1, hk, hkl, say, eg⟩ hT
      obtain ⟨x, hx2, rfl⟩ := ds_get hx
      obtain ⟨y, hy2, rfl⟩ := ds_get hy
      have hk2 := up_ne (o := .tup [nv x, nv y]) hk (ne_of_none hk hT)
      have ez : (l.zip as)[n]? = some (x, y) := by rw [List.getElem?_zip_eq_some]; exact ⟨hx2, hy2⟩
      have step := goes_step (f := f) ez
      have sy := say y
      have hn := get_lt hx2
      refine ⟨_, rfl, d, rfl, .inl ⟨kvs, .inl hk2⟩, _, rfl, _, DGet.k (k := Sum.inl (y : Int)) hk2, _, rfl, ?_⟩
      rw [show (V.int 0) = nv 0 from rfl, sy]
      refine ⟨_, _, rfl, rfl, _, rfl, ?_⟩
      by_cases c : f y > x
      · refine if_t (decide_eq_true (by omega)) ?_
        have q := k _ (s1.new1 (o := .tup [nv x, nv y]) hT)
        rw [eg, step, if_pos c] at q
        exact q
      · refine if_f (decide_eq_false (by omega)) ?_
        refine ⟨_, rfl, _, rfl, _, rfl, d, _, rfl, DPut.k (k := Sum.inl (y : Int)) hk2 (small_lt (by omega)), ?_⟩
        refine ⟨_, _, _, _, rfl, (s1.new1 hT).put1 hd, upd_same, ?_, says_put say y x, ?_⟩
        · have := len_put kvs (Sum.inl (y : Int)) (nv x)
          omega
        · rw [eg, step, if_neg c]
    · rintro σ H' ⟨v3, v4, kvs, f, rfl, s1, hk, hkl, say, eg⟩
      have q := k H' s1
      rw [eg, List.drop_eq_nil_of_le (by rw [List.length_zip, ds_len]; omega)] at q
      exact q
end
end Trl

set_option Elab.async false
set_option linter.all false
set_option maxRecDepth 100000
set_option maxHeartbeats 4000000
namespace Trl
open PySem PySem.Spec PyProof.Rows L2
open C8 (Cal pe_c pe_gc Met pe_mt pe_mt0)
section
variable {P : Program} {w : World} {K : PySem.W.Frag} {mg : Str → Option Value} {base : Heap}

/-! ### assignments_of -/
structure Ts (H : Hp) (ps : List Addr) (as : List (List Nat)) : Prop where
  len : ps.length = as.length
  at_ : ∀ (i : Nat) p x, ps[i]? = some p → as[i]? = some x → H p = some (.tup (ds x))
theorem Ts.same {H H' : Hp} {ps : List Addr} {as : List (List Nat)} (t : Ts H ps as) (s : Same H H') : Ts H' ps as := ⟨t.len, fun i p x h1 h2 => s _ _ (t.at_ i p x h1 h2)⟩
theorem Ts.upd {H : Hp} {ps : List Addr} {as : List (List Nat)} (t : Ts H ps as) {q : Addr} {xs : List V} {o : HO} (hq : H q = some (.lst xs)) : Ts (upd H q o) ps as :=
  ⟨t.len, fun i p x h1 h2 => up_ne (t.at_ i p x h1 h2) (ne_of (t.at_ i p x h1 h2) hq (by intro z; cases z))⟩
theorem Ts.app {H : Hp} {ps qs : List Addr} {as bs : List (List Nat)} (t : Ts H ps as) (u : Ts H qs bs) : Ts H (ps ++ qs) (as ++ bs) := by
  refine ⟨by rw [List.length_append, List.length_append, t.len, u.len], fun i p x h1 h2 => ?_⟩
  by_cases c : i < ps.length
  · rw [List.getElem?_append_left c] at h1
    rw [List.getElem?_append_left (by rw [← t.len]; exact c)] at h2
    exact t.at_ i p x h1 h2
  · rw [List.getElem?_append_right (by omega)] at h1
    rw [List.getElem?_append_right (by rw [← t.len]; omega), ← t.len] at h2
    exact u.at_ _ p x h1 h2
theorem Ts.one {H : Hp} {p : Addr} {x : List Nat} (h : H p = some (.tup (ds x))) : Ts H [p] [x] := by
  refine ⟨rfl, fun i q y h1 h2 => ?_⟩
  cases i with
  | zero =>
    rw [← Option.some.inj h1, ← Option.some.inj h2]; exact h
  | succ i => simp at h1
theorem Ts.nil {H : Hp} : Ts H [] [] := ⟨rfl, fun i p x h => by simp at h⟩
theorem Ts.get {H : Hp} {ps : List Addr} {as : List (List Nat)} (t : Ts H ps as) {i : Nat} {p : Addr} (h : ps[i]? = some p) : ∃ x, as[i]? = some x ∧ H p = some (.tup (ds x)) := by
  obtain ⟨x, hx⟩ := get_some (l := as) (i := i) (by rw [← t.len]; exact get_lt h)
  exact ⟨x, hx, t.at_ i p x h hx⟩
def more (n : Nat) (a : List Nat) : List (List Nat) := (List.range n).map fun k => a ++ [k]
theorem more_len (n : Nat) (a : List Nat) : (more n a).length = n := by simp [more]
theorem more_step (a : List Nat) (i : Nat) : more (i + 1) a = more i a ++ [a ++ [i]] := by
  unfold more
  rw [List.range_succ, List.map_append]; rfl
theorem assigns_step (n m : Nat) : assigns n (m + 1) = (assigns n m).flatMap (more n) := rfl
theorem flat_step {as : List (List Nat)} {n i : Nat} {x : List Nat} (h : as[i]? = some x) : (as.take (i + 1)).flatMap (more n) = (as.take i).flatMap (more n) ++ more n x := by
  rw [take_more h, List.flatMap_append]
  simp
theorem pow_le6 {n m : Nat} (hn : n ≤ 4) (hm : m ≤ 6) : n ^ m ≤ 4096 :=
  Nat.le_trans (Nat.pow_le_pow_left hn m) (Nat.le_trans (Nat.pow_le_pow_right (by decide) hm) (by decide))
def spAssigns : Sp := fun vs H Q _ => ∃ (m n : Nat), vs = [nv m, nv n] ∧ m ≤ 6 ∧ n ≤ 4 ∧
  ∀ H' p ps, Same H H' → H p = none → H' p = some (.lst (rs ps)) → Ts H' ps (assigns n m) → Q (.ref p) H'
theorem sc_assigns : FnScope ["many", "lanes", "found", "turn", "longer", "assignment", "lane"] ["many", "lanes"] (defScope s_assignments_of) := ⟨rfl, rfl, rfl, by decide +kernel, rfl, by decide +kernel, by decide +kernel⟩
theorem flat_len (n : Nat) : ∀ as : List (List Nat), (as.flatMap (more n)).length = as.length * n
  | [] => by simp
  | a :: r => by
    rw [List.flatMap_cons, List.length_append, more_len, flat_len n r, List.length_cons, Nat.succ_mul]; omega
theorem ok_assigns {f : Addr} {fd : FuncData} (F : FnP K "assignments_of" "assignments_of" s_assignments_of f fd) (T : Txt K mg) : FnOk P w K mg base CX0 1 f fd ["many", "lanes"] spAssigns := by
  refine okP F sc_assigns (fun vs H Q E h => ?_) (fun cdv A outer s H vs Q E hr h => ?_)
  · obtain ⟨m, n, rfl, _⟩ := h
    rfl
  obtain ⟨m, n, rfl, hm, hn, k⟩ := h
  have nd := sc_assigns.nd
  refine ⟨_, pss_cons (ps_set (i := 2) nd rfl (.inl rfl) (pe_lst (pa_cons (pe_tup pa_nil) pa_nil)))
    (pss_cons (ps_for PassesOwn.never rfl (pi_range1 rfl T.range (pa_cons (pv 0) pa_nil)) (pg_name (i := 3) nd rfl (.inl rfl))
      (pss_cons (ps_set (i := 4) nd rfl (.inl rfl) (pe_lst pa_nil))
      (pss_cons (ps_for PassesOwn.never rfl (pi_list (pv 2)) (pg_name (i := 5) nd rfl (.inr rfl))
        (pss_one (ps_expr (pe_bm PySem.F.plainAttrs_list PySem.F.slot_list_extend PySem.F.type_list_extend mt_extend (pv 4) (pa_cons (pe_lc (own := [("lane", 6)]) (g := gName 6) (tt := tYes) (te := tOp (rCatA K) (tVar 5) (tTup (tCons (tVar 6) tNil))) rfl nd
          (pi_range1 rfl T.range (pa_cons (pv 1) pa_nil))
          (blkOk_by (own := [("lane", 6)]) (N := ["many", "lanes", "found", "turn", "longer", "assignment", "lane"]) (sc := defScope s_assignments_of) (by decide +kernel))
          (fun _ _ _ _ _ => pg_name (i := 6) nd rfl (.inl rfl)) (fun _ _ _ _ _ => pts_nil)
          (fun _ _ _ _ _ => pe_op op_catA (pv 5) (pe_tup (pa_cons (pv 6) pa_nil)))) pa_nil)))))
      (pss_one (ps_set (i := 2) nd rfl (.inl rfl) (pv 4))))))
    (pss_one (ps_ret (pv 2)))), ?_⟩
  refine ⟨Nat.zero_le _, fun t0 ht0 => ⟨(by show 1 ≤ sizeLine; decide), fun p0 hp0 => ?_⟩⟩
  have s0 : Same H (upd (upd H t0 (.tup [])) p0 (.lst [.ref t0])) := (same_new ht0).new1 hp0
  have f0 : H p0 = none := (same_new ht0).free hp0
  have ht : upd (upd H t0 (.tup [])) p0 (.lst [.ref t0]) t0 = some (.tup (ds [])) := up_ne upd_same (ne_of_none upd_same hp0)
  refine ⟨_, rfl, (m : Int), rfl, by omega, by omega, for_range (lo := 0) (n := ((m : Nat) : Int).toNat) (fun i σ H' => ∃ v3 v4 v5 pf ps, σ = [some (nv m), some (nv n), some (.ref pf), v3, v4, v5, none] ∧ Same H H' ∧ H pf = none ∧ H' pf = some (.lst (rs ps)) ∧ Ts H' ps (assigns n i))
    ⟨none, none, none, p0, [t0], rfl, s0, f0, upd_same, Ts.one ht⟩ ?_ ?_⟩
  · rintro i σ H' hi ⟨v3, v4, v5, pf, ps, rfl, s1, fp, hp, tt⟩
    have him : i < m := by omega
    have size := assigns_len n i
    have small : n ^ (i + 1) ≤ 4096 := pow_le6 hn (by omega)
    rw [Nat.pow_succ] at small
    generalize ea : assigns n i = as at tt size
    refine ⟨Nat.zero_le _, fun pl hl => ?_⟩
    have fl := s1.free hl
    have npl : pf ≠ pl := ne_of_none hp hl
    refine ⟨_, rfl, pf, rfl, ⟨_, SqL.of (up_ne hp npl)⟩, for_list (K := K) (a := pf) (xs := rs ps) (fun j σ H2 => ∃ v5 pq, σ = [some (nv m), some (nv n), some (.ref pf), some (.int (0 + (i : Int))), some (.ref pl), v5, none] ∧ Same H H2 ∧ H2 pf = some (.lst (rs ps)) ∧ Ts H2 ps as ∧ H2 pl = some (.lst (rs pq)) ∧ Ts H2 pq ((as.take j).flatMap (more n)))
      ⟨v5, [], rfl, s1.new1 hl, up_ne hp npl, tt.same (same_new hl), upd_same, Ts.nil⟩ (fun j σ H2 _ ⟨_, _, _, _, h, _⟩ => SqL.of h) ?_ ?_⟩
    · rintro j x σ H2 hx ⟨v5, pq, rfl, s2, hp2, tt2, hl2, tq⟩
      obtain ⟨q, hq, rfl⟩ := rs_get hx
      obtain ⟨a, haj, hqa⟩ := tt2.get hq
      refine ⟨_, rfl, .inl ⟨rfl, _, SqL.of hl2⟩, ?_⟩
      refine ⟨_, rfl, (n : Int), rfl, by omega, by omega, fun D hD => lc_range (lo := 0) (n := ((n : Nat) : Int).toNat) (fun c H3 => ∃ pr, Same H2 H3 ∧ H3 D = some (.lst (rs pr)) ∧ Ts H3 pr (more c a))
        ⟨[], same_new hD, upd_same, Ts.nil⟩ ?_ ?_⟩
      · rintro c H3 hc ⟨pr, s3, h3, tr⟩
        refine ⟨rfl, _, rfl, _, rfl, (by show 1 ≤ sizeLine; decide), fun u hu => ?_⟩
        have hcn : c < n := by omega
        have du : D ≠ u := ne_of_none h3 hu
        have hu2 : upd H3 u (.tup [V.int (0 + (c : Int))]) u = some (.tup (ds [c])) := by rw [upd_same, zero_add_nv]; rfl
        have hal : a.length ≤ 10000 := by
          have z := (assigns_mem n i a (by rw [ea]; exact List.mem_of_getElem? haj)).1
          omega
        have s4 : Same H2 (upd H3 u (.tup [V.int (0 + (c : Int))])) := s3.new1 hu
        have h4 := up_ne (o := .tup [V.int (0 + (c : Int))]) h3 du
        have tr4 := tr.same (same_new (o := .tup [V.int (0 + (c : Int))]) hu)
        refine ⟨q, u, _, _, rfl, rfl, SqT.of (s4 _ _ hqa), SqT.of upd_same, ?_, fun en => ?_, fun _ en => (by cases en), fun ne _ t ht => ?_⟩
        · rw [ds_len]
          exact small_le (by simp; omega)
        · have ea0 : a = [] := List.map_eq_nil_iff.mp en
          refine ⟨_, h4, small_lt (by rw [rs_len, tr.len, more_len]; omega), pr ++ [u], s4.put1 hD, ?_, ?_⟩
          · rw [upd_same, rs_app]; rfl
          · rw [ea0] at tr4 ⊢
            rw [more_step]
            exact ((tr4.app (Ts.one hu2)).upd h4)
        · refine ⟨_, up_ne h4 (ne_of_none h4 ht), small_lt (by rw [rs_len, tr.len, more_len]; omega), pr ++ [t], (s4.new1 ht).put1 hD, ?_, ?_⟩
          · rw [upd_same, rs_app]; rfl
          · rw [more_step]
            refine (((tr4.same (same_new ht)).app (Ts.one ?_)).upd (up_ne h4 (ne_of_none h4 ht)))
            rw [upd_same, ds_app, zero_add_nv]; rfl
      · rintro H3 ⟨pr, s3, h3, tr⟩
        rw [Int.toNat_natCast] at tr
        have hl3 := s3 _ _ hl2
        have e1 : ((as.take j).flatMap (more n)).length ≤ as.length * n := by
          rw [flat_len, List.length_take]; exact Nat.mul_le_mul_right n (Nat.min_le_right _ _)
        refine ⟨pl, D, _, _, rfl, rfl, hl3, h3, ?_, ?_⟩
        · rw [rs_len, rs_len, tq.len, tr.len, more_len]
          exact small_le (by rw [size] at e1; omega)
        · refine ⟨_, pq ++ pr, rfl, (s2.trans s3).put1 fl, up_ne (s3 _ _ hp2) npl, (tt2.same s3).upd hl3, ?_, ?_⟩
          · rw [upd_same, rs_app]
          · rw [flat_step haj]
            exact ((tq.same s3).app tr).upd hl3
    · rintro σ H2 ⟨v5, pq, rfl, s2, hp2, tt2, hl2, tq⟩
      rw [rs_len, tt.len, List.take_length] at tq
      refine ⟨_, rfl, _, _, _, pl, pq, rfl, s2, fl, hl2, ?_⟩
      rw [assigns_step, ea]
      exact tq
  · rintro σ H' ⟨v3, v4, v5, pf, ps, rfl, s1, fp, hp, tt⟩
    rw [Int.toNat_natCast] at tt
    exact ⟨_, rfl, k H' pf ps s1 fp hp tt⟩
end
end Trl

set_option Elab.async false
set_option linter.all false
set_option maxRecDepth 100000
set_option maxHeartbeats 4000000
namespace Trl
open PySem PySem.Spec PyProof.Rows L2
open C8 (Cal pe_c pe_gc Met pe_mt pe_mt0)
section
variable {P : Program} {w : World} {K : PySem.W.Frag} {mg : Str → Option Value} {base : Heap}

/-! ### next_lane -/
def bestV : Option Nat → V
  | none => .int (-1)
  | some j => nv j
def spNext (K : PySem.W.Frag) : Sp := fun vs H Q _ => ∃ (a : Addr) (ps : List Addr) (ll : List (List Nat)), vs = [.ref a] ∧ LL H a ps ll ∧
  ∀ H', Same H H' → Q (bestV (Kh433.nextLane ll)) H'
theorem sc_next : FnScope ["lanes", "best", "at", "lane"] ["lanes"] (defScope s_next_lane) := ⟨rfl, rfl, rfl, by decide +kernel, rfl, by decide +kernel, by decide +kernel⟩
theorem at_zero (x : Nat) (r : List Nat) : atI (ds (x :: r)) 0 = some (nv x) := atI_nat (j := 0) rfl
theorem ok_next {f : Addr} {fd : FuncData} (F : FnP K "next_lane" "next_lane" s_next_lane f fd) (T : Txt K mg) : FnOk P w K mg base CX0 1 f fd ["lanes"] (spNext K) := by
  refine okP F sc_next (fun vs H Q E h => ?_) (fun cdv A outer s H vs Q E hr h => ?_)
  · obtain ⟨a, ps, ll, rfl, _⟩ := h
    rfl
  obtain ⟨a, ps, ll, rfl, L, k⟩ := h
  have nd := sc_next.nd
  refine ⟨_, pss_cons (ps_set (i := 1) nd rfl (.inl rfl) (pe_un un_neg pe_int))
    (pss_cons (ps_for PassesOwn.never rfl (pi_enum rfl T.enumerate (pa_cons (pv 0) pa_nil)) (pg_tup rfl (pgs_cons (pg_name (i := 2) nd rfl (.inl rfl)) (pgs_cons (pg_name (i := 3) nd rfl (.inl rfl)) pgs_nil)))
      (pss_one (ps_if (PW.pt (pw_and (pt_cmpR op_gt (pe_callB call_len_seq (by rfl) T.len PySem.boot_len (pa_cons (pv 3) pa_nil)) pe_int (nomark _)) (pw_and1 (PW.pt (pw_or (pt_cmpR op_lt (pv 1) pe_int (nomark _))
          (pw_or1 (pt_cmpR op_lt (pe_ix ix_list (pv 3) pe_int (fun _ _ => rfl)) (pe_ix ix_list (pe_ix ix_list (pv 0) (pv 1) (fun _ _ => rfl)) pe_int (fun _ _ => rfl)) (nomark _))))))))
        (pss_one (ps_set (i := 1) nd rfl (.inl rfl) (pv 2))) pss_nil)))
    (pss_one (ps_ret (pv 1)))), ?_⟩
  refine ⟨_, rfl, _, rfl, a, _, rfl, SqL.of L.top, for_enum (K := K) (a := a) (xs := rs ps) (fun i σ H' => ∃ v2 v3, σ = [some (.ref a), some (bestV (nextOf ll i)), v2, v3] ∧ Same H H')
    ⟨none, none, rfl, Same.refl H⟩ (fun i σ H' ⟨_, _, _, s1⟩ => SqL.of (s1 _ _ L.top)) ?_ ?_⟩
  · rintro i x T0 σ H' hx ⟨v2, v3, rfl, s1⟩ hT
    obtain ⟨p, hp, rfl⟩ := rs_get hx
    obtain ⟨l, hl, hlp⟩ := L.get' hp
    have s2 : Same H (upd H' T0 (.tup [nv i, .ref p])) := s1.new1 hT
    have hlg := lane_at hl
    refine ⟨_, rfl, p, _, rfl, .inl (SqL.of (s2 _ _ hlp)), _, _, rfl, rfl, _, rfl, ?_⟩
    cases l with
    | nil => exact if_f (decide_eq_false (by rw [ds_len]; simp)) ⟨some (nv i), some (.ref p), (by rw [next_empty hlg]; rfl), s2⟩
    | cons x r =>
      refine if_t (decide_eq_true (by rw [ds_len, List.length_cons]; omega)) ?_
      cases c : nextOf ll i with
      | none =>
        refine ⟨_, rfl, _, _, rfl, rfl, _, rfl, ?_⟩
        refine if_t (decide_eq_true (by decide)) ⟨_, rfl, some (nv i), some (.ref p), ?_, s2⟩
        rw [next_first hlg c]; rfl
      | some j =>
        obtain ⟨hj, y, t, hy⟩ := next_full c
        have hjl : j < ll.length := Nat.lt_trans hj (get_lt hl)
        obtain ⟨q, hq, hqm⟩ := L.get (lane_get hjl)
        rw [hy] at hqm
        refine ⟨_, rfl, _, _, rfl, rfl, _, rfl, ?_⟩
        refine if_f (decide_eq_false (by omega)) ?_
        refine ⟨_, rfl, p, _, _, _, rfl, rfl, SqL.of (s2 _ _ hlp), at_zero x r, _, rfl, _, rfl, a, _, _, _, rfl, rfl, SqL.of (s2 _ _ L.top), atI_nat (rs_at hq), q, _, _, _, rfl, rfl, SqL.of (s2 _ _ hqm), at_zero y t, _, _, rfl, rfl, _, rfl, ?_⟩
        have e := next_other hlg c hy
        by_cases d : x < y
        · rw [if_pos d] at e
          refine if_t (decide_eq_true (by omega)) ⟨_, rfl, some (nv i), some (.ref p), ?_, s2⟩
          rw [e]; rfl
        · rw [if_neg d] at e
          refine if_f (decide_eq_false (by omega)) ⟨some (nv i), some (.ref p), ?_, s2⟩
          rw [e]; rfl
  · rintro σ H' ⟨v2, v3, rfl, s1⟩
    rw [rs_len, L.len]
    exact ⟨_, rfl, k H' s1⟩
/-! ### merged -/
def rListOf (K : PySem.W.Frag) : List V → Hp → VK → Prop := fun xs H Q => ∃ p ys, xs = [V.ref p] ∧ (SqL K H p ys ∨ SqT K H p ys) ∧ ∀ l, H l = none → Q (.ref l) (upd H l (.lst ys))
def spMerged (K : PySem.W.Frag) : Sp := fun vs H Q _ => ∃ (a : Addr) (ps : List Addr) (ll : List (List Nat)), vs = [.ref a] ∧ LL H a ps ll ∧ total ll ≤ 1000 ∧ ll.length ≤ 1000 ∧
  ∀ H' p, Same H H' → H p = none → H' p = some (.lst (ds (Kh433.mergeOrder (total ll) ll))) → Q (.ref p) H'
theorem sc_merged : FnScope ["lanes", "left", "found", "at", "lane"] ["lanes"] (defScope s_merged) := ⟨rfl, rfl, rfl, by decide +kernel, rfl, by decide +kernel, by decide +kernel⟩
theorem ok_merged {f : Addr} {fd : FuncData} (F : FnP K "merged" "merged" s_merged f fd) (T : Txt K mg) (cN : Cal P w K mg base 1 "next_lane" (spNext K) []) : FnOk P w K mg base CX0 2 f fd ["lanes"] (spMerged K) := by
  refine okP F sc_merged (fun vs H Q E h => ?_) (fun cdv A outer s H vs Q E hr h => ?_)
  · obtain ⟨a, ps, ll, rfl, _⟩ := h
    rfl
  obtain ⟨a, ps, ll, rfl, L, ht, hll, k⟩ := h
  have nd := sc_merged.nd
  refine ⟨_, pss_cons (ps_setLc (i := 1) (own := [("lane", 4)]) (g := gName 4) (tt := tYes) (te := tCB (rListOf K) (tCons (tVar 4) tNil)) rfl nd rfl rfl (sw_true rfl rfl rfl (by decide +kernel)) (pi_list (pv 0))
      (blkOk_by (own := [("lane", 4)]) (N := ["lanes", "left", "found", "at", "lane"]) (sc := defScope s_merged) (by decide +kernel))
      (fun _ _ _ _ _ => pg_name (i := 4) nd rfl (.inl rfl)) (fun _ _ _ _ _ => pts_nil)
      (fun _ _ _ _ _ => pe_callTy (T := "list") call_list_of (by rfl) T.list (by decide +kernel) (pa_cons (pv 4) pa_nil)))
    (pss_cons (ps_set (i := 2) nd rfl (.inl rfl) (pe_lst pa_nil))
    (pss_cons (ps_set (i := 3) nd rfl (.inl rfl) (pe_c cN hr (by decide) rfl (pa_cons (pv 1) pa_nil)))
    (pss_cons (ps_while PassesOwn.never (pt_cmpR op_ge (pv 3) pe_int (nomark _))
      (pss_cons (ps_expr (pe_bm PySem.F.plainAttrs_list PySem.F.slot_list_append PySem.F.type_list_append mt_append (pv 2) (pa_cons
          (pe_bm PySem.F.plainAttrs_list PySem.F.slot_list_pop PySem.F.type_list_pop mt_popAt (pe_ix ix_list (pv 1) (pv 3) (fun _ _ => rfl)) (pa_cons pe_int pa_nil)) pa_nil)))
      (pss_one (ps_set (i := 3) nd rfl (.inl rfl) (pe_c cN hr (by decide) rfl (pa_cons (pv 1) pa_nil))))))
    (pss_one (ps_ret (pv 2)))))), ?_⟩
  refine ⟨_, rfl, a, rfl, ⟨_, SqL.of L.top⟩, fun D hD => lc_list (K := K) (a := a) (xs := rs ps) (fun i H' => ∃ pq, Same H H' ∧ (∀ q ∈ pq, H q = none) ∧ LL H' D pq (ll.take i))
    ⟨[], same_new hD, by simp, ⟨upd_same, by simp, fun i p l h => by simp at h, List.nodup_nil, by simp⟩⟩ (fun i H' _ ⟨_, s1, _⟩ => SqL.of (s1 _ _ L.top)) ?_ ?_⟩
  · rintro i x H' hx ⟨pq, s1, fr, M⟩
    obtain ⟨p, hp, rfl⟩ := rs_get hx
    obtain ⟨l, hl, hlp⟩ := L.get' hp
    refine ⟨rfl, _, rfl, p, _, rfl, .inl (SqL.of (s1 _ _ hlp)), fun q hq => ⟨_, up_ne M.top (ne_of_none M.top hq), ?_, pq ++ [q], (s1.new1 hq).put1 hD, fun r hr => ?_, ?_⟩⟩
    · rw [rs_len, M.len, List.length_take]
      exact small_lt (by omega)
    · rcases List.mem_append.mp hr with z | z
      · exact fr r z
      · rw [List.mem_singleton.mp z]; exact s1.free hq
    · rw [take_more hl]
      exact M.pushL hq l rfl
  · rintro H1 ⟨pq, s1, fr, M⟩
    rw [rs_len, L.len, List.take_length] at M
    refine ⟨Nat.zero_le _, fun pf hf => ?_⟩
    have ff := s1.free hf
    have nD : D ≠ pf := ne_of_none M.top hf
    have s2 : Same H (upd H1 pf (.lst [])) := s1.new1 hf
    have M2 := M.same (same_new (o := .lst []) hf)
    have fpq : pf ∉ pq := fun m => by
      obtain ⟨o, e⟩ := M.there pf m
      rw [hf] at e; cases e
    refine ⟨_, rfl, D, pq, ll, rfl, M2, fun H3 s3 => ?_⟩
    -- the loop
    refine ⟨fun m σ H' => ∃ left found, σ = [some (.ref a), some (.ref D), some (.ref pf), some (bestV (Kh433.nextLane left)), none] ∧ Same H H' ∧ LL H' D pq left ∧ H' pf = some (.lst (ds found)) ∧ m = total left ∧ found ++ Kh433.mergeOrder (total left) left = Kh433.mergeOrder (total ll) ll,
      ⟨_, ll, [], rfl, s2.trans s3, M2.same s3, s3 _ _ upd_same, rfl, rfl⟩, ?_⟩
    rintro m σ H' ⟨left, found, rfl, s4, M4, h4, rfl, eq⟩
    have fl : found.length ≤ 1000 := by
      have e := congrArg List.length eq
      rw [List.length_append] at e
      have := merge_len (total ll) ll
      omega
    cases c : Kh433.nextLane left with
    | none =>
      refine ⟨_, rfl, _, _, rfl, rfl, _, rfl, ?_⟩
      refine if_f (decide_eq_false (by decide)) ⟨_, rfl, ?_⟩
      rw [merge_none _ c, List.append_nil] at eq
      exact k H' pf s4 ff (by rw [← eq]; exact h4)
    | some j =>
      obtain ⟨hj, x, r, hx⟩ := lane_full c
      obtain ⟨q, hq, hqm⟩ := M4.get (lane_get hj)
      rw [hx] at hqm
      have qm := List.mem_of_getElem? hq
      have nq : pf ≠ q := fun e => fpq (by rw [e]; exact qm)
      have tot := total_getD hx
      refine ⟨_, rfl, _, _, rfl, rfl, _, rfl, ?_⟩
      refine if_t (decide_eq_true (Int.natCast_nonneg _)) ⟨fun σ' H2 => ∃ left2 found2, σ' = [some (.ref a), some (.ref D), some (.ref pf), some (bestV (Kh433.nextLane left2)), none] ∧ Same H H2 ∧ LL H2 D pq left2 ∧ H2 pf = some (.lst (ds found2)) ∧ total left2 + 1 = total left ∧ found2 ++ Kh433.mergeOrder (total left2) left2 = Kh433.mergeOrder (total ll) ll, ?_, ?_⟩
      · rintro σ' H2 ⟨left2, found2, b1, b2, b3, b4, b5, b6⟩
        exact ⟨total left2, by omega, left2, found2, b1, b2, b3, b4, rfl, b6⟩
      · refine ⟨_, rfl, .inl ⟨rfl, _, SqL.of h4⟩, _, rfl, _, rfl, D, _, _, _, rfl, rfl, SqL.of M4.top, atI_nat (rs_at hq), .inl ⟨rfl, _, SqL.of hqm⟩, q, _, _, 0, nv x, rfl, rfl, hqm, by decide, by decide, seqIndex_of (by decide) (by rw [ds_len, List.length_cons]; omega), rfl, ?_⟩
        have M5 := M4.put hq r
        have h5 := up_ne (o := .lst (ds r)) h4 nq
        refine ⟨pf, _, _, rfl, rfl, h5, small_lt (by rw [ds_len]; omega), ?_⟩
        have M6 : LL (upd (upd H' q (.lst (ds r))) pf (.lst (ds found ++ [nv x]))) D pq (left.set j r) := M5.keep (F := [pf]) ((Keep.of_same (Same.refl _)).put (by simp)) (by simpa using nD) (fun p hp e => fpq (by rw [← List.mem_singleton.mp e]; exact hp))
        refine ⟨_, rfl, D, pq, _, rfl, M6, fun H7 s7 => ⟨left.set j r, found ++ [x], rfl, ?_, M6.same s7, ?_, tot, ?_⟩⟩
        · exact ((s4.put1 (fr q qm)).put1 ff).trans s7
        · refine s7 _ _ ?_
          rw [upd_same, ds_app]; rfl
        · rw [← eq, merge_some c hx, List.append_assoc]; rfl
end
end Trl

set_option Elab.async false
set_option linter.all false
set_option maxRecDepth 100000
set_option maxHeartbeats 4000000
namespace Trl
open PySem PySem.Spec PyProof.Rows L2
open C8 (Cal pe_c pe_gc Met pe_mt pe_mt0)
section
variable {P : Program} {w : World} {K : PySem.W.Frag} {mg : Str → Option Value} {base : Heap}

/-! ### counted, told_lanes -/
def spCounted (K : PySem.W.Frag) : Sp := fun vs H Q _ => ∃ (a : Addr) (l : List Nat), vs = [.ref a] ∧ SqL K H a (ds l) ∧ l.length ≤ 1000000 ∧
  ∀ H' p, Same H H' → H p = none → H' p = some (.lst (ds (l.length :: l))) → Q (.ref p) H'
theorem sc_counted : FnScope ["docks"] ["docks"] (defScope s_counted) := ⟨rfl, rfl, rfl, by decide +kernel, rfl, by decide +kernel, by decide +kernel⟩
theorem ok_counted {f : Addr} {fd : FuncData} (F : FnP K "counted" "counted" s_counted f fd) (T : Txt K mg) : FnOk P w K mg base CX0 1 f fd ["docks"] (spCounted K) := by
  refine okP F sc_counted (fun vs H Q E h => ?_) (fun cdv A outer s H vs Q E hr h => ?_)
  · obtain ⟨a, l, rfl, _⟩ := h
    rfl
  obtain ⟨a, l, rfl, hS, hl, k⟩ := h
  refine ⟨_, pss_one (ps_ret (pe_op op_cat (pe_lst (pa_cons (pe_callB call_len_seq (by rfl) T.len PySem.boot_len (pa_cons (pv 0) pa_nil)) pa_nil)) (pe_callTy (T := "list") call_list_of (by rfl) T.list (by decide +kernel) (pa_cons (pv 0) pa_nil)))), ?_⟩
  refine ⟨_, rfl, a, _, rfl, .inl hS, (by show 1 ≤ sizeLine; decide), fun p1 h1 => ?_⟩
  have s1 : Same H (upd H p1 (.lst [V.int ((ds l).length : Nat)])) := same_new h1
  refine ⟨_, rfl, a, _, rfl, .inl (s1.seq hS), fun p2 h2 => ?_⟩
  have n12 : p1 ≠ p2 := ne_of_none upd_same h2
  refine ⟨p1, p2, _, _, rfl, rfl, up_ne upd_same n12, upd_same, (by rw [ds_len]; exact small_le (by simp; omega)), fun p hp => ?_⟩
  refine k _ p ((s1.new1 h2).new1 hp) ((s1.new1 h2).free hp) ?_
  rw [upd_same, ds_len]; rfl
def tell (ll : List (List Nat)) : List Nat := ll.flatMap fun lane => lane.length :: lane
theorem tell_len : ∀ ll : List (List Nat), (tell ll).length = total ll + ll.length
  | [] => rfl
  | a :: r => by
    have ih := tell_len r
    unfold tell at ih ⊢
    rw [List.flatMap_cons, List.length_append, ih]
    simp [total]; omega
theorem tell_step {ll : List (List Nat)} {i : Nat} {x : List Nat} (h : ll[i]? = some x) : tell (ll.take (i + 1)) = tell (ll.take i) ++ (x.length :: x) := by
  unfold tell
  rw [take_more h, List.flatMap_append]; simp
theorem total_take : ∀ (ll : List (List Nat)) (i : Nat), total (ll.take i) ≤ total ll
  | [], i => by simp
  | a :: r, 0 => by simp [total]
  | a :: r, i + 1 => by
    have ih := total_take r i
    simp [total] at ih ⊢; omega
def spTold (K : PySem.W.Frag) : Sp := fun vs H Q _ => ∃ (a : Addr) (ps : List Addr) (ll : List (List Nat)), vs = [.ref a] ∧ LL H a ps ll ∧ total ll ≤ 1000 ∧ ll.length ≤ 1000 ∧
  ∀ H' p, Same H H' → H p = none → H' p = some (.lst (ds (ll.length :: tell ll))) → Q (.ref p) H'
theorem sc_told : FnScope ["lanes", "found", "lane"] ["lanes"] (defScope s_told_lanes) := ⟨rfl, rfl, rfl, by decide +kernel, rfl, by decide +kernel, by decide +kernel⟩
theorem ok_told {f : Addr} {fd : FuncData} (F : FnP K "told_lanes" "told_lanes" s_told_lanes f fd) (T : Txt K mg) (cC : Cal P w K mg base 1 "counted" (spCounted K) []) : FnOk P w K mg base CX0 2 f fd ["lanes"] (spTold K) := by
  refine okP F sc_told (fun vs H Q E h => ?_) (fun cdv A outer s H vs Q E hr h => ?_)
  · obtain ⟨a, ps, ll, rfl, _⟩ := h
    rfl
  obtain ⟨a, ps, ll, rfl, L, ht, hll, k⟩ := h
  have nd := sc_told.nd
  refine ⟨_, pss_cons (ps_set (i := 1) nd rfl (.inl rfl) (pe_lst (pa_cons (pe_callB call_len_seq (by rfl) T.len PySem.boot_len (pa_cons (pv 0) pa_nil)) pa_nil)))
    (pss_cons (ps_for PassesOwn.never rfl (pi_list (pv 0)) (pg_name (i := 2) nd rfl (.inl rfl))
      (pss_one (ps_expr (pe_bm PySem.F.plainAttrs_list PySem.F.slot_list_extend PySem.F.type_list_extend mt_extend (pv 1) (pa_cons (pe_c cC hr (by decide) rfl (pa_cons (pv 2) pa_nil)) pa_nil)))))
    (pss_one (ps_ret (pv 1)))), ?_⟩
  refine ⟨_, rfl, a, _, rfl, .inl (SqL.of L.top), (by show 1 ≤ sizeLine; decide), fun pf hf => ?_⟩
  have s0 : Same H (upd H pf (.lst [V.int ((rs ps).length : Nat)])) := same_new hf
  refine ⟨_, rfl, a, rfl, ⟨_, SqL.of (s0 _ _ L.top)⟩, for_list (K := K) (a := a) (xs := rs ps) (fun i σ H' => ∃ v2, σ = [some (.ref a), some (.ref pf), v2] ∧ Same H H' ∧ H' pf = some (.lst (ds (ll.length :: tell (ll.take i)))))
    ⟨none, rfl, s0, by rw [upd_same, rs_len, L.len]; rfl⟩ (fun i σ H' _ ⟨_, _, s1, _⟩ => SqL.of (s1 _ _ L.top)) ?_ ?_⟩
  · rintro i x σ H' hx ⟨v2, rfl, s1, h1⟩
    obtain ⟨p, hp, rfl⟩ := rs_get hx
    obtain ⟨l, hl, hlp⟩ := L.get' hp
    have hlt := mem_total (List.mem_of_getElem? hl)
    have tl := tell_len (ll.take i)
    have tt := total_take ll i
    rw [List.length_take] at tl
    refine ⟨_, rfl, .inl ⟨rfl, _, SqL.of h1⟩, _, rfl, p, l, rfl, SqL.of (s1 _ _ hlp), by omega, fun H2 q s2 fq hq => ?_⟩
    refine ⟨pf, q, _, _, rfl, rfl, s2 _ _ h1, hq, ?_, _, rfl, (s1.trans s2).put1 hf, ?_⟩
    · rw [ds_len, ds_len, List.length_cons, List.length_cons]
      exact small_le (by omega)
    · rw [upd_same, tell_step hl, ← ds_app]; rfl
  · rintro σ H' ⟨v2, rfl, s1, h1⟩
    rw [rs_len, L.len, List.take_length] at h1
    exact ⟨_, rfl, k H' pf s1 hf h1⟩
/-! ### the yard -/
theorem lk_here {k : Str} {v : V} {r : List (Str × V)} : List.lookup k ((k, v) :: r) = some v := by
  have e : (k == k) = true := beq_self_eq_true k
  simp only [List.lookup, e]
theorem lk_past {k g : Str} {v : V} {r : List (Str × V)} (h : (k == g) = false) : List.lookup k ((g, v) :: r) = List.lookup k r := by
  simp only [List.lookup, h]
theorem put_here {f : Str} {v x : V} {r : List (Str × V)} : putF f v ((f, x) :: r) = (f, v) :: r := if_pos rfl
theorem put_past {f g : Str} {v x : V} {r : List (Str × V)} (h : ¬ g = f) : putF f v ((g, x) :: r) = (g, x) :: putF f v r := if_neg h
def yF (pi pl pd : Addr) : List (Str × V) := [("incoming", .ref pi), ("lanes", .ref pl), ("departed", .ref pd)]
def hF (v : V) : List (Str × V) := [("yard", v)]
section
variable {pi pl pd q : Addr} {v u : V}
theorem yF_i : (yF pi pl pd).lookup ("incoming" : Str) = some (.ref pi) := lk_here
theorem yF_l : (yF pi pl pd).lookup ("lanes" : Str) = some (.ref pl) := (lk_past (by decide +kernel)).trans lk_here
theorem yF_d : (yF pi pl pd).lookup ("departed" : Str) = some (.ref pd) := (lk_past (by decide +kernel)).trans ((lk_past (by decide +kernel)).trans lk_here)
theorem yF_go : (yF pi pl pd).lookup ("let_go" : Str) = none := (lk_past (by decide +kernel)).trans ((lk_past (by decide +kernel)).trans ((lk_past (by decide +kernel)).trans rfl))
theorem yF_in : (yF pi pl pd).lookup ("in_lanes" : Str) = none := (lk_past (by decide +kernel)).trans ((lk_past (by decide +kernel)).trans ((lk_past (by decide +kernel)).trans rfl))
theorem hF_y : (hF v).lookup ("yard" : Str) = some v := lk_here
theorem hF_put : putF "yard" u (hF v) = hF u := put_here
theorem yF_put : putF "incoming" (.ref q) (yF pi pl pd) = yF q pl pd := put_here
theorem yF_1 : putF "incoming" (.ref pi) [] = [(("incoming" : Str), V.ref pi)] := rfl
theorem yF_2 : putF "lanes" (.ref pl) [(("incoming" : Str), V.ref pi)] = [(("incoming" : Str), V.ref pi), ("lanes", .ref pl)] := (put_past (by decide +kernel)).trans rfl
theorem yF_3 : putF "departed" (.ref pd) [(("incoming" : Str), V.ref pi), ("lanes", .ref pl)] = yF pi pl pd := (put_past (by decide +kernel)).trans (congrArg _ ((put_past (by decide +kernel)).trans rfl))
theorem lk2_l : List.lookup ("lanes" : Str) [(("incoming" : Str), V.ref pi), ("lanes", .ref pl)] = some (.ref pl) := (lk_past (by decide +kernel)).trans lk_here
end
structure TxtY (K : PySem.W.Frag) (C CH : Addr) : Prop where
  cl : Cls K C
  nI : NoAttr K C "incoming"
  nL : NoAttr K C "lanes"
  nD : NoAttr K C "departed"
  clH : Cls K CH
  nY : NoAttr K CH "yard"
/-- a yard at y -/
structure Yd (C : Addr) (H : Hp) (y : Addr) (fp : List Addr) (m : Kh433.Yard) : Prop where
  ex : ∃ dx pi pl pd ps, fp = pi :: pl :: pd :: ps ∧ H y = some (.ins C dx (yF pi pl pd)) ∧ H pi = some (.lst (ds m.incoming)) ∧ LL H pl ps m.lanes ∧ H pd = some (.lst (ds m.departed)) ∧ (pi :: pl :: pd :: ps).Nodup
theorem Yd.keep {C : Addr} {H H' : Hp} {y : Addr} {fp : List Addr} {m : Kh433.Yard} (Y : Yd C H y fp m) {F : List Addr} (k : Keep F H H') (hy : y ∉ F) (hf : ∀ q ∈ fp, q ∉ F) : Yd C H' y fp m := by
  obtain ⟨dx, pi, pl, pd, ps, rfl, h1, h2, L, h4, nd⟩ := Y.ex
  exact ⟨dx, pi, pl, pd, ps, rfl, k _ _ h1 hy, k _ _ h2 (hf _ (by simp)), L.keep k (hf _ (by simp)) (fun p hp => hf p (by simp [hp])), k _ _ h4 (hf _ (by simp)), nd⟩
theorem Yd.same {C : Addr} {H H' : Hp} {y : Addr} {fp : List Addr} {m : Kh433.Yard} (Y : Yd C H y fp m) (s : Same H H') : Yd C H' y fp m := Y.keep (F := []) (Keep.of_same s) (by simp) (by simp)
/-! ### Yard.__init__ -/
def spYInit (C : Addr) : Sp := fun vs H Q _ => ∃ (y dx : Addr) (n : Nat), vs = [.ref y, nv n] ∧ H y = some (.ins C dx []) ∧ n ≤ 1000 ∧
  ∀ H' fp, Yd C H' y fp ⟨[], List.replicate n [], []⟩ → (∀ q ∈ fp, H q = none) → Keep [y] H H' → Q .non H'
theorem sc_yinit : FnScope ["self", "lanes", "lane"] ["self", "lanes"] (defScope s_Yard_init) := ⟨rfl, rfl, rfl, by decide +kernel, rfl, by decide +kernel, by decide +kernel⟩
theorem ok_yinit {f C CH : Addr} {fd : FuncData} (F : FnP K "__init__" "Yard.__init__" s_Yard_init f fd) (T : Txt K mg) (Y : TxtY K C CH) : FnOk P w K mg base CX0 1 f fd ["self", "lanes"] (spYInit C) := by
  refine okP F sc_yinit (fun vs H Q E h => ?_) (fun cdv A outer s H vs Q E hr h => ?_)
  · obtain ⟨y, dx, n, rfl, _⟩ := h
    rfl
  obtain ⟨y, dx, n, rfl, hy, hn, k⟩ := h
  have nd := sc_yinit.nd
  refine ⟨_, pss_cons (ps_fld (pv 0) (pe_lst pa_nil) rfl) (pss_cons (ps_fld (pv 0) (pe_lst pa_nil) rfl)
    (pss_cons (ps_for PassesOwn.never rfl (pi_range1 rfl T.range (pa_cons (pv 1) pa_nil)) (pg_name (i := 2) nd rfl (.inl rfl))
      (pss_one (ps_expr (pe_bm PySem.F.plainAttrs_list PySem.F.slot_list_append PySem.F.type_list_append mt_append (pe_fld (pv 0) rfl) (pa_cons (pe_lst pa_nil) pa_nil)))))
    (pss_one (ps_fld (pv 0) (pe_lst pa_nil) rfl)))), ?_⟩
  refine ⟨Nat.zero_le _, fun pi hi => ?_⟩
  have yi : y ≠ pi := ne_of_none hy hi
  refine ⟨_, rfl, y, C, dx, [], rfl, up_ne hy yi, Y.cl, Y.nI, (by show 0 < 1000; decide), ?_⟩
  rw [yF_1]
  refine ⟨Nat.zero_le _, fun pl hl => ?_⟩
  have yl : y ≠ pl := ne_of_none upd_same hl
  have il : pi ≠ pl := ne_of_none (up_ne upd_same yi.symm) hl
  refine ⟨_, rfl, y, C, dx, _, rfl, up_ne upd_same yl, Y.cl, Y.nL, (by show 1 < 1000; decide), ?_⟩
  rw [yF_2]
  have hi' : H pi = none := hi
  have hl' : H pl = none := by
    rw [upd_ne yl.symm, upd_ne il.symm] at hl; exact hl
  generalize hg : upd (upd (upd (upd H pi (.lst [])) y (.ins C dx [(("incoming" : Str), V.ref pi)])) pl (.lst [])) y (.ins C dx [(("incoming" : Str), V.ref pi), ("lanes", .ref pl)]) = G
  have gy : G y = some (.ins C dx [(("incoming" : Str), V.ref pi), ("lanes", .ref pl)]) := by rw [← hg, upd_same]
  have gi : G pi = some (.lst (ds [])) := by rw [← hg, upd_ne yi.symm, upd_ne il, upd_ne yi.symm, upd_same]; rfl
  have gl : G pl = some (.lst (rs [])) := by rw [← hg, upd_ne yl.symm, upd_same]; rfl
  have kG : Keep [y] H G := fun b o e n => by
    have by_ : b ≠ y := by simpa using n
    rw [← hg, upd_ne by_, upd_ne (ne_of_none e hl'), upd_ne by_, upd_ne (ne_of_none e hi')]; exact e
  refine ⟨_, rfl, (n : Int), rfl, by omega, by omega, for_range (lo := 0) (n := ((n : Nat) : Int).toNat) (fun i σ H' => ∃ v2 ps, σ = [some (.ref y), some (nv n), v2] ∧ H' y = some (.ins C dx [(("incoming" : Str), V.ref pi), ("lanes", .ref pl)]) ∧ H' pi = some (.lst (ds [])) ∧ LL H' pl ps (List.replicate i []) ∧ (∀ q ∈ ps, H q = none) ∧ pi ∉ ps ∧ Keep [y] H H')
    ⟨none, [], rfl, gy, gi, ⟨gl, rfl, fun i p l h => by simp at h, List.nodup_nil, by simp⟩, by simp, by simp, kG⟩ ?_ ?_⟩
  · rintro i σ H' hin ⟨v2, ps, rfl, hy2, hi2, L, fr, nin, k2⟩
    refine ⟨_, rfl, y, C, dx, _, _, rfl, hy2, Y.cl, Y.nL, lk2_l, .inl ⟨rfl, _, SqL.of L.top⟩, Nat.zero_le _, fun q hq => ?_⟩
    have ql : pl ≠ q := ne_of_none L.top hq
    refine ⟨pl, _, _, rfl, rfl, up_ne L.top ql, small_lt (by rw [rs_len, L.len, List.length_replicate]; omega), ?_⟩
    have hqH : H q = none := by
      cases z : H q with
      | none => rfl
      | some o =>
        by_cases c : q = y
        · rw [c, hy2] at hq; cases hq
        · rw [k2 q o z (by simpa using c)] at hq; cases hq
    have ny : y ≠ pl := yl
    refine ⟨_, ps ++ [q], rfl, up_ne (up_ne hy2 (ne_of_none hy2 hq)) ny, up_ne (up_ne hi2 (ne_of_none hi2 hq)) il, ?_, fun r hr => ?_, fun m => ?_, ?_⟩
    · rw [List.replicate_succ']
      exact L.push hq rfl
    · rcases List.mem_append.mp hr with z | z
      · exact fr r z
      · rw [List.mem_singleton.mp z]; exact hqH
    · rcases List.mem_append.mp m with z | z
      · exact nin z
      · exact ne_of_none hi2 hq (List.mem_singleton.mp z)
    · intro b o e nb
      rw [upd_ne (ne_of_none e hl'), upd_ne (ne_of_none e hqH)]
      exact k2 b o e nb
  · rintro σ H' ⟨v2, ps, rfl, hy2, hi2, L, fr, nin, k2⟩
    rw [Int.toNat_natCast] at L
    refine ⟨Nat.zero_le _, fun pd hd => ?_⟩
    have yd : y ≠ pd := ne_of_none hy2 hd
    refine ⟨_, rfl, y, C, dx, _, rfl, up_ne hy2 yd, Y.cl, Y.nD, (by show 2 < 1000; decide), ?_⟩
    rw [yF_3]
    have hdH : H pd = none := by
      cases z : H pd with
      | none => rfl
      | some o =>
        rw [k2 pd o z (by simpa using yd.symm)] at hd; cases hd
    have L2 : LL (upd (upd H' pd (.lst [])) y (.ins C dx (yF pi pl pd))) pl ps (List.replicate n []) := L.keep (F := [pd, y]) (((Keep.of_same (Same.refl _)).put (by simp)).put (by simp)) (by
        simp only [List.mem_cons, List.not_mem_nil, or_false, not_or]
        exact ⟨ne_of_none L.top hd, yl.symm⟩) (fun p hp => by
        obtain ⟨o, e⟩ := L.there p hp
        simp only [List.mem_cons, List.not_mem_nil, or_false, not_or]
        refine ⟨ne_of_none e hd, fun z => ?_⟩
        rw [z] at hp
        rw [fr y hp] at hy; cases hy)
    have yi' := yi
    refine k _ (pi :: pl :: pd :: ps) ⟨dx, pi, pl, pd, ps, rfl, upd_same, ?_, L2, ?_, ?_⟩ ?_ ?_
    · exact up_ne (up_ne hi2 (ne_of_none hi2 hd)) yi.symm
    · rw [upd_ne yd.symm, upd_same]; rfl
    · have pdn : pd ∉ ps := fun m => by
        obtain ⟨o, e⟩ := L.there pd m
        rw [hd] at e; cases e
      refine List.nodup_cons.mpr ⟨?_, List.nodup_cons.mpr ⟨?_, List.nodup_cons.mpr ⟨pdn, L.nd⟩⟩⟩
      · simp only [List.mem_cons, not_or]
        exact ⟨il, ne_of_none hi2 hd, nin⟩
      · simp only [List.mem_cons, not_or]
        exact ⟨ne_of_none L.top hd, L.out⟩
    · intro q hq
      simp only [List.mem_cons] at hq
      rcases hq with rfl | rfl | rfl | hq
      · exact hi'
      · exact hl'
      · exact hdH
      · exact fr q hq
    · intro b o e nb
      have by_ : b ≠ y := by simpa using nb
      rw [upd_ne by_, upd_ne (ne_of_none e hdH)]
      exact k2 b o e nb
end
end Trl

set_option Elab.async false
set_option linter.all false
set_option maxRecDepth 100000
set_option maxHeartbeats 4000000
namespace Trl
open PySem PySem.Spec PyProof.Rows L2
open C8 (Cal pe_c pe_gc Met pe_mt pe_mt0)
section
variable {P : Program} {w : World} {K : PySem.W.Frag} {mg : Str → Option Value} {base : Heap}

/-! ### let_go, in_lanes, Holder.__init__ -/
theorem nd3 {pi pl pd : Addr} {ps : List Addr} (nd : (pi :: pl :: pd :: ps).Nodup) : pi ≠ pl ∧ pi ≠ pd ∧ pi ∉ ps ∧ pl ≠ pd ∧ pl ∉ ps ∧ pd ∉ ps ∧ ps.Nodup := by
  simp only [List.nodup_cons, List.mem_cons, not_or] at nd
  exact ⟨nd.1.1, nd.1.2.1, nd.1.2.2, nd.2.1.1, nd.2.1.2, nd.2.2.1, nd.2.2.2⟩
def spLetGo (C : Addr) : Sp := fun vs H Q _ => ∃ (y : Addr) (fp : List Addr) (m : Kh433.Yard) (j x : Nat) (r : List Nat), vs = [.ref y, nv j] ∧ Yd C H y fp m ∧ m.lanes.getD j [] = x :: r ∧ m.departed.length ≤ 1000 ∧
  ∀ H', Yd C H' y fp ⟨m.incoming, m.lanes.set j r, m.departed ++ [x]⟩ → Keep fp H H' → Q (nv x) H'
theorem sc_letgo : FnScope ["self", "lane", "dock"] ["self", "lane"] (defScope s_Yard_let_go) := ⟨rfl, rfl, rfl, by decide +kernel, rfl, by decide +kernel, by decide +kernel⟩
theorem getD_lt {ll : List (List Nat)} {j x : Nat} {r : List Nat} (h : ll.getD j [] = x :: r) : j < ll.length := by
  by_cases c : j < ll.length
  · exact c
  · rw [List.getD_eq_getElem?_getD, List.getElem?_eq_none (by omega)] at h; cases h
theorem ok_letgo {f C CH : Addr} {fd : FuncData} (F : FnP K "let_go" "Yard.let_go" s_Yard_let_go f fd) (T : Txt K mg) (Y : TxtY K C CH) : FnOk P w K mg base CX0 1 f fd ["self", "lane"] (spLetGo C) := by
  refine okP F sc_letgo (fun vs H Q E h => ?_) (fun cdv A outer s H vs Q E hr h => ?_)
  · obtain ⟨y, fp, m, j, x, r, rfl, _⟩ := h
    rfl
  obtain ⟨y, fp, m, j, x, r, rfl, hY, hx, hd, k⟩ := h
  have nd := sc_letgo.nd
  refine ⟨_, pss_cons (ps_set (i := 2) nd rfl (.inl rfl) (pe_bm PySem.F.plainAttrs_list PySem.F.slot_list_pop PySem.F.type_list_pop mt_popAt (pe_ix ix_list (pe_fld (pv 0) rfl) (pv 1) (fun _ _ => rfl)) (pa_cons (pe_int) pa_nil)))
    (pss_cons (ps_expr (pe_bm PySem.F.plainAttrs_list PySem.F.slot_list_append PySem.F.type_list_append mt_append (pe_fld (pv 0) rfl) (pa_cons (pv 2) pa_nil))) (pss_one (ps_ret (pv 2)))), ?_⟩
  obtain ⟨dx, pi, pl, pd, ps, rfl, hy, hi, L, hdp, nn⟩ := hY.ex
  obtain ⟨n1, n2, n3, n4, n5, n6, n7⟩ := nd3 nn
  obtain ⟨q, hq, hqm⟩ := L.get (lane_get (getD_lt hx))
  rw [hx] at hqm
  have qm := List.mem_of_getElem? hq
  have yq : y ≠ q := ne_of hy hqm (by intro z; cases z)
  have yd : y ≠ pd := ne_of hy hdp (by intro z; cases z)
  refine ⟨_, rfl, y, C, dx, _, _, rfl, hy, Y.cl, Y.nL, yF_l, _, rfl, pl, _, _, _, rfl, rfl, SqL.of L.top, atI_nat (rs_at hq), .inl ⟨rfl, _, SqL.of hqm⟩, q, _, _, 0, nv x, rfl, rfl, hqm, by decide, by decide, seqIndex_of (by decide) (by rw [ds_len, List.length_cons]; omega), rfl, ?_⟩
  have hy2 : upd H q (.lst (ds r)) y = some (.ins C dx (yF pi pl pd)) := up_ne hy yq
  have pdq : pd ≠ q := fun e => n6 (by rw [e]; exact qm)
  have hd2 : upd H q (.lst (ds r)) pd = some (.lst (ds m.departed)) := up_ne hdp pdq
  refine ⟨_, rfl, y, C, dx, _, _, rfl, hy2, Y.cl, Y.nD, yF_d, .inl ⟨rfl, _, SqL.of hd2⟩, _, rfl, pd, _, _, rfl, rfl, hd2, small_lt (by rw [ds_len]; omega), _, rfl, ?_⟩
  have kp : Keep (pi :: pl :: pd :: ps) H (upd (upd H q (.lst (ds r))) pd (.lst (ds m.departed ++ [nv x]))) := ((Keep.of_same (Same.refl _)).put (by simp [qm])).put (by simp)
  refine k _ ⟨dx, pi, pl, pd, ps, rfl, up_ne hy2 yd, ?_, ?_, ?_, nn⟩ kp
  · exact up_ne (up_ne hi (fun e => n3 (by rw [e]; exact qm))) n2
  · exact (L.put hq r).keep (F := [pd]) ((Keep.of_same (Same.refl _)).put (by simp)) (by simpa using n4) (fun p hp e => n6 (by rw [← List.mem_singleton.mp e]; exact hp))
  · rw [upd_same, ds_app]; rfl
def spIn (C : Addr) : Sp := fun vs H Q _ => ∃ (y : Addr) (fp : List Addr) (m : Kh433.Yard), vs = [.ref y] ∧ Yd C H y fp m ∧ m.lanes.length ≤ 1000 ∧
  ∀ H', Same H H' → Q (nv (total m.lanes)) H'
def rLenS (K : PySem.W.Frag) : List V → Hp → VK → Prop := fun xs H Q => ∃ p ys, xs = [V.ref p] ∧ (SqL K H p ys ∨ SqT K H p ys) ∧ Q (.int (ys.length : Nat)) H
theorem sc_in : FnScope ["self", "lane"] ["self"] (defScope s_Yard_in_lanes) := ⟨rfl, rfl, rfl, by decide +kernel, rfl, by decide +kernel, by decide +kernel⟩
theorem sum_is : ∀ l : List Nat, (l.map fun n : Nat => (n : Int)).sum = ((l.sum : Nat) : Int)
  | [] => rfl
  | a :: r => by
    rw [List.map_cons, List.sum_cons, List.sum_cons, sum_is r]; omega
theorem ok_in {f C CH : Addr} {fd : FuncData} (F : FnP K "in_lanes" "Yard.in_lanes" s_Yard_in_lanes f fd) (T : Txt K mg) (Y : TxtY K C CH) : FnOk P w K mg base CX0 1 f fd ["self"] (spIn C) := by
  refine okP F sc_in (fun vs H Q E h => ?_) (fun cdv A outer s H vs Q E hr h => ?_)
  · obtain ⟨y, fp, m, rfl, _⟩ := h
    rfl
  obtain ⟨y, fp, m, rfl, hY, hl, k⟩ := h
  have nd := sc_in.nd
  refine ⟨_, pss_one (ps_ret (pe_callB (cr_sum rfl) (by rfl) T.sum (by decide +kernel) (pa_cons (pe_lc (own := [("lane", 1)]) (g := gName 1) (tt := tYes) (te := tCB (rLenS K) (tCons (tVar 1) tNil)) rfl nd
      (pi_list (pe_fld (pv 0) rfl))
      (blkOk_by (own := [("lane", 1)]) (N := ["self", "lane"]) (sc := defScope s_Yard_in_lanes) (by decide +kernel))
      (fun _ _ _ _ _ => pg_name (i := 1) nd rfl (.inl rfl)) (fun _ _ _ _ _ => pts_nil)
      (fun _ _ _ _ _ => pe_callB call_len_seq (by rfl) T.len PySem.boot_len (pa_cons (pv 1) pa_nil))) pa_nil))), ?_⟩
  obtain ⟨dx, pi, pl, pd, ps, rfl, hy, hi, L, hdp, nn⟩ := hY.ex
  refine ⟨_, rfl, y, C, dx, _, _, rfl, hy, Y.cl, Y.nL, yF_l, pl, rfl, ⟨_, SqL.of L.top⟩, fun D hD => lc_list (K := K) (a := pl) (xs := rs ps) (fun i H' => Same H H' ∧ H' D = some (.lst (ds ((m.lanes.take i).map List.length))))
    ⟨same_new hD, upd_same⟩ (fun i H' _ ⟨s1, _⟩ => SqL.of (s1 _ _ L.top)) ?_ ?_⟩
  · rintro i x H' hx ⟨s1, h1⟩
    obtain ⟨p, hp, rfl⟩ := rs_get hx
    obtain ⟨l, hl2, hlp⟩ := L.get' hp
    refine ⟨rfl, _, rfl, p, _, rfl, .inl (SqL.of (s1 _ _ hlp)), _, h1, ?_, s1.put1 hD, ?_⟩
    · rw [ds_len, List.length_map, List.length_take]
      exact small_lt (by omega)
    · rw [upd_same, take_more hl2, List.map_append, ds_app, ds_len]; rfl
  · rintro H' ⟨s1, h1⟩
    rw [rs_len, L.len, List.take_length] at h1
    have e : ds (m.lanes.map List.length) = ((m.lanes.map List.length).map fun n : Nat => (n : Int)).map V.int := by
      rw [List.map_map]; rfl
    refine ⟨D, _, rfl, SqL.of (by rw [h1, e]), ?_⟩
    rw [sum_is]
    exact k H' s1
def spHInit (CH : Addr) : Sp := fun vs H Q _ => ∃ (p dx : Addr), vs = [.ref p] ∧ H p = some (.ins CH dx []) ∧
  ∀ H', H' p = some (.ins CH dx (hF .non)) → Keep [p] H H' → Q .non H'
theorem sc_hinit : FnScope ["self"] ["self"] (defScope s_Holder_init) := ⟨rfl, rfl, rfl, by decide +kernel, rfl, by decide +kernel, by decide +kernel⟩
theorem ok_hinit {f C CH : Addr} {fd : FuncData} (F : FnP K "__init__" "Holder.__init__" s_Holder_init f fd) (Y : TxtY K C CH) : FnOk P w K mg base CX0 1 f fd ["self"] (spHInit CH) := by
  refine okP F sc_hinit (fun vs H Q E h => ?_) (fun cdv A outer s H vs Q E hr h => ?_)
  · obtain ⟨p, dx, rfl, _⟩ := h
    rfl
  obtain ⟨p, dx, rfl, hp, k⟩ := h
  refine ⟨_, pss_one (ps_fld (pv 0) pe_non rfl), ?_⟩
  refine ⟨_, rfl, p, CH, dx, [], rfl, hp, Y.clH, Y.nY, (by show 0 < 1000; decide), ?_⟩
  exact k _ upd_same ((Keep.of_same (Same.refl _)).put (by simp))
end
end Trl

set_option Elab.async false
set_option linter.all false
set_option maxRecDepth 100000
set_option maxHeartbeats 4000000
namespace Trl
open PySem PySem.Spec PyProof.Rows L2
open C8 (Cal pe_c pe_gc Met pe_mt pe_mt0)
section
variable {P : Program} {w : World} {K : PySem.W.Frag} {mg : Str → Option Value} {base : Heap}

/-! ### the deeds -/
def OwAt (C CH : Addr) (H : Hp) (own : Addr) (fp : List Addr) : Option Kh433.Yard → Prop
  | none => fp = [] ∧ ∃ dx, H own = some (.ins CH dx (hF .non))
  | some m => ∃ dx y fq, fp = y :: fq ∧ H own = some (.ins CH dx (hF (.ref y))) ∧ Yd C H y fq m
theorem OwAt.same {C CH : Addr} {H H' : Hp} {own : Addr} {fp : List Addr} {s : Option Kh433.Yard} (h : OwAt C CH H own fp s) (e : Same H H') : OwAt C CH H' own fp s := by
  cases s with
  | none =>
    obtain ⟨h1, dx, h2⟩ := h
    exact ⟨h1, dx, e _ _ h2⟩
  | some m =>
    obtain ⟨dx, y, fq, h1, h2, h3⟩ := h
    exact ⟨dx, y, fq, h1, e _ _ h2, h3.same e⟩
theorem Yd.there {C : Addr} {H : Hp} {y : Addr} {fp : List Addr} {m : Kh433.Yard} (Y : Yd C H y fp m) : ∀ q ∈ fp, ∃ xs, H q = some (.lst xs) := by
  obtain ⟨dx, pi, pl, pd, ps, rfl, h1, h2, L, h4, nd⟩ := Y.ex
  intro q hq
  simp only [List.mem_cons] at hq
  rcases hq with rfl | rfl | rfl | hq
  · exact ⟨_, h2⟩
  · exact ⟨_, L.top⟩
  · exact ⟨_, h4⟩
  · obtain ⟨i, hi⟩ := List.mem_iff_getElem?.mp hq
    obtain ⟨l, _, h⟩ := L.get' hi
    exact ⟨_, h⟩
theorem OwAt.there {C CH : Addr} {H : Hp} {own : Addr} {fp : List Addr} {s : Option Kh433.Yard} (h : OwAt C CH H own fp s) : ∀ q ∈ own :: fp, ∃ o, H q = some o := by
  cases s with
  | none =>
    obtain ⟨rfl, dx, h2⟩ := h
    intro q hq
    rw [List.mem_singleton.mp hq]; exact ⟨_, h2⟩
  | some m =>
    obtain ⟨dx, y, fq, rfl, h2, h3⟩ := h
    intro q hq
    simp only [List.mem_cons] at hq
    rcases hq with rfl | rfl | hq
    · exact ⟨_, h2⟩
    · obtain ⟨_, _, _, _, _, _, h4, _⟩ := h3.ex
      exact ⟨_, h4⟩
    · obtain ⟨xs, e⟩ := h3.there q hq
      exact ⟨_, e⟩
theorem free_of {F : List Addr} {H H1 : Hp} (k : Keep F H H1) (th : ∀ q ∈ F, ∃ o, H1 q = some o) {p : Addr} (hp : H1 p = none) : H p = none := by
  cases z : H p with
  | none => rfl
  | some o =>
    by_cases c : p ∈ F
    · obtain ⟨u, e⟩ := th p c
      rw [hp] at e; cases e
    · rw [k p o z c] at hp; cases hp
def spDeed (C CH : Addr) (d : Nat) : Sp := fun vs H Q _ => ∃ (own pn pr : Addr) (fp : List Addr) (s : Option Kh433.Yard) (nums row : List Nat) (n : Nat), vs = [.ref own, .ref pn, .ref pr] ∧ OwAt C CH H own fp s ∧ (d ≠ 0 → s ≠ none) ∧
  H pn = some (.lst (ds nums)) ∧ H pr = some (.lst (ds row)) ∧ (∀ m, s = some m → Good n m) ∧ n ≤ 1000 ∧ (withNumber d = true → ∃ x, nums = [x]) ∧ row.length ≤ 1000 ∧
  ∀ H' fp' p, OwAt C CH H' own fp' (exec s d nums row).1 → Keep (own :: fp) H H' → (∀ q ∈ fp', q ∈ fp ∨ H q = none) → H p = none → H' p = some (.lst ((exec s d nums row).2.map V.int)) → Q (.ref p) H'
/-- a yard, opened -/
structure Yx (C : Addr) (H : Hp) (y dy pi pl pd : Addr) (ps : List Addr) (m : Kh433.Yard) : Prop where
  hy : H y = some (.ins C dy (yF pi pl pd))
  hi : H pi = some (.lst (ds m.incoming))
  L : LL H pl ps m.lanes
  hd : H pd = some (.lst (ds m.departed))
  nn : (pi :: pl :: pd :: ps).Nodup
theorem Yx.yd {C : Addr} {H : Hp} {y dy pi pl pd : Addr} {ps : List Addr} {m : Kh433.Yard} (X : Yx C H y dy pi pl pd ps m) : Yd C H y (pi :: pl :: pd :: ps) m := ⟨dy, pi, pl, pd, ps, rfl, X.hy, X.hi, X.L, X.hd, X.nn⟩
theorem Yx.same {C : Addr} {H H' : Hp} {y dy pi pl pd : Addr} {ps : List Addr} {m : Kh433.Yard} (X : Yx C H y dy pi pl pd ps m) (s : Same H H') : Yx C H' y dy pi pl pd ps m := ⟨s _ _ X.hy, s _ _ X.hi, X.L.same s, s _ _ X.hd, X.nn⟩
theorem exec_some (m : Kh433.Yard) (d : Nat) (nums row : List Nat) (hc : ∀ k, callOf d nums row ≠ .create k) : exec (some m) d nums row = (some (Kh433.apply m (callOf d nums row)).1, (Kh433.apply m (callOf d nums row)).2.status :: (Kh433.apply m (callOf d nums row)).2.values) := by
  unfold exec
  generalize callOf d nums row = c at hc ⊢
  cases c with
  | create k => exact (hc k rfl).elim
  | _ => rfl
/-- what a deed behind create has in hand -/
structure Had (C CH : Addr) (d : Nat) (vs : List V) (H : Hp) (Q : VK) (own pn pr dx y dy pi pl pd : Addr) (ps : List Addr) (m : Kh433.Yard) (nums row : List Nat) : Prop where
  vs : vs = [.ref own, .ref pn, .ref pr]
  ho : H own = some (.ins CH dx (hF (.ref y)))
  X : Yx C H y dy pi pl pd ps m
  hn : H pn = some (.lst (ds nums))
  hr : H pr = some (.lst (ds row))
  good : Good 1000 m
  one : withNumber d = true → ∃ x, nums = [x]
  rowLen : row.length ≤ 1000
  k : ∀ H' fp' p, OwAt C CH H' own fp' (some (Kh433.apply m (callOf d nums row)).1) → Keep (own :: y :: pi :: pl :: pd :: ps) H H' → (∀ q ∈ fp', q ∈ y :: pi :: pl :: pd :: ps ∨ H q = none) → H p = none →
    H' p = some (.lst (((Kh433.apply m (callOf d nums row)).2.status :: (Kh433.apply m (callOf d nums row)).2.values).map V.int)) → Q (.ref p) H'
theorem deed_of {C CH : Addr} {d : Nat} {vs : List V} {H : Hp} {Q : VK} {E : XK} (h : spDeed C CH d vs H Q E) (h0 : d ≠ 0) (hc : ∀ nums row k, callOf d nums row ≠ .create k) : ∃ own pn pr dx y dy pi pl pd ps m nums row, Had C CH d vs H Q own pn pr dx y dy pi pl pd ps m nums row := by
  obtain ⟨own, pn, pr, fp, s, nums, row, n, e, hO, hs, hn, hr, good, hn1, one, hrow, k⟩ := h
  cases s with
  | none => exact (hs h0 rfl).elim
  | some m =>
    obtain ⟨dx, y, fq, rfl, ho, hY⟩ := hO
    obtain ⟨dy, pi, pl, pd, ps, rfl, h1, h2, L, h4, nd⟩ := hY.ex
    rw [exec_some m d nums row (hc nums row)] at k
    exact ⟨own, pn, pr, dx, y, dy, pi, pl, pd, ps, m, nums, row, e, ho, ⟨h1, h2, L, h4, nd⟩, hn, hr, (good m rfl).mono hn1, one, hrow, k⟩
theorem deed_len {C CH : Addr} {d : Nat} {vs : List V} {H : Hp} {Q : VK} {E : XK} (h : spDeed C CH d vs H Q E) : vs.length = (["own", "numbers", "row"] : List Str).length := by
  obtain ⟨own, pn, pr, fp, s, nums, row, n, rfl, _⟩ := h
  rfl
/-- a deed that changes nothing -/
theorem Had.ask {C CH : Addr} {d : Nat} {vs : List V} {H : Hp} {Q : VK} {own pn pr dx y dy pi pl pd : Addr} {ps : List Addr} {m : Kh433.Yard} {nums row : List Nat} (h : Had C CH d vs H Q own pn pr dx y dy pi pl pd ps m nums row) {r : Kh433.Result}
    (e : Kh433.apply m (callOf d nums row) = (m, r)) : ∀ H' p, Same H H' → H p = none → H' p = some (.lst ((r.status :: r.values).map V.int)) → Q (.ref p) H' := by
  intro H' p s hp h'
  refine h.k H' _ p ⟨dx, y, _, rfl, s _ _ h.ho, by rw [e]; exact (h.X.same s).yd⟩ ?_ (fun q hq => .inl hq) hp ?_
  · exact Keep.of_same s
  · rw [e]; exact h'
theorem res_with (a : Nat) (l : List Nat) : ((Kh433.withValues a l).status :: (Kh433.withValues a l).values).map V.int = ds (a :: l) := by
  unfold Kh433.withValues ds
  rw [List.map_cons, List.map_cons, List.map_map]; rfl
theorem res_one (z : Int) : ((Kh433.single z).status :: (Kh433.single z).values).map V.int = [.int z] := rfl
theorem total_nil : ∀ {ll : List (List Nat)}, (∀ l ∈ ll, l = []) → total ll = 0
  | [], _ => rfl
  | a :: r, h => by
    have ih := total_nil (ll := r) (fun l m => h l (by simp [m]))
    have e := h a (by simp)
    subst e
    unfold total at ih ⊢
    rw [List.map_cons, List.sum_cons, ih]; rfl
theorem merge_whole_ : ∀ (n : Nat) (ll : List (List Nat)), total ll = n → (Kh433.mergeOrder n ll).length = n
  | 0, _, _ => rfl
  | n + 1, ll, h => by
    cases e : Kh433.nextLane ll with
    | none =>
      exfalso
      have z := next_none (i := ll.length) e
      have : total ll = 0 := total_nil (fun l m => by
        obtain ⟨i, hi⟩ := List.mem_iff_getElem?.mp m
        rw [← lane_at hi]
        exact z i (get_lt hi))
      omega
    | some k =>
      obtain ⟨hk, x, r, hx⟩ := lane_full e
      have t := total_getD hx
      have t2 : total (ll.set k r) = n := by omega
      have m := merge_some e hx
      rw [h, t2] at m
      rw [m, List.length_cons, merge_whole_ n _ t2]
theorem merge_whole (ll : List (List Nat)) : (Kh433.mergeOrder (total ll) ll).length = total ll := merge_whole_ _ ll rfl
theorem Good.inc1 {n : Nat} {m : Kh433.Yard} (g : Good n m) : m.incoming.length ≤ 1000 := by have := g.inc; omega
theorem Good.tot {m : Kh433.Yard} (g : Good 1000 m) : total m.lanes ≤ 1000 := by have := g.all; omega
theorem Good.lan1 {n : Nat} {m : Kh433.Yard} (g : Good n m) : m.lanes.length ≤ 1000 := by have := g.lan; omega
theorem Good.dep {m : Kh433.Yard} (g : Good 1000 m) : m.departed.length ≤ 1000 := by have := g.all; omega
theorem sc_c8 : FnScope ["own", "numbers", "row"] ["own", "numbers", "row"] (defScope s_call_list_incoming) := ⟨rfl, rfl, rfl, by decide +kernel, rfl, by decide +kernel, by decide +kernel⟩
theorem ok_c8 {f C CH : Addr} {fd : FuncData} (F : FnP K "call_list_incoming" "call_list_incoming" s_call_list_incoming f fd) (T : Txt K mg) (Y : TxtY K C CH) (cC : Cal P w K mg base 1 "counted" (spCounted K) []) : FnOk P w K mg base CX0 5 f fd ["own", "numbers", "row"] (spDeed C CH 8) := by
  refine okP F sc_c8 (fun vs H Q E h => deed_len h) (fun cdv A outer s H vs Q E hr h => ?_)
  obtain ⟨own, pn, pr, dx, y, dy, pi, pl, pd, ps, m, nums, row, h⟩ := deed_of h (by decide) (fun nums row k e => by cases e)
  obtain rfl := h.vs
  have nd := sc_c8.nd
  have ho := h.ho
  have X := h.X
  have g := h.good
  have hn := h.hn
  refine ⟨_, pss_one (ps_ret (pe_c cC hr (by decide) rfl (pa_cons (pe_fld (pe_fld (pv 0) rfl) rfl) (pa_nil)))), ?_⟩
  have q := h.ask (r := _) rfl
  refine ⟨_, rfl, own, CH, dx, _, _, rfl, ho, Y.clH, Y.nY, hF_y, y, C, dy, _, _, rfl, X.hy, Y.cl, Y.nI, yF_i, pi, _, rfl, SqL.of X.hi, by have := g.inc1; omega, fun H' p s1 hp h1 => q H' p s1 hp ?_⟩
  rw [res_with]; exact h1
theorem sc_c9 : FnScope ["own", "numbers", "row"] ["own", "numbers", "row"] (defScope s_call_list_lanes) := ⟨rfl, rfl, rfl, by decide +kernel, rfl, by decide +kernel, by decide +kernel⟩
theorem ok_c9 {f C CH : Addr} {fd : FuncData} (F : FnP K "call_list_lanes" "call_list_lanes" s_call_list_lanes f fd) (T : Txt K mg) (Y : TxtY K C CH) (cT : Cal P w K mg base 2 "told_lanes" (spTold K) []) : FnOk P w K mg base CX0 5 f fd ["own", "numbers", "row"] (spDeed C CH 9) := by
  refine okP F sc_c9 (fun vs H Q E h => deed_len h) (fun cdv A outer s H vs Q E hr h => ?_)
  obtain ⟨own, pn, pr, dx, y, dy, pi, pl, pd, ps, m, nums, row, h⟩ := deed_of h (by decide) (fun nums row k e => by cases e)
  obtain rfl := h.vs
  have nd := sc_c9.nd
  have ho := h.ho
  have X := h.X
  have g := h.good
  have hn := h.hn
  refine ⟨_, pss_one (ps_ret (pe_c cT hr (by decide) rfl (pa_cons (pe_fld (pe_fld (pv 0) rfl) rfl) (pa_nil)))), ?_⟩
  have q := h.ask (r := _) rfl
  refine ⟨_, rfl, own, CH, dx, _, _, rfl, ho, Y.clH, Y.nY, hF_y, y, C, dy, _, _, rfl, X.hy, Y.cl, Y.nL, yF_l, pl, ps, _, rfl, X.L, g.tot, g.lan1, fun H' p s1 hp h1 => q H' p s1 hp ?_⟩
  rw [res_with]; exact h1
theorem sc_c10 : FnScope ["own", "numbers", "row"] ["own", "numbers", "row"] (defScope s_call_list_departed) := ⟨rfl, rfl, rfl, by decide +kernel, rfl, by decide +kernel, by decide +kernel⟩
theorem ok_c10 {f C CH : Addr} {fd : FuncData} (F : FnP K "call_list_departed" "call_list_departed" s_call_list_departed f fd) (T : Txt K mg) (Y : TxtY K C CH) (cC : Cal P w K mg base 1 "counted" (spCounted K) []) : FnOk P w K mg base CX0 5 f fd ["own", "numbers", "row"] (spDeed C CH 10) := by
  refine okP F sc_c10 (fun vs H Q E h => deed_len h) (fun cdv A outer s H vs Q E hr h => ?_)
  obtain ⟨own, pn, pr, dx, y, dy, pi, pl, pd, ps, m, nums, row, h⟩ := deed_of h (by decide) (fun nums row k e => by cases e)
  obtain rfl := h.vs
  have nd := sc_c10.nd
  have ho := h.ho
  have X := h.X
  have g := h.good
  have hn := h.hn
  refine ⟨_, pss_one (ps_ret (pe_c cC hr (by decide) rfl (pa_cons (pe_fld (pe_fld (pv 0) rfl) rfl) (pa_nil)))), ?_⟩
  have q := h.ask (r := _) rfl
  refine ⟨_, rfl, own, CH, dx, _, _, rfl, ho, Y.clH, Y.nY, hF_y, y, C, dy, _, _, rfl, X.hy, Y.cl, Y.nD, yF_d, pd, _, rfl, SqL.of X.hd, by have := g.dep; omega, fun H' p s1 hp h1 => q H' p s1 hp ?_⟩
  rw [res_with]; exact h1
theorem sc_c11 : FnScope ["own", "numbers", "row"] ["own", "numbers", "row"] (defScope s_call_lanes_needed) := ⟨rfl, rfl, rfl, by decide +kernel, rfl, by decide +kernel, by decide +kernel⟩
theorem ok_c11 {f C CH : Addr} {fd : FuncData} (F : FnP K "call_lanes_needed" "call_lanes_needed" s_call_lanes_needed f fd) (T : Txt K mg) (Y : TxtY K C CH) (cF : Cal P w K mg base 2 "first_fit" (spFit K) []) : FnOk P w K mg base CX0 5 f fd ["own", "numbers", "row"] (spDeed C CH 11) := by
  refine okP F sc_c11 (fun vs H Q E h => deed_len h) (fun cdv A outer s H vs Q E hr h => ?_)
  obtain ⟨own, pn, pr, dx, y, dy, pi, pl, pd, ps, m, nums, row, h⟩ := deed_of h (by decide) (fun nums row k e => by cases e)
  obtain rfl := h.vs
  have nd := sc_c11.nd
  have ho := h.ho
  have X := h.X
  have g := h.good
  have hn := h.hn
  refine ⟨_, pss_one (ps_ret (pe_lst (pa_cons (pe_callB call_len_seq (by rfl) T.len PySem.boot_len (pa_cons (pe_c cF hr (by decide) rfl (pa_cons (pe_fld (pe_fld (pv 0) rfl) rfl) (pa_nil))) pa_nil)) pa_nil))), ?_⟩
  have q := h.ask (r := _) rfl
  refine ⟨_, rfl, own, CH, dx, _, _, rfl, ho, Y.clH, Y.nY, hF_y, y, C, dy, _, _, rfl, X.hy, Y.cl, Y.nI, yF_i, pi, _, rfl, SqL.of X.hi, g.inc1, fun H' p qs s1 hp fr M => ?_⟩
  refine ⟨p, _, rfl, .inl (SqL.of M.top), (by show 1 ≤ sizeLine; decide), fun r hr2 => q _ r (s1.new1 hr2) (s1.free hr2) ?_⟩
  rw [upd_same, res_one, rs_len, M.len]; rfl
theorem sc_c12 : FnScope ["own", "numbers", "row"] ["own", "numbers", "row"] (defScope s_call_first_fit_lanes) := ⟨rfl, rfl, rfl, by decide +kernel, rfl, by decide +kernel, by decide +kernel⟩
theorem ok_c12 {f C CH : Addr} {fd : FuncData} (F : FnP K "call_first_fit_lanes" "call_first_fit_lanes" s_call_first_fit_lanes f fd) (T : Txt K mg) (Y : TxtY K C CH) (cF : Cal P w K mg base 2 "first_fit" (spFit K) []) (cT : Cal P w K mg base 2 "told_lanes" (spTold K) []) : FnOk P w K mg base CX0 5 f fd ["own", "numbers", "row"] (spDeed C CH 12) := by
  refine okP F sc_c12 (fun vs H Q E h => deed_len h) (fun cdv A outer s H vs Q E hr h => ?_)
  obtain ⟨own, pn, pr, dx, y, dy, pi, pl, pd, ps, m, nums, row, h⟩ := deed_of h (by decide) (fun nums row k e => by cases e)
  obtain rfl := h.vs
  have nd := sc_c12.nd
  have ho := h.ho
  have X := h.X
  have g := h.good
  have hn := h.hn
  refine ⟨_, pss_one (ps_ret (pe_c cT hr (by decide) rfl (pa_cons (pe_c cF hr (by decide) rfl (pa_cons (pe_fld (pe_fld (pv 0) rfl) rfl) (pa_nil))) (pa_nil)))), ?_⟩
  have q := h.ask (r := _) rfl
  refine ⟨_, rfl, own, CH, dx, _, _, rfl, ho, Y.clH, Y.nY, hF_y, y, C, dy, _, _, rfl, X.hy, Y.cl, Y.nI, yF_i, pi, _, rfl, SqL.of X.hi, g.inc1, fun H' p qs s1 hp fr M => ?_⟩
  have t1 := ff_total m.incoming
  have t2 := ff_len m.incoming
  have t3 := g.inc
  refine ⟨p, qs, _, rfl, M, by omega, by omega, fun H2 r s2 hr2 h2 => q H2 r (s1.trans s2) (s1.free hr2) ?_⟩
  rw [res_with]; exact h2
theorem sc_c13 : FnScope ["own", "numbers", "row"] ["own", "numbers", "row"] (defScope s_call_longest_decreasing) := ⟨rfl, rfl, rfl, by decide +kernel, rfl, by decide +kernel, by decide +kernel⟩
theorem ok_c13 {f C CH : Addr} {fd : FuncData} (F : FnP K "call_longest_decreasing" "call_longest_decreasing" s_call_longest_decreasing f fd) (T : Txt K mg) (Y : TxtY K C CH) (cL : Cal P w K mg base 2 "longest_falling" (spLong K) []) (cC : Cal P w K mg base 1 "counted" (spCounted K) []) : FnOk P w K mg base CX0 5 f fd ["own", "numbers", "row"] (spDeed C CH 13) := by
  refine okP F sc_c13 (fun vs H Q E h => deed_len h) (fun cdv A outer s H vs Q E hr h => ?_)
  obtain ⟨own, pn, pr, dx, y, dy, pi, pl, pd, ps, m, nums, row, h⟩ := deed_of h (by decide) (fun nums row k e => by cases e)
  obtain rfl := h.vs
  have nd := sc_c13.nd
  have ho := h.ho
  have X := h.X
  have g := h.good
  have hn := h.hn
  refine ⟨_, pss_one (ps_ret (pe_c cC hr (by decide) rfl (pa_cons (pe_c cL hr (by decide) rfl (pa_cons (pe_fld (pe_fld (pv 0) rfl) rfl) (pa_nil))) (pa_nil)))), ?_⟩
  have q := h.ask (r := _) rfl
  refine ⟨_, rfl, own, CH, dx, _, _, rfl, ho, Y.clH, Y.nY, hF_y, y, C, dy, _, _, rfl, X.hy, Y.cl, Y.nI, yF_i, pi, _, rfl, SqL.of X.hi, g.inc, fun H' p s1 hp h1 => ?_⟩
  have t1 := subs_le m.incoming (Kh433.longestDecreasing m.incoming)
  have t3 := g.inc
  refine ⟨p, _, rfl, SqL.of h1, by omega, fun H2 r s2 hr2 h2 => q H2 r (s1.trans s2) (s1.free hr2) ?_⟩
  unfold Kh433.subsequenceResult
  rw [res_with, ← subs_len]; exact h2
theorem sc_c19 : FnScope ["own", "numbers", "row"] ["own", "numbers", "row"] (defScope s_call_merge_order) := ⟨rfl, rfl, rfl, by decide +kernel, rfl, by decide +kernel, by decide +kernel⟩
theorem ok_c19 {f C CH : Addr} {fd : FuncData} (F : FnP K "call_merge_order" "call_merge_order" s_call_merge_order f fd) (T : Txt K mg) (Y : TxtY K C CH) (cM : Cal P w K mg base 2 "merged" (spMerged K) []) (cC : Cal P w K mg base 1 "counted" (spCounted K) []) : FnOk P w K mg base CX0 5 f fd ["own", "numbers", "row"] (spDeed C CH 19) := by
  refine okP F sc_c19 (fun vs H Q E h => deed_len h) (fun cdv A outer s H vs Q E hr h => ?_)
  obtain ⟨own, pn, pr, dx, y, dy, pi, pl, pd, ps, m, nums, row, h⟩ := deed_of h (by decide) (fun nums row k e => by cases e)
  obtain rfl := h.vs
  have nd := sc_c19.nd
  have ho := h.ho
  have X := h.X
  have g := h.good
  have hn := h.hn
  refine ⟨_, pss_one (ps_ret (pe_c cC hr (by decide) rfl (pa_cons (pe_c cM hr (by decide) rfl (pa_cons (pe_fld (pe_fld (pv 0) rfl) rfl) (pa_nil))) (pa_nil)))), ?_⟩
  have q := h.ask (r := _) rfl
  refine ⟨_, rfl, own, CH, dx, _, _, rfl, ho, Y.clH, Y.nY, hF_y, y, C, dy, _, _, rfl, X.hy, Y.cl, Y.nL, yF_l, pl, ps, _, rfl, X.L, g.tot, g.lan1, fun H' p s1 hp h1 => ?_⟩
  have t1 := merge_len (total m.lanes) m.lanes
  have t2 := g.tot
  refine ⟨p, _, rfl, SqL.of h1, by omega, fun H2 r s2 hr2 h2 => q H2 r (s1.trans s2) (s1.free hr2) ?_⟩
  rw [merge_whole] at h2
  rw [res_with, in_total]; exact h2
theorem sc_c22 : FnScope ["own", "numbers", "row"] ["own", "numbers", "row"] (defScope s_call_longest_nondecreasing) := ⟨rfl, rfl, rfl, by decide +kernel, rfl, by decide +kernel, by decide +kernel⟩
theorem ok_c22 {f C CH : Addr} {fd : FuncData} (F : FnP K "call_longest_nondecreasing" "call_longest_nondecreasing" s_call_longest_nondecreasing f fd) (T : Txt K mg) (Y : TxtY K C CH) (cG : Cal P w K mg base 3 "largest_sortable" (spLarge K) []) (cC : Cal P w K mg base 1 "counted" (spCounted K) []) : FnOk P w K mg base CX0 5 f fd ["own", "numbers", "row"] (spDeed C CH 22) := by
  refine okP F sc_c22 (fun vs H Q E h => deed_len h) (fun cdv A outer s H vs Q E hr h => ?_)
  obtain ⟨own, pn, pr, dx, y, dy, pi, pl, pd, ps, m, nums, row, h⟩ := deed_of h (by decide) (fun nums row k e => by cases e)
  obtain rfl := h.vs
  have nd := sc_c22.nd
  have ho := h.ho
  have X := h.X
  have g := h.good
  have hn := h.hn
  refine ⟨_, pss_one (ps_ret (pe_c cC hr (by decide) rfl (pa_cons (pe_c cG hr (by decide) rfl (pa_cons (pe_fld (pe_fld (pv 0) rfl) rfl) (pa_cons (pe_int) (pa_nil)))) (pa_nil)))), ?_⟩
  have q := h.ask (r := _) rfl
  refine ⟨_, rfl, own, CH, dx, _, _, rfl, ho, Y.clH, Y.nY, hF_y, y, C, dy, _, _, rfl, X.hy, Y.cl, Y.nI, yF_i, pi, _, 1, rfl, SqL.of X.hi, g.inc, fun H' p s1 hp h1 => ?_⟩
  have t1 := subs_le m.incoming (Kh433.maxSubset 1 m.incoming)
  have t3 := g.inc
  refine ⟨p, _, rfl, SqL.of h1, by omega, fun H2 r s2 hr2 h2 => q H2 r (s1.trans s2) (s1.free hr2) ?_⟩
  unfold Kh433.subsequenceResult
  rw [res_with, ← subs_len]; exact h2
end
end Trl

set_option Elab.async false
set_option linter.all false
set_option maxRecDepth 100000
set_option maxHeartbeats 4000000
namespace Trl
open PySem PySem.Spec PyProof.Rows L2
open C8 (Cal pe_c pe_gc Met pe_mt pe_mt0)
section
variable {P : Program} {w : World} {K : PySem.W.Frag} {mg : Str → Option Value} {base : Heap}

theorem Had.tell1 {C CH : Addr} {d : Nat} {vs : List V} {H : Hp} {Q : VK} {own pn pr dx y dy pi pl pd : Addr} {ps : List Addr} {m : Kh433.Yard} {nums row : List Nat} (h : Had C CH d vs H Q own pn pr dx y dy pi pl pd ps m nums row) {z : Int}
    (e : Kh433.apply m (callOf d nums row) = (m, Kh433.single z)) (H' : Hp) (s : Same H H') : ∀ p, H' p = none → Q (.ref p) (upd H' p (.lst [.int z])) := fun p hp => by
  refine h.ask e _ p (s.new1 hp) (s.free hp) ?_
  rw [upd_same]; rfl
theorem sc_c16 : FnScope ["own", "numbers", "row"] ["own", "numbers", "row"] (defScope s_call_max_subset) := ⟨rfl, rfl, rfl, by decide +kernel, rfl, by decide +kernel, by decide +kernel⟩
theorem ok_c16 {f C CH : Addr} {fd : FuncData} (F : FnP K "call_max_subset" "call_max_subset" s_call_max_subset f fd) (T : Txt K mg) (Y : TxtY K C CH) (cG : Cal P w K mg base 3 "largest_sortable" (spLarge K) []) (cC : Cal P w K mg base 1 "counted" (spCounted K) []) : FnOk P w K mg base CX0 5 f fd ["own", "numbers", "row"] (spDeed C CH 16) := by
  refine okP F sc_c16 (fun vs H Q E h => deed_len h) (fun cdv A outer s H vs Q E hr h => ?_)
  obtain ⟨own, pn, pr, dx, y, dy, pi, pl, pd, ps, m, nums, row, h⟩ := deed_of h (by decide) (fun nums row k e => by cases e)
  obtain rfl := h.vs
  have nd := sc_c16.nd
  have ho := h.ho
  have X := h.X
  have g := h.good
  obtain ⟨x, rfl⟩ := h.one (by decide)
  obtain ⟨tk, hk⟩ := T.mLanes
  have hn := h.hn
  refine ⟨_, pss_cons (ps_if (pt_cmpR op_gt (pe_ix ix_list (pv 1) pe_int (fun _ _ => rfl)) (pe_glob (v := .int 4) rfl hk ⟨_, rfl⟩) (nomark _)) (pss_one (ps_ret (pe_lst (pa_cons (pe_un un_neg pe_int) pa_nil)))) pss_nil) (pss_one (ps_ret (pe_c cC hr (by decide) rfl (pa_cons (pe_c cG hr (by decide) rfl (pa_cons (pe_fld (pe_fld (pv 0) rfl) rfl) (pa_cons (pe_ix ix_list (pv 1) pe_int (fun _ _ => rfl)) (pa_nil)))) (pa_nil))))), ?_⟩
  refine ⟨_, rfl, pn, _, _, _, rfl, rfl, SqL.of hn, at_zero x [], _, _, rfl, rfl, _, rfl, ?_⟩
  by_cases c : 4 < x
  · refine if_t (decide_eq_true (by omega)) ⟨_, rfl, (by show 1 ≤ sizeLine; decide), h.tell1 ?_ _ (Same.refl _)⟩
    show (m, if 4 < x then _ else _) = _
    rw [if_pos c]
  · refine if_f (decide_eq_false (by omega)) ?_
    have q := h.ask (r := Kh433.subsequenceResult m.incoming (Kh433.maxSubset x m.incoming)) (by
      show (m, if 4 < x then _ else _) = _
      rw [if_neg c]; rfl)
    refine ⟨_, rfl, own, CH, dx, _, _, rfl, ho, Y.clH, Y.nY, hF_y, y, C, dy, _, _, rfl, X.hy, Y.cl, Y.nI, yF_i, _, rfl, pn, _, _, _, rfl, rfl, SqL.of hn, at_zero x [], pi, _, x, rfl, SqL.of X.hi, g.inc, fun H' p s1 hp h1 => ?_⟩
    have t1 := subs_le m.incoming (Kh433.maxSubset x m.incoming)
    have t3 := g.inc
    refine ⟨p, _, rfl, SqL.of h1, by omega, fun H2 r s2 hr2 h2 => q H2 r (s1.trans s2) (s1.free hr2) ?_⟩
    unfold Kh433.subsequenceResult
    rw [res_with, ← subs_len]; exact h2
theorem sc_c17 : FnScope ["own", "numbers", "row"] ["own", "numbers", "row"] (defScope s_call_lanes_needed_with) := ⟨rfl, rfl, rfl, by decide +kernel, rfl, by decide +kernel, by decide +kernel⟩
theorem ok_c17 {f C CH : Addr} {fd : FuncData} (F : FnP K "call_lanes_needed_with" "call_lanes_needed_with" s_call_lanes_needed_with f fd) (T : Txt K mg) (Y : TxtY K C CH) (cF : Cal P w K mg base 2 "first_fit" (spFit K) []) : FnOk P w K mg base CX0 5 f fd ["own", "numbers", "row"] (spDeed C CH 17) := by
  refine okP F sc_c17 (fun vs H Q E h => deed_len h) (fun cdv A outer s H vs Q E hr h => ?_)
  obtain ⟨own, pn, pr, dx, y, dy, pi, pl, pd, ps, m, nums, row, h⟩ := deed_of h (by decide) (fun nums row k e => by cases e)
  obtain rfl := h.vs
  have nd := sc_c17.nd
  have ho := h.ho
  have X := h.X
  have g := h.good
  obtain ⟨x, rfl⟩ := h.one (by decide)
  obtain ⟨tk, hk⟩ := T.mDock
  have hn := h.hn
  refine ⟨_, pss_cons (ps_if (pt_cmpR op_gt (pe_ix ix_list (pv 1) pe_int (fun _ _ => rfl)) (pe_glob (v := .int 99) rfl hk ⟨_, rfl⟩) (nomark _)) (pss_one (ps_ret (pe_lst (pa_cons (pe_un un_neg pe_int) pa_nil)))) pss_nil) (pss_one (ps_ret (pe_lst (pa_cons (pe_callB call_len_seq (by rfl) T.len PySem.boot_len (pa_cons (pe_c cF hr (by decide) rfl (pa_cons (pe_op op_cat (pe_fld (pe_fld (pv 0) rfl) rfl) (pe_lst (pa_cons (pe_ix ix_list (pv 1) pe_int (fun _ _ => rfl)) pa_nil))) (pa_nil))) pa_nil)) pa_nil)))), ?_⟩
  refine ⟨_, rfl, pn, _, _, _, rfl, rfl, SqL.of hn, at_zero x [], _, _, rfl, rfl, _, rfl, ?_⟩
  by_cases c : 99 < x
  · refine if_t (decide_eq_true (by omega)) ⟨_, rfl, (by show 1 ≤ sizeLine; decide), h.tell1 ?_ _ (Same.refl _)⟩
    show (m, if 99 < x then _ else _) = _
    rw [if_pos c]
  · refine if_f (decide_eq_false (by omega)) ?_
    refine ⟨_, rfl, own, CH, dx, _, _, rfl, ho, Y.clH, Y.nY, hF_y, y, C, dy, _, _, rfl, X.hy, Y.cl, Y.nI, yF_i, _, rfl, pn, _, _, _, rfl, rfl, SqL.of hn, at_zero x [], (by show 1 ≤ sizeLine; decide), fun p1 h1 => ?_⟩
    have s1 : Same H (upd H p1 (.lst [nv x])) := same_new h1
    have t3 := g.inc
    refine ⟨pi, p1, _, _, rfl, rfl, s1 _ _ X.hi, upd_same, (by rw [ds_len]; exact small_le (by simp; omega)), fun p2 h2 => ?_⟩
    refine ⟨p2, m.incoming ++ [x], rfl, SqL.of (by rw [upd_same, ds_app]; rfl), by simp; omega, fun H' p qs s2 hp fr M => ?_⟩
    have s3 := (s1.new1 h2).trans s2
    refine ⟨p, _, rfl, .inl (SqL.of M.top), (by show 1 ≤ sizeLine; decide), ?_⟩
    rw [rs_len, M.len]
    refine h.tell1 ?_ H' s3
    show (m, if 99 < x then _ else _) = _
    rw [if_neg c]; rfl
theorem sc_c18 : FnScope ["own", "numbers", "row", "docks"] ["own", "numbers", "row"] (defScope s_call_lanes_needed_without) := ⟨rfl, rfl, rfl, by decide +kernel, rfl, by decide +kernel, by decide +kernel⟩
theorem ok_c18 {f C CH : Addr} {fd : FuncData} (F : FnP K "call_lanes_needed_without" "call_lanes_needed_without" s_call_lanes_needed_without f fd) (T : Txt K mg) (Y : TxtY K C CH) (cF : Cal P w K mg base 2 "first_fit" (spFit K) []) : FnOk P w K mg base CX0 5 f fd ["own", "numbers", "row"] (spDeed C CH 18) := by
  refine okP F sc_c18 (fun vs H Q E h => deed_len h) (fun cdv A outer s H vs Q E hr h => ?_)
  obtain ⟨own, pn, pr, dx, y, dy, pi, pl, pd, ps, m, nums, row, h⟩ := deed_of h (by decide) (fun nums row k e => by cases e)
  obtain rfl := h.vs
  have nd := sc_c18.nd
  have ho := h.ho
  have X := h.X
  have g := h.good
  obtain ⟨x, rfl⟩ := h.one (by decide)
  have hn := h.hn
  refine ⟨_, pss_cons (ps_set (i := 3) nd rfl (.inl rfl) (pe_fld (pe_fld (pv 0) rfl) rfl)) (pss_cons (ps_if (pt_cmpR op_ge (pe_ix ix_list (pv 1) pe_int (fun _ _ => rfl)) (pe_callB call_len_seq (by rfl) T.len PySem.boot_len (pa_cons (pv 3) pa_nil)) (nomark _)) (pss_one (ps_ret (pe_lst (pa_cons (pe_un un_neg pe_int) pa_nil)))) pss_nil) (pss_one (ps_ret (pe_lst (pa_cons (pe_callB call_len_seq (by rfl) T.len PySem.boot_len (pa_cons (pe_c cF hr (by decide) rfl (pa_cons (pe_op op_cat (pe_slice sl_list (pv 3) po_none (po_some (pe_ix ix_list (pv 1) pe_int (fun _ _ => rfl)))) (pe_slice sl_list (pv 3) (po_some (pe_op op_add (pe_ix ix_list (pv 1) pe_int (fun _ _ => rfl)) pe_int)) po_none)) (pa_nil))) pa_nil)) pa_nil))))), ?_⟩
  refine ⟨_, rfl, own, CH, dx, _, _, rfl, ho, Y.clH, Y.nY, hF_y, y, C, dy, _, _, rfl, X.hy, Y.cl, Y.nI, yF_i, _, rfl, pn, _, _, _, rfl, rfl, SqL.of hn, at_zero x [], _, rfl, pi, _, rfl, .inl (SqL.of X.hi), _, _, rfl, rfl, _, rfl, ?_⟩
  by_cases c : m.incoming.length ≤ x
  · refine if_t (decide_eq_true (by rw [ds_len]; omega)) ⟨_, rfl, (by show 1 ≤ sizeLine; decide), h.tell1 ?_ _ (Same.refl _)⟩
    show (m, if m.incoming.length ≤ x then _ else _) = _
    rw [if_pos c]
  · refine if_f (decide_eq_false (by rw [ds_len]; omega)) ?_
    refine ⟨_, rfl, _, rfl, pn, _, _, _, rfl, rfl, SqL.of hn, at_zero x [], _, rfl, pi, _, rfl, SqL.of X.hi, fun p1 h1 => ?_⟩
    have t3 := g.inc
    have s1 : Same H (upd H p1 (.lst (cutV (ds m.incoming) none (some (x : Int))))) := same_new h1
    have hn1 := s1 _ _ hn
    refine ⟨_, rfl, _, rfl, pn, _, _, _, rfl, rfl, SqL.of hn1, at_zero x [], _, _, rfl, rfl, _, rfl, pi, _, rfl, SqL.of (s1 _ _ X.hi), fun p2 h2 => ?_⟩
    have e1 : cutV (ds m.incoming) none (some (x : Int)) = ds (m.incoming.take x) := (cut_to _ _).trans (ds_take _ _).symm
    have e2 : cutV (ds m.incoming) (some ((x : Int) + 1)) none = ds (m.incoming.drop (x + 1)) := (cut_from _ (x + 1)).trans (ds_drop _ _).symm
    have n12 : p1 ≠ p2 := ne_of_none upd_same h2
    have a0 : upd H p1 (.lst (cutV (ds m.incoming) none (some (x : Int)))) p1 = some (.lst (cutV (ds m.incoming) none (some (x : Int)))) := upd_same
    have a1 := up_ne (o := .lst (cutV (ds m.incoming) (some ((x : Int) + 1)) none)) a0 n12
    have s2 := s1.new1 (o := .lst (cutV (ds m.incoming) (some ((x : Int) + 1)) none)) h2
    refine ⟨p1, p2, _, _, rfl, rfl, a1, upd_same, ?_, fun p3 h3 => ?_⟩
    · rw [e1, e2, ds_len, ds_len, List.length_take, List.length_drop]
      exact small_le (by omega)
    · have e3 : cutV (ds m.incoming) none (some (x : Int)) ++ cutV (ds m.incoming) (some ((x : Int) + 1)) none = ds (m.incoming.eraseIdx x) := by
        rw [e1, e2, ← ds_app, ← List.eraseIdx_eq_take_drop_succ]
      refine ⟨p3, m.incoming.eraseIdx x, rfl, SqL.of (by rw [upd_same, e3]), by rw [List.length_eraseIdx]; split <;> omega, fun H' p qs s3 hp fr M => ?_⟩
      have s4 := (s2.new1 h3).trans s3
      refine ⟨p, _, rfl, .inl (SqL.of M.top), (by show 1 ≤ sizeLine; decide), ?_⟩
      rw [rs_len, M.len]
      refine h.tell1 ?_ H' s4
      show (m, if m.incoming.length ≤ x then _ else _) = _
      rw [if_neg c]; rfl
theorem sc_c20 : FnScope ["own", "numbers", "row"] ["own", "numbers", "row"] (defScope s_call_is_sorted) := ⟨rfl, rfl, rfl, by decide +kernel, rfl, by decide +kernel, by decide +kernel⟩
theorem ok_c20 {f C CH : Addr} {fd : FuncData} (F : FnP K "call_is_sorted" "call_is_sorted" s_call_is_sorted f fd) (T : Txt K mg) (Y : TxtY K C CH) (cM : Cal P w K mg base 2 "merged" (spMerged K) []) (cV : Cal P w K mg base 1 "never_falls" (spNever K) []) : FnOk P w K mg base CX0 5 f fd ["own", "numbers", "row"] (spDeed C CH 20) := by
  refine okP F sc_c20 (fun vs H Q E h => deed_len h) (fun cdv A outer s H vs Q E hr h => ?_)
  obtain ⟨own, pn, pr, dx, y, dy, pi, pl, pd, ps, m, nums, row, h⟩ := deed_of h (by decide) (fun nums row k e => by cases e)
  obtain rfl := h.vs
  have nd := sc_c20.nd
  have ho := h.ho
  have X := h.X
  have g := h.good
  have hn := h.hn
  refine ⟨_, pss_one (ps_ret (pe_lst (pa_cons (pe_ifExp (pt_val (pe_c cV hr (by decide) rfl (pa_cons (pe_op op_cat (pe_fld (pe_fld (pv 0) rfl) rfl) (pe_c cM hr (by decide) rfl (pa_cons (pe_fld (pe_fld (pv 0) rfl) rfl) (pa_nil)))) (pa_nil)))) pe_int pe_int) pa_nil))), ?_⟩
  have q := h.ask (r := _) rfl
  have t1 := merge_len (total m.lanes) m.lanes
  have t2 := g.tot
  have t3 := g.dep
  refine ⟨_, rfl, own, CH, dx, _, _, rfl, ho, Y.clH, Y.nY, hF_y, y, C, dy, _, _, rfl, X.hy, Y.cl, Y.nD, yF_d, _, rfl, own, CH, dx, _, _, rfl, ho, Y.clH, Y.nY, hF_y, y, C, dy, _, _, rfl, X.hy, Y.cl, Y.nL, yF_l, pl, ps, _, rfl, X.L, g.tot, g.lan1, fun H' p s1 hp h1 => ?_⟩
  refine ⟨pd, p, _, _, rfl, rfl, s1 _ _ X.hd, h1, (by rw [ds_len, ds_len]; exact small_le (by omega)), fun p2 h2 => ?_⟩
  refine ⟨p2, m.departed ++ Kh433.mergeOrder (total m.lanes) m.lanes, rfl, SqL.of (by rw [upd_same, ds_app]), by rw [List.length_append]; omega, fun H3 s3 => ⟨_, rfl, ?_⟩⟩
  have s4 := (s1.new1 h2).trans s3
  cases b : Kh433.isNondecreasing (m.departed ++ Kh433.mergeOrder (total m.lanes) m.lanes) with
  | true =>
    refine ⟨(by show 1 ≤ sizeLine; decide), h.tell1 ?_ H3 s4⟩
    show (m, Kh433.ofBool (Kh433.isNondecreasing (m.departed ++ Kh433.mergeOrder (total m.lanes) m.lanes))) = _
    rw [b]; rfl
  | false =>
    refine ⟨(by show 1 ≤ sizeLine; decide), h.tell1 ?_ H3 s4⟩
    show (m, Kh433.ofBool (Kh433.isNondecreasing (m.departed ++ Kh433.mergeOrder (total m.lanes) m.lanes))) = _
    rw [b]; rfl
theorem sc_c21 : FnScope ["own", "numbers", "row"] ["own", "numbers", "row"] (defScope s_call_is_lane_sorted) := ⟨rfl, rfl, rfl, by decide +kernel, rfl, by decide +kernel, by decide +kernel⟩
theorem ok_c21 {f C CH : Addr} {fd : FuncData} (F : FnP K "call_is_lane_sorted" "call_is_lane_sorted" s_call_is_lane_sorted f fd) (T : Txt K mg) (Y : TxtY K C CH) (cV : Cal P w K mg base 1 "never_falls" (spNever K) []) : FnOk P w K mg base CX0 5 f fd ["own", "numbers", "row"] (spDeed C CH 21) := by
  refine okP F sc_c21 (fun vs H Q E h => deed_len h) (fun cdv A outer s H vs Q E hr h => ?_)
  obtain ⟨own, pn, pr, dx, y, dy, pi, pl, pd, ps, m, nums, row, h⟩ := deed_of h (by decide) (fun nums row k e => by cases e)
  obtain rfl := h.vs
  have nd := sc_c21.nd
  have ho := h.ho
  have X := h.X
  have g := h.good
  obtain ⟨x, rfl⟩ := h.one (by decide)
  have hn := h.hn
  refine ⟨_, pss_cons (ps_if (pt_cmpR op_ge (pe_ix ix_list (pv 1) pe_int (fun _ _ => rfl)) (pe_callB call_len_seq (by rfl) T.len PySem.boot_len (pa_cons (pe_fld (pe_fld (pv 0) rfl) rfl) pa_nil)) (nomark _)) (pss_one (ps_ret (pe_lst (pa_cons (pe_un un_neg pe_int) pa_nil)))) pss_nil) (pss_one (ps_ret (pe_lst (pa_cons (pe_ifExp (pt_val (pe_c cV hr (by decide) rfl (pa_cons (pe_ix ix_list (pe_fld (pe_fld (pv 0) rfl) rfl) (pe_ix ix_list (pv 1) pe_int (fun _ _ => rfl)) (fun _ _ => rfl)) (pa_nil)))) pe_int pe_int) pa_nil)))), ?_⟩
  refine ⟨_, rfl, pn, _, _, _, rfl, rfl, SqL.of hn, at_zero x [], _, rfl, own, CH, dx, _, _, rfl, ho, Y.clH, Y.nY, hF_y, y, C, dy, _, _, rfl, X.hy, Y.cl, Y.nL, yF_l, pl, _, rfl, .inl (SqL.of X.L.top), _, _, rfl, rfl, _, rfl, ?_⟩
  by_cases c : x < m.lanes.length
  · refine if_f (decide_eq_false (by rw [rs_len, X.L.len]; omega)) ?_
    obtain ⟨q, hq, hqm⟩ := X.L.get (lane_get c)
    have t1 := mem_total (List.mem_of_getElem? (lane_get c))
    have t2 := g.tot
    refine ⟨_, rfl, own, CH, dx, _, _, rfl, ho, Y.clH, Y.nY, hF_y, y, C, dy, _, _, rfl, X.hy, Y.cl, Y.nL, yF_l, _, rfl, pn, _, _, _, rfl, rfl, SqL.of hn, at_zero x [], pl, _, _, _, rfl, rfl, SqL.of X.L.top, atI_nat (rs_at hq), q, _, rfl, SqL.of hqm, by omega, fun H3 s4 => ⟨_, rfl, ?_⟩⟩
    cases b : Kh433.isNondecreasing (m.lanes.getD x []) with
    | true =>
      refine ⟨(by show 1 ≤ sizeLine; decide), h.tell1 ?_ H3 s4⟩
      show (m, if decide (x < m.lanes.length) = false then _ else Kh433.ofBool (Kh433.isNondecreasing (m.lanes.getD x []))) = _
      rw [if_neg (by rw [decide_eq_true c]; decide), b]; rfl
    | false =>
      refine ⟨(by show 1 ≤ sizeLine; decide), h.tell1 ?_ H3 s4⟩
      show (m, if decide (x < m.lanes.length) = false then _ else Kh433.ofBool (Kh433.isNondecreasing (m.lanes.getD x []))) = _
      rw [if_neg (by rw [decide_eq_true c]; decide), b]; rfl
  · refine if_t (decide_eq_true (by rw [rs_len, X.L.len]; omega)) ⟨_, rfl, (by show 1 ≤ sizeLine; decide), h.tell1 ?_ _ (Same.refl _)⟩
    show (m, if decide (x < m.lanes.length) = false then _ else _) = _
    rw [if_pos (decide_eq_false c)]
theorem sc_c23 : FnScope ["own", "numbers", "row", "one"] ["own", "numbers", "row"] (defScope s_call_status) := ⟨rfl, rfl, rfl, by decide +kernel, rfl, by decide +kernel, by decide +kernel⟩
theorem ok_c23 {f C CH : Addr} {fd : FuncData} (F : FnP K "call_status" "call_status" s_call_status f fd) (T : Txt K mg) (Y : TxtY K C CH) (cIn : Met P w K mg base 1 C "in_lanes" (spIn C) []) : FnOk P w K mg base CX0 5 f fd ["own", "numbers", "row"] (spDeed C CH 23) := by
  refine okP F sc_c23 (fun vs H Q E h => deed_len h) (fun cdv A outer s H vs Q E hr h => ?_)
  obtain ⟨own, pn, pr, dx, y, dy, pi, pl, pd, ps, m, nums, row, h⟩ := deed_of h (by decide) (fun nums row k e => by cases e)
  obtain rfl := h.vs
  have nd := sc_c23.nd
  have ho := h.ho
  have X := h.X
  have g := h.good
  have hn := h.hn
  refine ⟨_, pss_cons (ps_set (i := 3) nd rfl (.inl rfl) (pe_fld (pv 0) rfl)) (pss_one (ps_ret (pe_lst (pa_cons (pe_callB call_len_seq (by rfl) T.len PySem.boot_len (pa_cons (pe_fld (pv 3) rfl) pa_nil)) (pa_cons (pe_callB call_len_seq (by rfl) T.len PySem.boot_len (pa_cons (pe_fld (pv 3) rfl) pa_nil)) (pa_cons (pe_mt0 cIn hr (by decide) (pv 3) (by rfl)) (pa_cons (pe_callB call_len_seq (by rfl) T.len PySem.boot_len (pa_cons (pe_fld (pv 3) rfl) pa_nil)) pa_nil))))))), ?_⟩
  have q := h.ask (r := _) rfl
  refine ⟨_, rfl, own, CH, dx, _, _, rfl, ho, Y.clH, Y.nY, hF_y, _, rfl, y, C, dy, _, _, rfl, X.hy, Y.cl, Y.nI, yF_i, pi, _, rfl, .inl (SqL.of X.hi), ?_⟩
  refine ⟨_, rfl, y, C, dy, _, _, rfl, X.hy, Y.cl, Y.nL, yF_l, pl, _, rfl, .inl (SqL.of X.L.top), ?_⟩
  refine ⟨_, rfl, y, dy, _, rfl, X.hy, yF_in, y, _, m, rfl, X.yd, g.lan1, fun H1 s1 => ?_⟩
  refine ⟨_, rfl, y, C, dy, _, _, rfl, s1 _ _ X.hy, Y.cl, Y.nD, yF_d, pd, _, rfl, .inl (SqL.of (s1 _ _ X.hd)), (by show 4 ≤ sizeLine; decide), fun p hp => q _ p (s1.new1 hp) (s1.free hp) ?_⟩
  rw [upd_same, ds_len, ds_len, rs_len, X.L.len]; rfl
end
end Trl

set_option Elab.async false
set_option linter.all false
set_option maxRecDepth 100000
set_option maxHeartbeats 4000000
namespace Trl
open PySem PySem.Spec PyProof.Rows L2
open C8 (Cal pe_c pe_gc Met pe_mt pe_mt0)
section
variable {P : Program} {w : World} {K : PySem.W.Frag} {mg : Str → Option Value} {base : Heap}
theorem sc_c14 : FnScope ["own", "numbers", "row", "lane"] ["own", "numbers", "row"] (defScope s_call_is_valid_assignment) := ⟨rfl, rfl, rfl, by decide +kernel, rfl, by decide +kernel, by decide +kernel⟩
theorem ok_c14 {f C CH : Addr} {fd : FuncData} (F : FnP K "call_is_valid_assignment" "call_is_valid_assignment" s_call_is_valid_assignment f fd) (T : Txt K mg) (Y : TxtY K C CH) (cI : Cal P w K mg base 1 "is_valid" (spValid K) []) : FnOk P w K mg base CX0 5 f fd ["own", "numbers", "row"] (spDeed C CH 14) := by
  refine okP F sc_c14 (fun vs H Q E h => deed_len h) (fun cdv A outer s H vs Q E hr h => ?_)
  obtain ⟨own, pn, pr, dx, y, dy, pi, pl, pd, ps, m, nums, row, h⟩ := deed_of h (by decide) (fun nums row k e => by cases e)
  obtain rfl := h.vs
  have nd := sc_c14.nd
  have ho := h.ho
  have X := h.X
  have g := h.good
  have hn := h.hn
  refine ⟨_, pss_cons (ps_if (PW.pt (pw_or (pt_cmpR op_ne (pe_callB call_len_seq (by rfl) T.len PySem.boot_len (pa_cons (pv 2) pa_nil)) (pe_callB call_len_seq (by rfl) T.len PySem.boot_len (pa_cons (pe_fld (pe_fld (pv 0) rfl) rfl) pa_nil)) (nomark _)) (pw_or1 (pt_not (pt_val (pe_callB (cr_all rfl) (by rfl) T.all (by decide +kernel) (pa_cons (pe_lc (own := [("lane", 3)]) (g := gName 3) (tt := tYes) (te := tOp (rI0 fun i j => .bl (decide (i < j))) (tVar 3) (tCB (rLenS K) (tCons (tFld K (tFld K (tVar 0) "yard") "lanes") tNil))) rfl nd
      (pi_list (pv 2))
      (blkOk_by (own := [("lane", 3)]) (N := ["own", "numbers", "row", "lane"]) (sc := defScope s_call_is_valid_assignment) (by decide +kernel))
      (fun _ _ _ _ _ => pg_name (i := 3) nd rfl (.inl rfl)) (fun _ _ _ _ _ => pts_nil)
      (fun _ _ _ _ _ => pe_cmpR op_lt (pv 3) (pe_callB call_len_seq (by rfl) T.len PySem.boot_len (pa_cons (pe_fld (pe_fld (pv 0) rfl) rfl) pa_nil)) (nomark _))) pa_nil))))))) (pss_one (ps_ret (pe_lst (pa_cons (pe_un un_neg pe_int) pa_nil)))) pss_nil) (pss_one (ps_ret (pe_lst (pa_cons (pe_ifExp (pt_val (pe_c cI hr (by decide) rfl (pa_cons (pe_fld (pe_fld (pv 0) rfl) rfl) (pa_cons (pv 2) (pa_nil))))) pe_int pe_int) pa_nil)))), ?_⟩
  have hw := h.hr
  have hl1 := h.rowLen
  have t3 := g.inc
  have ea : Kh433.apply m (callOf 14 nums row) = (m, if row.length ≠ m.incoming.length ∨ row.any (fun k => decide (m.lanes.length ≤ k)) = true then Kh433.single (-22) else Kh433.ofBool (Kh433.isValidAssignment m.lanes.length m.incoming row)) := rfl
  refine ⟨_, rfl, pr, _, rfl, .inl (SqL.of hw), _, rfl, own, CH, dx, _, _, rfl, ho, Y.clH, Y.nY, hF_y, y, C, dy, _, _, rfl, X.hy, Y.cl, Y.nI, yF_i, pi, _, rfl, .inl (SqL.of X.hi), rfl, _, rfl, ?_⟩
  by_cases c : row.length = m.incoming.length
  · refine if_f (by rw [ds_len, ds_len, c]; simp) ?_
    refine ⟨_, rfl, pr, rfl, ⟨_, SqL.of hw⟩, fun D hD => lc_list (K := K) (a := pr) (xs := ds row) (fun i H' => Same H H' ∧ H' D = some (.lst (((row.take i).map fun k => decide (k < m.lanes.length)).map V.bl)))
      ⟨same_new hD, upd_same⟩ (fun i H' _ ⟨s1, _⟩ => SqL.of (s1 _ _ hw)) ?_ ?_⟩
    · rintro i x H' hx ⟨s1, h1⟩
      obtain ⟨x, hx2, rfl⟩ := ds_get hx
      refine ⟨rfl, _, rfl, _, rfl, own, CH, dx, _, _, rfl, s1 _ _ ho, Y.clH, Y.nY, hF_y, y, C, dy, _, _, rfl, s1 _ _ X.hy, Y.cl, Y.nL, yF_l, pl, _, rfl, .inl (SqL.of (s1 _ _ X.L.top)), _, _, rfl, rfl, _, h1, ?_, s1.put1 hD, ?_⟩
      · rw [List.length_map, List.length_map, List.length_take]
        exact small_lt (by omega)
      · have e : decide ((x : Int) < ((rs ps).length : Nat)) = decide (x < m.lanes.length) := by
          rw [rs_len, X.L.len]; exact decide_eq_decide.mpr (by omega)
        rw [upd_same, take_more hx2]
        show some (HO.lst (_ ++ [V.bl (decide ((x : Int) < ((rs ps).length : Nat)))])) = _
        rw [e]
        simp
    · rintro H' ⟨s1, h1⟩
      rw [ds_len, List.take_length] at h1
      refine ⟨D, _, rfl, SqL.of h1, _, rfl, ?_⟩
      rw [List.all_map]
      cases b : row.all (fun k => decide (k < m.lanes.length)) with
      | false =>
        refine if_t (by show (!row.all fun k => decide (k < m.lanes.length)) = true; rw [b]; rfl) ?_
        refine ⟨_, rfl, (by show 1 ≤ sizeLine; decide), h.tell1 ?_ H' s1⟩
        obtain ⟨k, hk, e⟩ := List.all_eq_false.mp b
        have hany : row.any (fun k => decide (m.lanes.length ≤ k)) = true := List.any_eq_true.mpr ⟨k, hk, decide_eq_true (by have z : ¬ k < m.lanes.length := fun z => e (decide_eq_true z); omega)⟩
        rw [ea, if_pos (.inr hany)]
      | true =>
        refine if_f (by show (!row.all fun k => decide (k < m.lanes.length)) = false; rw [b]; rfl) ?_
        have hn2 : ∀ k ∈ row, k < m.lanes.length := fun k hk => of_decide_eq_true (List.all_eq_true.mp b k hk)
        have hv := valid_iff (n := m.lanes.length) c hn2
        refine ⟨_, rfl, own, CH, dx, _, _, rfl, s1 _ _ ho, Y.clH, Y.nY, hF_y, y, C, dy, _, _, rfl, s1 _ _ X.hy, Y.cl, Y.nI, yF_i, _, rfl, pi, pr, _, row, rfl, SqL.of (s1 _ _ X.hi), .inl (SqL.of (s1 _ _ hw)), c, by omega, fun H3 s3 => ⟨_, rfl, ?_⟩⟩
        have hno : ¬ (row.length ≠ m.incoming.length ∨ row.any (fun k => decide (m.lanes.length ≤ k)) = true) := by
          rintro (z | z)
          · exact z c
          · obtain ⟨k, hk, e⟩ := List.any_eq_true.mp z
            have := hn2 k hk
            have := of_decide_eq_true e
            omega
        cases v : goes (fun _ => 0) (m.incoming.zip row) with
        | true =>
          refine ⟨(by show 1 ≤ sizeLine; decide), h.tell1 ?_ H3 (s1.trans s3)⟩
          rw [ea, if_neg hno, hv, v]; rfl
        | false =>
          refine ⟨(by show 1 ≤ sizeLine; decide), h.tell1 ?_ H3 (s1.trans s3)⟩
          rw [ea, if_neg hno, hv, v]; rfl
  · refine if_t (by
      have : ¬ (V.int ((ds row).length : Nat) = V.int ((ds m.incoming).length : Nat)) := fun z => c (by rw [ds_len, ds_len] at z; injection z with z; omega)
      rw [decide_eq_false this]; rfl) ?_
    refine ⟨_, rfl, (by show 1 ≤ sizeLine; decide), h.tell1 ?_ _ (Same.refl _)⟩
    rw [ea, if_pos (.inl c)]
theorem filt_more {as : List (List Nat)} {i : Nat} {x : List Nat} (p : List Nat → Bool) (h : as[i]? = some x) : ((as.take (i + 1)).filter p).length = ((as.take i).filter p).length + if p x = true then 1 else 0 := by
  rw [take_more h, List.filter_append, List.length_append]
  cases c : p x with
  | true => simp [c]
  | false => simp [c]
theorem sc_c15 : FnScope ["own", "numbers", "row", "docks", "one"] ["own", "numbers", "row"] (defScope s_call_count_assignments) := ⟨rfl, rfl, rfl, by decide +kernel, rfl, by decide +kernel, by decide +kernel⟩
theorem ok_c15 {f C CH : Addr} {fd : FuncData} (F : FnP K "call_count_assignments" "call_count_assignments" s_call_count_assignments f fd) (T : Txt K mg) (Y : TxtY K C CH) (cI : Cal P w K mg base 1 "is_valid" (spValid K) []) (cA : Cal P w K mg base 1 "assignments_of" (spAssigns) []) : FnOk P w K mg base CX0 5 f fd ["own", "numbers", "row"] (spDeed C CH 15) := by
  refine okP F sc_c15 (fun vs H Q E h => deed_len h) (fun cdv A outer s H vs Q E hr h => ?_)
  obtain ⟨own, pn, pr, dx, y, dy, pi, pl, pd, ps, m, nums, row, h⟩ := deed_of h (by decide) (fun nums row k e => by cases e)
  obtain rfl := h.vs
  have nd := sc_c15.nd
  have ho := h.ho
  have X := h.X
  have g := h.good
  obtain ⟨tk, hk⟩ := T.mCount
  have hn := h.hn
  refine ⟨_, pss_cons (ps_set (i := 3) nd rfl (.inr rfl) (pe_fld (pe_fld (pv 0) rfl) rfl)) (pss_cons (ps_if (pt_cmpR op_gt (pe_callB call_len_seq (by rfl) T.len PySem.boot_len (pa_cons (pv 3) pa_nil)) (pe_glob (v := .int 6) rfl hk ⟨_, rfl⟩) (nomark _)) (pss_one (ps_ret (pe_lst (pa_cons (pe_un un_neg pe_int) pa_nil)))) pss_nil) (pss_one (ps_ret (pe_lst (pa_cons (pe_callB call_len_seq (by rfl) T.len PySem.boot_len (pa_cons (pe_lc (own := [("one", 4)]) (g := gName 4) (tt := tB (tCall (spValid K) [] E0 (tCons (tVar 3) (tCons (tVar 4) tNil)))) (te := tVar 4) rfl nd
      (pi_list (pe_c cA hr (by decide) rfl (pa_cons (pe_callB call_len_seq (by rfl) T.len PySem.boot_len (pa_cons (pv 3) pa_nil)) (pa_cons (pe_callB call_len_seq (by rfl) T.len PySem.boot_len (pa_cons (pe_fld (pe_fld (pv 0) rfl) rfl) pa_nil)) (pa_nil)))))
      (blkOk_by (own := [("one", 4)]) (N := ["own", "numbers", "row", "docks", "one"]) (sc := defScope s_call_count_assignments) (by decide +kernel))
      (fun _ _ _ _ _ => pg_name (i := 4) nd rfl (.inl rfl)) (fun _ _ _ _ _ => pts_one (pt_val (pe_c cI hr (by decide) rfl (pa_cons (pv 3) (pa_cons (pv 4) pa_nil)))))
      (fun _ _ _ _ _ => pv 4)) pa_nil)) pa_nil))))), ?_⟩
  have t3 := g.inc
  have ea : Kh433.apply m (callOf 15 nums row) = (m, if 6 < m.incoming.length then Kh433.single (-75) else Kh433.single ((Kh433.allAssignments m.lanes.length m.incoming.length).filter (Kh433.isValidAssignment m.lanes.length m.incoming)).length) := rfl
  refine ⟨_, rfl, own, CH, dx, _, _, rfl, ho, Y.clH, Y.nY, hF_y, y, C, dy, _, _, rfl, X.hy, Y.cl, Y.nI, yF_i, _, rfl, pi, _, rfl, .inl (SqL.of X.hi), _, _, rfl, rfl, _, rfl, ?_⟩
  by_cases c : 6 < m.incoming.length
  · refine if_t (decide_eq_true (by rw [ds_len]; omega)) ⟨_, rfl, (by show 1 ≤ sizeLine; decide), h.tell1 ?_ _ (Same.refl _)⟩
    rw [ea, if_pos c]
  · refine if_f (decide_eq_false (by rw [ds_len]; omega)) ?_
    refine ⟨_, rfl, pi, _, rfl, .inl (SqL.of X.hi), _, rfl, own, CH, dx, _, _, rfl, ho, Y.clH, Y.nY, hF_y, y, C, dy, _, _, rfl, X.hy, Y.cl, Y.nL, yF_l, pl, _, rfl, .inl (SqL.of X.L.top), ?_⟩
    rw [ds_len, rs_len, X.L.len]
    refine ⟨m.incoming.length, m.lanes.length, rfl, by omega, g.lan, fun H1 pa qa s0 hpa ha tt => ?_⟩
    have em := assigns_mem m.lanes.length m.incoming.length
    have el := assigns_len m.lanes.length m.incoming.length
    have sm := pow_le6 g.lan (show m.incoming.length ≤ 6 by omega)
    have es := assigns_eq m.lanes.length m.incoming.length
    generalize assigns m.lanes.length m.incoming.length = as at tt em el es
    refine ⟨pa, rfl, ⟨_, SqL.of ha⟩, fun D hD => lc_list (K := K) (a := pa) (xs := rs qa) (fun i H' => ∃ ys : List V, Same H1 H' ∧ H' D = some (.lst ys) ∧ ys.length = ((as.take i).filter (Kh433.isValidAssignment m.lanes.length m.incoming)).length)
      ⟨[], same_new hD, upd_same, rfl⟩ (fun i H' _ ⟨_, s1, _⟩ => SqL.of (s1 _ _ ha)) ?_ ?_⟩
    · rintro i x H' hx ⟨ys, s1, h1, hy⟩
      obtain ⟨q, hq, rfl⟩ := rs_get hx
      obtain ⟨a, haj, hqa⟩ := tt.get hq
      obtain ⟨la, lb⟩ := em a (List.mem_of_getElem? haj)
      have hv := valid_iff (n := m.lanes.length) la lb
      have s01 := s0.trans s1
      refine ⟨rfl, _, rfl, _, rfl, pi, q, _, a, rfl, SqL.of (s01 _ _ X.hi), .inr (SqT.of (s1 _ _ hqa)), la, by omega, fun H3 s3 => ⟨_, rfl, ?_⟩⟩
      have fm := filt_more (Kh433.isValidAssignment m.lanes.length m.incoming) haj
      rw [hv] at fm
      have fl : ((as.take i).filter (Kh433.isValidAssignment m.lanes.length m.incoming)).length ≤ as.length := Nat.le_trans (List.length_filter_le _ _) (by rw [List.length_take]; omega)
      cases v : goes (fun _ => 0) (m.incoming.zip a) with
      | true =>
        rw [v, if_pos rfl] at fm
        refine iteT ⟨_, rfl, _, s3 _ _ h1, small_lt (by omega), ys ++ [.ref q], (s1.trans s3).put1 hD, upd_same, ?_⟩
        rw [List.length_append, hy, fm]; rfl
      | false =>
        rw [v, if_neg Bool.false_ne_true] at fm
        exact iteF ⟨ys, s1.trans s3, s3 _ _ h1, by rw [hy, fm]; rfl⟩
    · rintro H' ⟨ys, s1, h1, hy⟩
      rw [rs_len, tt.len, List.take_length] at hy
      refine ⟨D, _, rfl, .inl (SqL.of h1), (by show 1 ≤ sizeLine; decide), h.tell1 ?_ H' (s0.trans s1)⟩
      rw [ea, if_neg c, hy, es]
end
end Trl

set_option Elab.async false
set_option linter.all false
set_option maxRecDepth 100000
set_option maxHeartbeats 4000000
namespace Trl
open PySem PySem.Spec PyProof.Rows L2
open C8 (Cal pe_c pe_gc Met pe_mt pe_mt0)
section
variable {P : Program} {w : World} {K : PySem.W.Frag} {mg : Str → Option Value} {base : Heap}

/-! ### deeds that change the yard -/
theorem Yx.there {C : Addr} {H : Hp} {y dy pi pl pd : Addr} {ps : List Addr} {m : Kh433.Yard} (X : Yx C H y dy pi pl pd ps m) : ∀ q ∈ pi :: pl :: pd :: ps, ∃ o, H q = some o := fun q hq => by
  obtain ⟨xs, e⟩ := X.yd.there q hq
  exact ⟨_, e⟩
theorem Yd.there' {C : Addr} {H : Hp} {y : Addr} {fp : List Addr} {m : Kh433.Yard} (X : Yd C H y fp m) : ∀ q ∈ fp, ∃ o, H q = some o := fun q hq => by
  obtain ⟨xs, e⟩ := X.there q hq
  exact ⟨_, e⟩
/-- the end of a deed that changes the yard -/
theorem Had.made {C CH : Addr} {d : Nat} {vs : List V} {H : Hp} {Q : VK} {own pn pr dx y dy pi pl pd : Addr} {ps : List Addr} {m : Kh433.Yard} {nums row : List Nat} (h : Had C CH d vs H Q own pn pr dx y dy pi pl pd ps m nums row) {m' : Kh433.Yard} {r : Kh433.Result}
    (e : Kh433.apply m (callOf d nums row) = (m', r)) {H1 : Hp} {fp' : List Addr} (X' : Yd C H1 y fp' m') (ho' : H1 own = some (.ins CH dx (hF (.ref y)))) (k : Keep (own :: y :: pi :: pl :: pd :: ps) H H1)
    (th : ∀ q ∈ pi :: pl :: pd :: ps, ∃ o, H1 q = some o) (fr : ∀ q ∈ fp', q ∈ pi :: pl :: pd :: ps ∨ H q = none) {us : List V} (ev : us = (r.status :: r.values).map V.int) : ∀ p, H1 p = none → Q (.ref p) (upd H1 p (.lst us)) := fun p hp => by
  have s : Same H1 (upd H1 p (.lst us)) := same_new hp
  refine h.k _ (y :: fp') p ⟨dx, y, _, rfl, s _ _ ho', by rw [e]; exact X'.same s⟩ (k.trans (Keep.of_same s)) (fun q hq => ?_) (free_of k (fun q hq => ?_) hp) ?_
  · rcases List.mem_cons.mp hq with rfl | hq
    · exact .inl (by simp)
    · rcases fr q hq with z | z
      · exact .inl (List.mem_cons_of_mem _ z)
      · exact .inr z
  · rcases List.mem_cons.mp hq with rfl | hq
    · exact ⟨_, ho'⟩
    · rcases List.mem_cons.mp hq with rfl | hq
      · obtain ⟨_, _, _, _, _, _, h4, _⟩ := X'.ex
        exact ⟨_, h4⟩
      · exact th q hq
  · rw [upd_same, ev, e]
theorem Yx.putI {C : Addr} {H : Hp} {y dy pi pl pd : Addr} {ps : List Addr} {m : Kh433.Yard} (X : Yx C H y dy pi pl pd ps m) (l : List Nat) : Yx C (upd H pi (.lst (ds l))) y dy pi pl pd ps ⟨l, m.lanes, m.departed⟩ := by
  obtain ⟨n1, n2, n3, n4, n5, n6, n7⟩ := nd3 X.nn
  refine ⟨up_ne X.hy (ne_of X.hy X.hi (by intro z; cases z)), upd_same, ?_, up_ne X.hd n2.symm, X.nn⟩
  exact X.L.keep (F := [pi]) ((Keep.of_same (Same.refl _)).put (by simp)) (by simpa using n1.symm) (fun p hp e => n3 (by rw [← List.mem_singleton.mp e]; exact hp))
theorem Yx.putQ {C : Addr} {H : Hp} {y dy pi pl pd : Addr} {ps : List Addr} {m : Kh433.Yard} (X : Yx C H y dy pi pl pd ps m) {i : Nat} {q : Addr} (hq : ps[i]? = some q) (l : List Nat) : Yx C (upd H q (.lst (ds l))) y dy pi pl pd ps ⟨m.incoming, m.lanes.set i l, m.departed⟩ := by
  obtain ⟨n1, n2, n3, n4, n5, n6, n7⟩ := nd3 X.nn
  have qm := List.mem_of_getElem? hq
  obtain ⟨l0, _, hqm⟩ := X.L.get' hq
  refine ⟨up_ne X.hy (ne_of X.hy hqm (by intro z; cases z)), up_ne X.hi (fun e => n3 (by rw [e]; exact qm)), X.L.put hq l, up_ne X.hd (fun e => n6 (by rw [e]; exact qm)), X.nn⟩
theorem Yx.putP {C : Addr} {H : Hp} {y dy pi pl pd : Addr} {ps : List Addr} {m : Kh433.Yard} (X : Yx C H y dy pi pl pd ps m) {q : Addr} (hq : H q = none) : Yx C (upd (upd H q (.lst [])) pl (.lst (rs ps ++ [.ref q]))) y dy pi pl pd (ps ++ [q]) ⟨m.incoming, m.lanes ++ [[]], m.departed⟩ := by
  obtain ⟨n1, n2, n3, n4, n5, n6, n7⟩ := nd3 X.nn
  have qn : ∀ {b : Addr} {o : HO}, H b = some o → b ≠ q := fun e => ne_of_none e hq
  refine ⟨up_ne (up_ne X.hy (qn X.hy)) (ne_of X.hy X.L.top (by intro z; cases z)), up_ne (up_ne X.hi (qn X.hi)) n1, X.L.push hq rfl, up_ne (up_ne X.hd (qn X.hd)) n4.symm, ?_⟩
  have h1 : pi ∉ ps ++ [q] := fun m => by
    rcases List.mem_append.mp m with z | z
    · exact n3 z
    · exact qn X.hi (List.mem_singleton.mp z)
  have h2 : pl ∉ ps ++ [q] := fun m => by
    rcases List.mem_append.mp m with z | z
    · exact n5 z
    · exact qn X.L.top (List.mem_singleton.mp z)
  have h3 : pd ∉ ps ++ [q] := fun m => by
    rcases List.mem_append.mp m with z | z
    · exact n6 z
    · exact qn X.hd (List.mem_singleton.mp z)
  have h4 : (ps ++ [q]).Nodup := (X.L.push (a := pl) hq rfl).nd
  refine List.nodup_cons.mpr ⟨?_, List.nodup_cons.mpr ⟨?_, List.nodup_cons.mpr ⟨h3, h4⟩⟩⟩
  · simp only [List.mem_cons, not_or]; exact ⟨n1, n2, h1⟩
  · simp only [List.mem_cons, not_or]; exact ⟨n4, h2⟩
theorem isl {m : Kh433.Yard} {k : Nat} (h : k < m.lanes.length) : ¬ Kh433.isLane m k = false := by
  unfold Kh433.isLane
  rw [decide_eq_true h]; decide
theorem isl' {m : Kh433.Yard} {k : Nat} (h : ¬ k < m.lanes.length) : Kh433.isLane m k = false := decide_eq_false h
theorem ap_rel {m : Kh433.Yard} {k x : Nat} {r : List Nat} (h : k < m.lanes.length) (hx : m.lanes.getD k [] = x :: r) : Kh433.apply m (.release k) = (⟨m.incoming, m.lanes.set k r, m.departed ++ [x]⟩, Kh433.single x) := by
  unfold Kh433.apply
  simp only
  rw [if_neg (isl h), hx]
theorem ap_rel0 {m : Kh433.Yard} {k : Nat} (h : k < m.lanes.length) (hx : m.lanes.getD k [] = []) : Kh433.apply m (.release k) = (m, Kh433.single (-6)) := by
  unfold Kh433.apply
  simp only
  rw [if_neg (isl h), hx]
theorem ap_rel2 {m : Kh433.Yard} {k : Nat} (h : ¬ k < m.lanes.length) : Kh433.apply m (.release k) = (m, Kh433.single (-2)) := by
  unfold Kh433.apply
  simp only
  rw [if_pos (isl' h)]
theorem ap_next {m : Kh433.Yard} {k x : Nat} {r : List Nat} (h : Kh433.nextLane m.lanes = some k) (hx : m.lanes.getD k [] = x :: r) : Kh433.apply m .releaseNext = (⟨m.incoming, m.lanes.set k r, m.departed ++ [x]⟩, Kh433.withValues x [k]) := by
  unfold Kh433.apply
  simp only
  rw [h]
  simp only
  rw [hx]
theorem ap_next0 {m : Kh433.Yard} (h : Kh433.nextLane m.lanes = none) : Kh433.apply m .releaseNext = (m, Kh433.single (-6)) := by
  unfold Kh433.apply
  simp only
  rw [h]
theorem sc_c1 : FnScope ["own", "numbers", "row"] ["own", "numbers", "row"] (defScope s_call_add_trolley) := ⟨rfl, rfl, rfl, by decide +kernel, rfl, by decide +kernel, by decide +kernel⟩
theorem ok_c1 {f C CH : Addr} {fd : FuncData} (F : FnP K "call_add_trolley" "call_add_trolley" s_call_add_trolley f fd) (T : Txt K mg) (Y : TxtY K C CH) : FnOk P w K mg base CX0 5 f fd ["own", "numbers", "row"] (spDeed C CH 1) := by
  refine okP F sc_c1 (fun vs H Q E h => deed_len h) (fun cdv A outer s H vs Q E hr h => ?_)
  obtain ⟨own, pn, pr, dx, y, dy, pi, pl, pd, ps, m, nums, row, h⟩ := deed_of h (by decide) (fun nums row k e => by cases e)
  obtain rfl := h.vs
  have nd := sc_c1.nd
  have ho := h.ho
  have X := h.X
  have g := h.good
  obtain ⟨x, rfl⟩ := h.one (by decide)
  obtain ⟨tk, hk⟩ := T.mDock
  obtain ⟨tk2, hk2⟩ := T.mTrol
  have hn := h.hn
  refine ⟨_, pss_cons (ps_if (pt_cmpR op_gt (pe_ix ix_list (pv 1) pe_int (fun _ _ => rfl)) (pe_glob (v := .int 99) rfl hk ⟨_, rfl⟩) (nomark _)) (pss_one (ps_ret (pe_lst (pa_cons (pe_un un_neg pe_int) pa_nil)))) pss_nil) (pss_cons (ps_if (pt_cmpR op_eq (pe_callB call_len_seq (by rfl) T.len PySem.boot_len (pa_cons (pe_fld (pe_fld (pv 0) rfl) rfl) pa_nil)) (pe_glob (v := .int 8) rfl hk2 ⟨_, rfl⟩) (nomark _)) (pss_one (ps_ret (pe_lst (pa_cons (pe_un un_neg pe_int) pa_nil)))) pss_nil) (pss_cons (ps_expr (pe_bm PySem.F.plainAttrs_list PySem.F.slot_list_append PySem.F.type_list_append mt_append (pe_fld (pe_fld (pv 0) rfl) rfl) (pa_cons (pe_ix ix_list (pv 1) pe_int (fun _ _ => rfl)) pa_nil))) (pss_one (ps_ret (pe_lst (pa_cons (pe_op op_sub (pe_callB call_len_seq (by rfl) T.len PySem.boot_len (pa_cons (pe_fld (pe_fld (pv 0) rfl) rfl) pa_nil)) pe_int) pa_nil)))))), ?_⟩
  have t3 := g.inc
  have oi : own ≠ pi := ne_of ho X.hi (by intro z; cases z)
  refine ⟨_, rfl, pn, _, _, _, rfl, rfl, SqL.of hn, at_zero x [], _, _, rfl, rfl, _, rfl, ?_⟩
  by_cases c : 99 < x
  · refine if_t (decide_eq_true (by omega)) ⟨_, rfl, (by show 1 ≤ sizeLine; decide), h.tell1 ?_ _ (Same.refl _)⟩
    show (if 99 < x then _ else _) = _
    rw [if_pos c]
  · refine if_f (decide_eq_false (by omega)) ?_
    refine ⟨_, rfl, own, CH, dx, _, _, rfl, ho, Y.clH, Y.nY, hF_y, y, C, dy, _, _, rfl, X.hy, Y.cl, Y.nI, yF_i, pi, _, rfl, .inl (SqL.of X.hi), rfl, _, rfl, ?_⟩
    by_cases c2 : m.incoming.length = 8
    · refine if_t (decide_eq_true (by rw [ds_len, c2]; rfl)) ⟨_, rfl, (by show 1 ≤ sizeLine; decide), h.tell1 ?_ _ (Same.refl _)⟩
      show (if 99 < x then _ else if 8 ≤ m.incoming.length then _ else _) = _
      rw [if_neg c, if_pos (by omega)]
    · refine if_f (decide_eq_false (fun z => c2 (by rw [ds_len] at z; injection z with z; omega))) ?_
      refine ⟨_, rfl, own, CH, dx, _, _, rfl, ho, Y.clH, Y.nY, hF_y, y, C, dy, _, _, rfl, X.hy, Y.cl, Y.nI, yF_i, .inl ⟨rfl, _, SqL.of X.hi⟩, _, rfl, pn, _, _, _, rfl, rfl, SqL.of hn, at_zero x [], pi, _, _, rfl, rfl, X.hi, (by rw [ds_len]; exact small_lt (by omega)), ?_⟩
      have X' := X.putI (m.incoming ++ [x])
      rw [ds_app] at X'
      have ho' := up_ne (o := .lst (ds m.incoming ++ ds [x])) ho oi
      refine ⟨_, rfl, own, CH, dx, _, _, rfl, ho', Y.clH, Y.nY, hF_y, y, C, dy, _, _, rfl, X'.hy, Y.cl, Y.nI, yF_i, pi, _, rfl, .inl (SqL.of upd_same), _, _, rfl, rfl, (by show 1 ≤ sizeLine; decide), ?_⟩
      refine h.made (r := Kh433.single m.incoming.length) ?_ X'.yd ho' ((Keep.of_same (Same.refl _)).put (by simp)) X'.there (fun q hq => .inl hq) ?_
      · show (if 99 < x then _ else if 8 ≤ m.incoming.length then _ else _) = _
        rw [if_neg c, if_neg (by omega)]; rfl
      · rw [res_one, List.length_append, ds_len]
        show [V.int (((m.incoming.length + 1 : Nat) : Int) - 1)] = _
        rw [show (((m.incoming.length + 1 : Nat) : Int) - 1) = (m.incoming.length : Int) by omega]
theorem sc_c2 : FnScope ["own", "numbers", "row"] ["own", "numbers", "row"] (defScope s_call_remove_last_trolley) := ⟨rfl, rfl, rfl, by decide +kernel, rfl, by decide +kernel, by decide +kernel⟩
theorem ok_c2 {f C CH : Addr} {fd : FuncData} (F : FnP K "call_remove_last_trolley" "call_remove_last_trolley" s_call_remove_last_trolley f fd) (T : Txt K mg) (Y : TxtY K C CH) : FnOk P w K mg base CX0 5 f fd ["own", "numbers", "row"] (spDeed C CH 2) := by
  refine okP F sc_c2 (fun vs H Q E h => deed_len h) (fun cdv A outer s H vs Q E hr h => ?_)
  obtain ⟨own, pn, pr, dx, y, dy, pi, pl, pd, ps, m, nums, row, h⟩ := deed_of h (by decide) (fun nums row k e => by cases e)
  obtain rfl := h.vs
  have nd := sc_c2.nd
  have ho := h.ho
  have X := h.X
  have g := h.good
  have hn := h.hn
  refine ⟨_, pss_cons (ps_if (pt_cmpR op_eq (pe_callB call_len_seq (by rfl) T.len PySem.boot_len (pa_cons (pe_fld (pe_fld (pv 0) rfl) rfl) pa_nil)) pe_int (nomark _)) (pss_one (ps_ret (pe_lst (pa_cons (pe_un un_neg pe_int) pa_nil)))) pss_nil) (pss_cons (ps_expr (pe_bm0 PySem.F.plainAttrs_list PySem.F.slot_list_pop PySem.F.type_list_pop mt_pop (pe_fld (pe_fld (pv 0) rfl) rfl))) (pss_one (ps_ret (pe_lst (pa_cons (pe_callB call_len_seq (by rfl) T.len PySem.boot_len (pa_cons (pe_fld (pe_fld (pv 0) rfl) rfl) pa_nil)) pa_nil))))), ?_⟩
  have t3 := g.inc
  have oi : own ≠ pi := ne_of ho X.hi (by intro z; cases z)
  refine ⟨_, rfl, own, CH, dx, _, _, rfl, ho, Y.clH, Y.nY, hF_y, y, C, dy, _, _, rfl, X.hy, Y.cl, Y.nI, yF_i, pi, _, rfl, .inl (SqL.of X.hi), rfl, _, rfl, ?_⟩
  by_cases c : m.incoming = []
  · refine if_t (decide_eq_true (by rw [ds_len, c]; rfl)) ⟨_, rfl, (by show 1 ≤ sizeLine; decide), h.tell1 ?_ _ (Same.refl _)⟩
    show (if m.incoming = [] then _ else _) = _
    rw [if_pos c]
  · have c1 : 0 < m.incoming.length := List.length_pos_iff.mpr c
    refine if_f (decide_eq_false (fun z => by rw [ds_len] at z; injection z with z; omega)) ?_
    obtain ⟨z, hz⟩ := get_some (l := m.incoming) (i := m.incoming.length - 1) (by omega)
    refine ⟨_, rfl, own, CH, dx, _, _, rfl, ho, Y.clH, Y.nY, hF_y, y, C, dy, _, _, rfl, X.hy, Y.cl, Y.nI, yF_i, .inl ⟨rfl, _, SqL.of X.hi⟩, pi, _, nv z, rfl, rfl, X.hi, (by rw [ds_len]; exact ds_at hz), ?_⟩
    have X' := X.putI m.incoming.dropLast
    have ed : ds m.incoming.dropLast = (ds m.incoming).dropLast := List.map_dropLast
    rw [ed] at X'
    have ho' := up_ne (o := .lst (ds m.incoming).dropLast) ho oi
    refine ⟨_, rfl, own, CH, dx, _, _, rfl, ho', Y.clH, Y.nY, hF_y, y, C, dy, _, _, rfl, X'.hy, Y.cl, Y.nI, yF_i, pi, _, rfl, .inl (SqL.of upd_same), (by show 1 ≤ sizeLine; decide), ?_⟩
    refine h.made (r := Kh433.single ((m.incoming.length - 1 : Nat) : Int)) ?_ X'.yd ho' ((Keep.of_same (Same.refl _)).put (by simp)) X'.there (fun q hq => .inl hq) ?_
    · show (if m.incoming = [] then _ else _) = _
      rw [if_neg c]
    · rw [res_one, List.length_dropLast, ds_len]
theorem sc_c5 : FnScope ["own", "numbers", "row"] ["own", "numbers", "row"] (defScope s_call_release) := ⟨rfl, rfl, rfl, by decide +kernel, rfl, by decide +kernel, by decide +kernel⟩
theorem ok_c5 {f C CH : Addr} {fd : FuncData} (F : FnP K "call_release" "call_release" s_call_release f fd) (T : Txt K mg) (Y : TxtY K C CH) (cGo : Met P w K mg base 1 C "let_go" (spLetGo C) []) : FnOk P w K mg base CX0 5 f fd ["own", "numbers", "row"] (spDeed C CH 5) := by
  refine okP F sc_c5 (fun vs H Q E h => deed_len h) (fun cdv A outer s H vs Q E hr h => ?_)
  obtain ⟨own, pn, pr, dx, y, dy, pi, pl, pd, ps, m, nums, row, h⟩ := deed_of h (by decide) (fun nums row k e => by cases e)
  obtain rfl := h.vs
  have nd := sc_c5.nd
  have ho := h.ho
  have X := h.X
  have g := h.good
  obtain ⟨x, rfl⟩ := h.one (by decide)
  have hn := h.hn
  refine ⟨_, pss_cons (ps_if (pt_cmpR op_ge (pe_ix ix_list (pv 1) pe_int (fun _ _ => rfl)) (pe_callB call_len_seq (by rfl) T.len PySem.boot_len (pa_cons (pe_fld (pe_fld (pv 0) rfl) rfl) pa_nil)) (nomark _)) (pss_one (ps_ret (pe_lst (pa_cons (pe_un un_neg pe_int) pa_nil)))) pss_nil) (pss_cons (ps_if (pt_cmpR op_eq (pe_callB call_len_seq (by rfl) T.len PySem.boot_len (pa_cons (pe_ix ix_list (pe_fld (pe_fld (pv 0) rfl) rfl) (pe_ix ix_list (pv 1) pe_int (fun _ _ => rfl)) (fun _ _ => rfl)) pa_nil)) pe_int (nomark _)) (pss_one (ps_ret (pe_lst (pa_cons (pe_un un_neg pe_int) pa_nil)))) pss_nil) (pss_one (ps_ret (pe_lst (pa_cons (pe_mt cGo hr (by decide) (pe_fld (pv 0) rfl) (pa_cons (pe_ix ix_list (pv 1) pe_int (fun _ _ => rfl)) pa_nil) rfl rfl (by rfl)) pa_nil))))), ?_⟩
  have no_ : own ∉ pi :: pl :: pd :: ps := fun m => by
    obtain ⟨xs, e⟩ := X.yd.there own m
    rw [ho] at e; cases e
  refine ⟨_, rfl, pn, _, _, _, rfl, rfl, SqL.of hn, at_zero x [], _, rfl, own, CH, dx, _, _, rfl, ho, Y.clH, Y.nY, hF_y, y, C, dy, _, _, rfl, X.hy, Y.cl, Y.nL, yF_l, pl, _, rfl, .inl (SqL.of X.L.top), _, _, rfl, rfl, _, rfl, ?_⟩
  by_cases c : x < m.lanes.length
  · refine if_f (decide_eq_false (by rw [rs_len, X.L.len]; omega)) ?_
    obtain ⟨q, hq, hqm⟩ := X.L.get (lane_get c)
    refine ⟨_, rfl, own, CH, dx, _, _, rfl, ho, Y.clH, Y.nY, hF_y, y, C, dy, _, _, rfl, X.hy, Y.cl, Y.nL, yF_l, _, rfl, pn, _, _, _, rfl, rfl, SqL.of hn, at_zero x [], pl, _, _, _, rfl, rfl, SqL.of X.L.top, atI_nat (rs_at hq), q, _, rfl, .inl (SqL.of hqm), rfl, _, rfl, ?_⟩
    cases hx : m.lanes.getD x [] with
    | nil =>
      refine if_t rfl ⟨_, rfl, (by show 1 ≤ sizeLine; decide), h.tell1 (ap_rel0 c hx) _ (Same.refl _)⟩
    | cons v r =>
      refine if_f (decide_eq_false (fun z => by rw [ds_len, List.length_cons] at z; injection z with z; omega)) ?_
      refine ⟨_, rfl, own, CH, dx, _, _, rfl, ho, Y.clH, Y.nY, hF_y, y, dy, _, rfl, X.hy, yF_go, _, rfl, pn, _, _, _, rfl, rfl, SqL.of hn, at_zero x [], y, _, m, x, v, r, rfl, X.yd, hx, g.dep, fun H1 Y1 k1 => ⟨(by show 1 ≤ sizeLine; decide), ?_⟩⟩
      exact h.made (ap_rel c hx) Y1 (k1 _ _ ho no_) (k1.mono (fun q hq => List.mem_cons_of_mem _ (List.mem_cons_of_mem _ hq))) Y1.there' (fun q hq => .inl hq) rfl
  · refine if_t (decide_eq_true (by rw [rs_len, X.L.len]; omega)) ⟨_, rfl, (by show 1 ≤ sizeLine; decide), h.tell1 (ap_rel2 c) _ (Same.refl _)⟩
theorem sc_c6 : FnScope ["own", "numbers", "row", "lane"] ["own", "numbers", "row"] (defScope s_call_release_next) := ⟨rfl, rfl, rfl, by decide +kernel, rfl, by decide +kernel, by decide +kernel⟩
theorem ok_c6 {f C CH : Addr} {fd : FuncData} (F : FnP K "call_release_next" "call_release_next" s_call_release_next f fd) (T : Txt K mg) (Y : TxtY K C CH) (cX : Cal P w K mg base 1 "next_lane" (spNext K) []) (cGo : Met P w K mg base 1 C "let_go" (spLetGo C) []) : FnOk P w K mg base CX0 5 f fd ["own", "numbers", "row"] (spDeed C CH 6) := by
  refine okP F sc_c6 (fun vs H Q E h => deed_len h) (fun cdv A outer s H vs Q E hr h => ?_)
  obtain ⟨own, pn, pr, dx, y, dy, pi, pl, pd, ps, m, nums, row, h⟩ := deed_of h (by decide) (fun nums row k e => by cases e)
  obtain rfl := h.vs
  have nd := sc_c6.nd
  have ho := h.ho
  have X := h.X
  have g := h.good
  have hn := h.hn
  refine ⟨_, pss_cons (ps_set (i := 3) nd rfl (.inl rfl) (pe_c cX hr (by decide) rfl (pa_cons (pe_fld (pe_fld (pv 0) rfl) rfl) (pa_nil)))) (pss_cons (ps_if (pt_cmpR op_lt (pv 3) pe_int (nomark _)) (pss_one (ps_ret (pe_lst (pa_cons (pe_un un_neg pe_int) pa_nil)))) pss_nil) (pss_one (ps_ret (pe_lst (pa_cons (pe_mt cGo hr (by decide) (pe_fld (pv 0) rfl) (pa_cons (pv 3) pa_nil) rfl rfl (by rfl)) (pa_cons (pv 3) pa_nil)))))), ?_⟩
  have no_ : own ∉ pi :: pl :: pd :: ps := fun m => by
    obtain ⟨xs, e⟩ := X.yd.there own m
    rw [ho] at e; cases e
  refine ⟨_, rfl, own, CH, dx, _, _, rfl, ho, Y.clH, Y.nY, hF_y, y, C, dy, _, _, rfl, X.hy, Y.cl, Y.nL, yF_l, pl, ps, _, rfl, X.L, fun H0 s0 => ?_⟩
  cases e : Kh433.nextLane m.lanes with
  | none =>
    refine ⟨_, rfl, _, _, rfl, rfl, _, rfl, ?_⟩
    refine if_t (decide_eq_true (by decide)) ⟨_, rfl, (by show 1 ≤ sizeLine; decide), h.tell1 (ap_next0 e) _ s0⟩
  | some j =>
    obtain ⟨hj, v, r, hx⟩ := lane_full e
    refine ⟨_, rfl, _, _, rfl, rfl, _, rfl, ?_⟩
    refine if_f (decide_eq_false (by omega)) ?_
    refine ⟨_, rfl, own, CH, dx, _, _, rfl, s0 _ _ ho, Y.clH, Y.nY, hF_y, y, dy, _, rfl, s0 _ _ X.hy, yF_go, _, rfl, y, _, m, j, v, r, rfl, (X.same s0).yd, hx, g.dep, fun H1 Y1 k1 => ⟨_, rfl, (by show 2 ≤ sizeLine; decide), ?_⟩⟩
    exact h.made (ap_next e hx) Y1 (k1 _ _ (s0 _ _ ho) no_) ((Keep.of_same s0).trans (k1.mono (fun q hq => List.mem_cons_of_mem _ (List.mem_cons_of_mem _ hq)))) Y1.there' (fun q hq => .inl hq) rfl
theorem sc_c7 : FnScope ["own", "numbers", "row"] ["own", "numbers", "row"] (defScope s_call_open_lane) := ⟨rfl, rfl, rfl, by decide +kernel, rfl, by decide +kernel, by decide +kernel⟩
theorem ok_c7 {f C CH : Addr} {fd : FuncData} (F : FnP K "call_open_lane" "call_open_lane" s_call_open_lane f fd) (T : Txt K mg) (Y : TxtY K C CH) : FnOk P w K mg base CX0 5 f fd ["own", "numbers", "row"] (spDeed C CH 7) := by
  refine okP F sc_c7 (fun vs H Q E h => deed_len h) (fun cdv A outer s H vs Q E hr h => ?_)
  obtain ⟨own, pn, pr, dx, y, dy, pi, pl, pd, ps, m, nums, row, h⟩ := deed_of h (by decide) (fun nums row k e => by cases e)
  obtain rfl := h.vs
  have nd := sc_c7.nd
  have ho := h.ho
  have X := h.X
  have g := h.good
  obtain ⟨tk, hk⟩ := T.mLanes
  have hn := h.hn
  refine ⟨_, pss_cons (ps_if (pt_cmpR op_eq (pe_callB call_len_seq (by rfl) T.len PySem.boot_len (pa_cons (pe_fld (pe_fld (pv 0) rfl) rfl) pa_nil)) (pe_glob (v := .int 4) rfl hk ⟨_, rfl⟩) (nomark _)) (pss_one (ps_ret (pe_lst (pa_cons (pe_un un_neg pe_int) pa_nil)))) pss_nil) (pss_cons (ps_expr (pe_bm PySem.F.plainAttrs_list PySem.F.slot_list_append PySem.F.type_list_append mt_append (pe_fld (pe_fld (pv 0) rfl) rfl) (pa_cons (pe_lst pa_nil) pa_nil))) (pss_one (ps_ret (pe_lst (pa_cons (pe_callB call_len_seq (by rfl) T.len PySem.boot_len (pa_cons (pe_fld (pe_fld (pv 0) rfl) rfl) pa_nil)) pa_nil))))), ?_⟩
  have t3 := g.lan
  refine ⟨_, rfl, own, CH, dx, _, _, rfl, ho, Y.clH, Y.nY, hF_y, y, C, dy, _, _, rfl, X.hy, Y.cl, Y.nL, yF_l, pl, _, rfl, .inl (SqL.of X.L.top), rfl, _, rfl, ?_⟩
  by_cases c : m.lanes.length = 4
  · refine if_t (decide_eq_true (by rw [rs_len, X.L.len, c]; rfl)) ⟨_, rfl, (by show 1 ≤ sizeLine; decide), h.tell1 ?_ _ (Same.refl _)⟩
    show (if 4 ≤ m.lanes.length then _ else _) = _
    rw [if_pos (by omega)]
  · refine if_f (decide_eq_false (fun z => c (by rw [rs_len, X.L.len] at z; injection z with z; omega))) ?_
    refine ⟨_, rfl, own, CH, dx, _, _, rfl, ho, Y.clH, Y.nY, hF_y, y, C, dy, _, _, rfl, X.hy, Y.cl, Y.nL, yF_l, .inl ⟨rfl, _, SqL.of X.L.top⟩, Nat.zero_le _, fun q hq => ?_⟩
    have ol : own ≠ pl := ne_of ho X.L.top (by intro z; cases z)
    have oq : own ≠ q := ne_of_none ho hq
    refine ⟨pl, _, _, rfl, rfl, up_ne X.L.top (ne_of_none X.L.top hq), (by rw [rs_len, X.L.len]; exact small_lt (by omega)), ?_⟩
    have X' := X.putP hq
    have ho' := up_ne (o := .lst (rs ps ++ [.ref q])) (up_ne (o := .lst []) ho oq) ol
    refine ⟨_, rfl, own, CH, dx, _, _, rfl, ho', Y.clH, Y.nY, hF_y, y, C, dy, _, _, rfl, X'.hy, Y.cl, Y.nL, yF_l, pl, _, rfl, .inl (SqL.of upd_same), (by show 1 ≤ sizeLine; decide), ?_⟩
    refine h.made (r := Kh433.single ((m.lanes.length + 1 : Nat) : Int)) ?_ X'.yd ho' ((Keep.of_same (same_new hq)).put (by simp)) ?_ (fun z hz => ?_) ?_
    · show (if 4 ≤ m.lanes.length then _ else _) = _
      rw [if_neg (by omega)]
    · intro z hz
      refine X'.there z ?_
      simp only [List.mem_cons, List.mem_append] at hz ⊢
      rcases hz with e | e | e | e
      · exact .inl e
      · exact .inr (.inl e)
      · exact .inr (.inr (.inl e))
      · exact .inr (.inr (.inr (.inl e)))
    · simp only [List.mem_cons, List.mem_append, List.not_mem_nil, or_false] at hz ⊢
      rcases hz with e | e | e | e | e
      · exact .inl (.inl e)
      · exact .inl (.inr (.inl e))
      · exact .inl (.inr (.inr (.inl e)))
      · exact .inl (.inr (.inr (.inr e)))
      · exact .inr (by rw [e]; exact hq)
    · rw [res_one, List.length_append, rs_len, X.L.len]; rfl
end
end Trl

set_option Elab.async false
set_option linter.all false
set_option maxRecDepth 100000
set_option maxHeartbeats 4000000
namespace Trl
open PySem PySem.Spec PyProof.Rows L2
open C8 (Cal pe_c pe_gc Met pe_mt pe_mt0)
section
variable {P : Program} {w : World} {K : PySem.W.Frag} {mg : Str → Option Value} {base : Heap}

theorem there_upd {H : Hp} {q p : Addr} {o : HO} (h : ∃ u, H q = some u) : ∃ u, upd H p o q = some u := by
  by_cases c : q = p
  · subst c; exact ⟨_, upd_same⟩
  · obtain ⟨u, e⟩ := h
    exact ⟨u, up_ne e c⟩
theorem ap_mv0 {m : Kh433.Yard} {k : Nat} (e : m.incoming = []) : Kh433.apply m (.moveToLane k) = (m, Kh433.single (-6)) := by
  unfold Kh433.apply
  simp only
  rw [e]
theorem ap_mv2 {m : Kh433.Yard} {k d : Nat} {r : List Nat} (e : m.incoming = d :: r) (h : ¬ k < m.lanes.length) : Kh433.apply m (.moveToLane k) = (m, Kh433.single (-2)) := by
  unfold Kh433.apply
  simp only
  rw [e]
  simp only
  rw [if_pos (isl' h)]
theorem ap_mv {m : Kh433.Yard} {k d : Nat} {r : List Nat} (e : m.incoming = d :: r) (h : k < m.lanes.length) : Kh433.apply m (.moveToLane k) = (⟨r, m.lanes.set k (m.lanes.getD k [] ++ [d]), m.departed⟩, Kh433.withValues (m.lanes.getD k []).length.succ [if fits m.lanes d k = true then 1 else 0]) := by
  unfold Kh433.apply
  simp only
  rw [e]
  simp only
  rw [if_neg (isl h)]
  rfl
theorem in_order {σ : L2.St} {H : Hp} {Q : VK} {q : Addr} {ll : List (List Nat)} {k d : Nat} (h3 : σ[3]? = some (some (.ref q))) (h4 : σ[4]? = some (some (nv d))) (hq : H q = some (.lst (ds (ll.getD k [])))) (h : Q (nv (if fits ll d k = true then 1 else 0)) H) :
    tIf (tOr (tTest (tOp rEq (tCB (rLenS K) (tCons (tVar 3) tNil)) (tC (.int 0)))) (tTest (tOp (rI0 fun i j => .bl (decide (i ≤ j))) (tOp (rIxL K) (tVar 3) (tUn (rU fun i => .int (-i)) (tC (.int 1)))) (tVar 4)))) (tC (.int 1)) (tC (.int 0)) σ H Q := by
  refine ⟨_, h3, q, _, rfl, .inl (SqL.of hq), rfl, _, rfl, ?_⟩
  unfold fits at h
  cases e : (ll.getD k []).getLast? with
  | none =>
    have e2 := List.getLast?_eq_none_iff.mp e
    rw [e2]
    rw [e] at h
    exact h
  | some z =>
    rw [e] at h
    have ne : ll.getD k [] ≠ [] := fun z => by rw [z] at e; cases e
    have c1 := List.length_pos_iff.mpr ne
    refine if_f (decide_eq_false (fun z => by rw [ds_len] at z; injection z with z; omega)) ?_
    refine ⟨_, h3, _, rfl, q, _, _, _, rfl, rfl, SqL.of hq, at_last e, _, h4, _, _, rfl, rfl, _, rfl, ?_⟩
    by_cases c : z ≤ d
    · refine if_t (decide_eq_true (by omega)) ?_
      rw [if_pos (show decide (z ≤ d) = true from decide_eq_true c)] at h
      exact h
    · refine if_f (decide_eq_false (by omega)) ?_
      rw [if_neg (show ¬ decide (z ≤ d) = true from fun y => c (of_decide_eq_true y))] at h
      exact h
theorem sc_c3 : FnScope ["own", "numbers", "row", "lane", "dock", "is_in_order"] ["own", "numbers", "row"] (defScope s_call_move_to_lane) := ⟨rfl, rfl, rfl, by decide +kernel, rfl, by decide +kernel, by decide +kernel⟩
theorem ok_c3 {f C CH : Addr} {fd : FuncData} (F : FnP K "call_move_to_lane" "call_move_to_lane" s_call_move_to_lane f fd) (T : Txt K mg) (Y : TxtY K C CH) : FnOk P w K mg base CX0 5 f fd ["own", "numbers", "row"] (spDeed C CH 3) := by
  refine okP F sc_c3 (fun vs H Q E h => deed_len h) (fun cdv A outer s H vs Q E hr h => ?_)
  obtain ⟨own, pn, pr, dx, y, dy, pi, pl, pd, ps, m, nums, row, h⟩ := deed_of h (by decide) (fun nums row k e => by cases e)
  obtain rfl := h.vs
  have nd := sc_c3.nd
  have ho := h.ho
  have X := h.X
  have g := h.good
  obtain ⟨x, rfl⟩ := h.one (by decide)
  have hn := h.hn
  refine ⟨_, pss_cons (ps_if (pt_cmpR op_eq (pe_callB call_len_seq (by rfl) T.len PySem.boot_len (pa_cons (pe_fld (pe_fld (pv 0) rfl) rfl) pa_nil)) pe_int (nomark _)) (pss_one (ps_ret (pe_lst (pa_cons (pe_un un_neg pe_int) pa_nil)))) pss_nil) (pss_cons (ps_if (pt_cmpR op_ge (pe_ix ix_list (pv 1) pe_int (fun _ _ => rfl)) (pe_callB call_len_seq (by rfl) T.len PySem.boot_len (pa_cons (pe_fld (pe_fld (pv 0) rfl) rfl) pa_nil)) (nomark _)) (pss_one (ps_ret (pe_lst (pa_cons (pe_un un_neg pe_int) pa_nil)))) pss_nil) (pss_cons (ps_set (i := 3) nd rfl (.inl rfl) (pe_ix ix_list (pe_fld (pe_fld (pv 0) rfl) rfl) (pe_ix ix_list (pv 1) pe_int (fun _ _ => rfl)) (fun _ _ => rfl))) (pss_cons (ps_set (i := 4) nd rfl (.inl rfl) (pe_bm PySem.F.plainAttrs_list PySem.F.slot_list_pop PySem.F.type_list_pop mt_popAt (pe_fld (pe_fld (pv 0) rfl) rfl) (pa_cons pe_int pa_nil))) (pss_cons (ps_set (i := 5) nd rfl (.inl rfl) (pe_ifExp (PW.pt (pw_or (pt_cmpR op_eq (pe_callB call_len_seq (by rfl) T.len PySem.boot_len (pa_cons (pv 3) pa_nil)) pe_int (nomark _)) (pw_or1 (pt_cmpR op_le (pe_ix ix_list (pv 3) (pe_un un_neg pe_int) (fun _ _ => rfl)) (pv 4) (nomark _))))) pe_int pe_int)) (pss_cons (ps_expr (pe_bm PySem.F.plainAttrs_list PySem.F.slot_list_append PySem.F.type_list_append mt_append (pv 3) (pa_cons (pv 4) pa_nil))) (pss_one (ps_ret (pe_lst (pa_cons (pe_callB call_len_seq (by rfl) T.len PySem.boot_len (pa_cons (pv 3) pa_nil)) (pa_cons (pv 5) pa_nil)))))))))), ?_⟩
  have t3 := g.inc
  refine ⟨_, rfl, own, CH, dx, _, _, rfl, ho, Y.clH, Y.nY, hF_y, y, C, dy, _, _, rfl, X.hy, Y.cl, Y.nI, yF_i, pi, _, rfl, .inl (SqL.of X.hi), rfl, _, rfl, ?_⟩
  cases e : m.incoming with
  | nil =>
    refine if_t rfl ⟨_, rfl, (by show 1 ≤ sizeLine; decide), h.tell1 (ap_mv0 e) _ (Same.refl _)⟩
  | cons d r =>
    refine if_f (decide_eq_false (fun z => by rw [ds_len, List.length_cons] at z; injection z with z; omega)) ?_
    refine ⟨_, rfl, pn, _, _, _, rfl, rfl, SqL.of hn, at_zero x [], _, rfl, own, CH, dx, _, _, rfl, ho, Y.clH, Y.nY, hF_y, y, C, dy, _, _, rfl, X.hy, Y.cl, Y.nL, yF_l, pl, _, rfl, .inl (SqL.of X.L.top), _, _, rfl, rfl, _, rfl, ?_⟩
    by_cases c : x < m.lanes.length
    · refine if_f (decide_eq_false (by rw [rs_len, X.L.len]; omega)) ?_
      obtain ⟨q, hq, hqm⟩ := X.L.get (lane_get c)
      have t1 := mem_total (List.mem_of_getElem? (lane_get c))
      have t2 := g.tot
      have hi2 := X.hi
      rw [e] at hi2
      refine ⟨_, rfl, own, CH, dx, _, _, rfl, ho, Y.clH, Y.nY, hF_y, y, C, dy, _, _, rfl, X.hy, Y.cl, Y.nL, yF_l, _, rfl, pn, _, _, _, rfl, rfl, SqL.of hn, at_zero x [], pl, _, _, _, rfl, rfl, SqL.of X.L.top, atI_nat (rs_at hq), ?_⟩
      refine ⟨_, rfl, own, CH, dx, _, _, rfl, ho, Y.clH, Y.nY, hF_y, y, C, dy, _, _, rfl, X.hy, Y.cl, Y.nI, yF_i, .inl ⟨rfl, _, SqL.of X.hi⟩, pi, _, _, 0, nv d, rfl, rfl, hi2, by decide, by decide, seqIndex_of (by decide) (by rw [ds_len, List.length_cons]; omega), rfl, ?_⟩
      have X1 := X.putI r
      obtain ⟨n1, n2, n3, n4, n5, n6, n7⟩ := nd3 X.nn
      have qm := List.mem_of_getElem? hq
      have hq1 : upd H pi (.lst (ds r)) q = some (.lst (ds (m.lanes.getD x []))) := up_ne hqm (fun z => n3 (by rw [← z]; exact qm))
      have ho1 : upd H pi (.lst (ds r)) own = _ := up_ne ho (ne_of ho X.hi (by intro z; cases z))
      refine in_order (K := K) (ll := m.lanes) (k := x) (d := d) rfl rfl hq1 ?_
      have X2 := X1.putQ hq (m.lanes.getD x [] ++ [d])
      rw [ds_app] at X2
      have ho2 := up_ne (o := .lst (ds (m.lanes.getD x []) ++ ds [d])) ho1 (ne_of ho hqm (by intro z; cases z))
      refine ⟨_, rfl, .inl ⟨rfl, _, SqL.of hq1⟩, _, rfl, q, _, _, rfl, rfl, hq1, (by rw [ds_len]; exact small_lt (by omega)), ?_⟩
      refine ⟨_, rfl, q, _, rfl, .inl (SqL.of upd_same), _, rfl, (by show 2 ≤ sizeLine; decide), ?_⟩
      refine h.made (ap_mv e c) X2.yd ho2 (((Keep.of_same (Same.refl _)).put (by simp)).put (by simp [qm])) X2.there (fun q hq => .inl hq) ?_
      rw [res_with, List.length_append, ds_len]; rfl
    · refine if_t (decide_eq_true (by rw [rs_len, X.L.len]; omega)) ⟨_, rfl, (by show 1 ≤ sizeLine; decide), h.tell1 (ap_mv2 e c) _ (Same.refl _)⟩
theorem ap_dis {m : Kh433.Yard} (h : total m.lanes = 0) (h2 : ¬ m.lanes.length < Kh433.lanesNeeded m.incoming) : Kh433.apply m .distribute = (⟨[], spread m.lanes.length (Kh433.firstFitLanes m.incoming), m.departed⟩, Kh433.single (Kh433.lanesNeeded m.incoming)) := by
  show (if 0 < total m.lanes then _ else if m.lanes.length < Kh433.lanesNeeded m.incoming then _ else _) = _
  rw [if_neg (by omega), if_neg h2]; rfl
theorem ap_dis1 {m : Kh433.Yard} (h : 0 < total m.lanes) : Kh433.apply m .distribute = (m, Kh433.single (-17)) := by
  show (if 0 < total m.lanes then _ else _) = _
  rw [if_pos h]
theorem ap_dis2 {m : Kh433.Yard} (h : total m.lanes = 0) (h2 : m.lanes.length < Kh433.lanesNeeded m.incoming) : Kh433.apply m .distribute = (m, Kh433.single (-33)) := by
  show (if 0 < total m.lanes then _ else if m.lanes.length < Kh433.lanesNeeded m.incoming then _ else _) = _
  rw [if_neg (by omega), if_pos h2]
theorem sc_c4 : FnScope ["own", "numbers", "row", "found", "at", "lane"] ["own", "numbers", "row"] (defScope s_call_distribute) := ⟨rfl, rfl, rfl, by decide +kernel, rfl, by decide +kernel, by decide +kernel⟩
theorem ok_c4 {f C CH : Addr} {fd : FuncData} (F : FnP K "call_distribute" "call_distribute" s_call_distribute f fd) (T : Txt K mg) (Y : TxtY K C CH) (cF : Cal P w K mg base 2 "first_fit" (spFit K) []) (cIn : Met P w K mg base 1 C "in_lanes" (spIn C) []) : FnOk P w K mg base CX0 5 f fd ["own", "numbers", "row"] (spDeed C CH 4) := by
  refine okP F sc_c4 (fun vs H Q E h => deed_len h) (fun cdv A outer s H vs Q E hr h => ?_)
  obtain ⟨own, pn, pr, dx, y, dy, pi, pl, pd, ps, m, nums, row, h⟩ := deed_of h (by decide) (fun nums row k e => by cases e)
  obtain rfl := h.vs
  have nd := sc_c4.nd
  have ho := h.ho
  have X := h.X
  have g := h.good
  have hn := h.hn
  refine ⟨_, pss_cons (ps_if (pt_cmpR op_gt (pe_mt0 cIn hr (by decide) (pe_fld (pv 0) rfl) (by rfl)) pe_int (nomark _)) (pss_one (ps_ret (pe_lst (pa_cons (pe_un un_neg pe_int) pa_nil)))) pss_nil) (pss_cons (ps_set (i := 3) nd rfl (.inl rfl) (pe_c cF hr (by decide) rfl (pa_cons (pe_fld (pe_fld (pv 0) rfl) rfl) (pa_nil)))) (pss_cons (ps_if (pt_cmpR op_gt (pe_callB call_len_seq (by rfl) T.len PySem.boot_len (pa_cons (pv 3) pa_nil)) (pe_callB call_len_seq (by rfl) T.len PySem.boot_len (pa_cons (pe_fld (pe_fld (pv 0) rfl) rfl) pa_nil)) (nomark _)) (pss_one (ps_ret (pe_lst (pa_cons (pe_un un_neg pe_int) pa_nil)))) pss_nil) 
      (pss_cons (ps_for PassesOwn.never rfl (pi_enum rfl T.enumerate (pa_cons (pv 3) pa_nil)) (pg_tup rfl (pgs_cons (pg_name (i := 4) nd rfl (.inl rfl)) (pgs_cons (pg_name (i := 5) nd rfl (.inl rfl)) pgs_nil)))
        (pss_one (ps_expr (pe_bm PySem.F.plainAttrs_list PySem.F.slot_list_extend PySem.F.type_list_extend mt_extend (pe_ix ix_list (pe_fld (pe_fld (pv 0) rfl) rfl) (pv 4) (fun _ _ => rfl)) (pa_cons (pv 5) pa_nil)))))
      (pss_cons (ps_fld (pe_fld (pv 0) rfl) (pe_lst pa_nil) rfl) (pss_one (ps_ret (pe_lst (pa_cons (pe_callB call_len_seq (by rfl) T.len PySem.boot_len (pa_cons (pv 3) pa_nil)) pa_nil)))))))), ?_⟩
  have no_ : own ∉ pi :: pl :: pd :: ps := fun m => by
    obtain ⟨xs, e⟩ := X.yd.there own m
    rw [ho] at e; cases e
  have t3 := g.inc
  refine ⟨_, rfl, own, CH, dx, _, _, rfl, ho, Y.clH, Y.nY, hF_y, y, dy, _, rfl, X.hy, yF_in, y, _, m, rfl, X.yd, g.lan1, fun H1 s1 => ⟨_, _, rfl, rfl, _, rfl, ?_⟩⟩
  by_cases c : 0 < total m.lanes
  · refine if_t (decide_eq_true (by omega)) ⟨_, rfl, (by show 1 ≤ sizeLine; decide), h.tell1 (ap_dis1 c) _ s1⟩
  · have c0 : total m.lanes = 0 := by omega
    refine if_f (decide_eq_false (by omega)) ?_
    refine ⟨_, rfl, own, CH, dx, _, _, rfl, s1 _ _ ho, Y.clH, Y.nY, hF_y, y, C, dy, _, _, rfl, s1 _ _ X.hy, Y.cl, Y.nI, yF_i, pi, _, rfl, SqL.of (s1 _ _ X.hi), g.inc1, fun H2 p qs s2 hp fr M => ?_⟩
    have s12 := s1.trans s2
    have X2 := X.same s12
    have ho2 := s12 _ _ ho
    have lf : (rs qs).length = Kh433.lanesNeeded m.incoming := by rw [rs_len, M.len]; rfl
    refine ⟨_, rfl, p, _, rfl, .inl (SqL.of M.top), _, rfl, own, CH, dx, _, _, rfl, ho2, Y.clH, Y.nY, hF_y, y, C, dy, _, _, rfl, X2.hy, Y.cl, Y.nL, yF_l, pl, _, rfl, .inl (SqL.of X2.L.top), _, _, rfl, rfl, _, rfl, ?_⟩
    rw [lf, rs_len, X.L.len]
    by_cases c2 : m.lanes.length < Kh433.lanesNeeded m.incoming
    · refine if_t (decide_eq_true (by omega)) ⟨_, rfl, (by show 1 ≤ sizeLine; decide), h.tell1 (ap_dis2 c0 c2) _ s12⟩
    · refine if_f (decide_eq_false (by omega)) ?_
      have hle : (Kh433.firstFitLanes m.incoming).length ≤ m.lanes.length := by
        have : ¬ m.lanes.length < (Kh433.firstFitLanes m.incoming).length := c2
        omega
      have tf := ff_total m.incoming
      -- the addresses of found are none of the yard's
      have old : ∀ q ∈ pi :: pl :: pd :: ps, ∃ o, H1 q = some o := (X.same s1).there
      have pn_ : p ∉ ps := fun z => by
        obtain ⟨o, e⟩ := old p (by simp [z])
        rw [hp] at e; cases e
      have qn_ : ∀ q ∈ qs, q ∉ ps := fun q hq z => by
        obtain ⟨o, e⟩ := old q (by simp [z])
        rw [fr q hq] at e; cases e
      refine ⟨_, rfl, p, _, rfl, SqL.of M.top, for_enum (K := K) (a := p) (xs := rs qs) (fun i σ H' => ∃ v4 v5, σ = [some (.ref own), some (.ref pn), some (.ref pr), some (.ref p), v4, v5] ∧ Keep ps H2 H' ∧ Yx C H' y dy pi pl pd ps ⟨m.incoming, spread m.lanes.length ((Kh433.firstFitLanes m.incoming).take i), m.departed⟩ ∧ LL H' p qs (Kh433.firstFitLanes m.incoming) ∧ H' own = some (.ins CH dx (hF (.ref y))))
        ⟨none, none, rfl, Keep.of_same (Same.refl _), by rw [List.take_zero, spread_nil c0]; exact X2, M, ho2⟩ (fun i σ H' ⟨_, _, _, _, _, M', _⟩ => SqL.of M'.top) ?_ ?_⟩
      · rintro i v T0 σ H' hx ⟨v4, v5, rfl, k', X', M', ho'⟩ hT
        obtain ⟨q, hq, rfl⟩ := rs_get hx
        obtain ⟨l, hl, hlq⟩ := M'.get' hq
        have hin : i < m.lanes.length := Nat.lt_of_lt_of_le (get_lt hl) hle
        obtain ⟨sp1, sp2⟩ := spread_step hin hl
        obtain ⟨z, hz, hzm⟩ := X'.L.get sp2
        have zm := List.mem_of_getElem? hz
        have sT : Same H' (upd H' T0 (.tup [nv i, .ref q])) := same_new hT
        have XT := X'.same sT
        have hoT := sT _ _ ho'
        have hzT := sT _ _ hzm
        have lt := mem_total (List.mem_of_getElem? hl)
        refine ⟨_, rfl, own, CH, dx, _, _, rfl, hoT, Y.clH, Y.nY, hF_y, y, C, dy, _, _, rfl, XT.hy, Y.cl, Y.nL, yF_l, _, rfl, pl, _, _, _, rfl, rfl, SqL.of XT.L.top, atI_nat (rs_at hz), .inl ⟨rfl, _, SqL.of hzT⟩, _, rfl, z, q, _, _, rfl, rfl, hzT, sT _ _ hlq, (by rw [ds_len, ds_len]; exact small_le (by simp; omega)), ?_⟩
        have X3 := XT.putQ hz l
        refine ⟨_, _, rfl, ((k'.trans (Keep.of_same sT))).put zm, ?_, ?_, up_ne hoT (ne_of hoT hzT (by intro z; cases z))⟩
        · rw [sp1]; exact X3
        · exact (M'.same sT).keep (F := [z]) ((Keep.of_same (Same.refl _)).put (by simp)) (by
            intro e
            exact pn_ (by rw [List.mem_singleton.mp e]; exact zm)) (fun q hq e => qn_ q hq (by rw [List.mem_singleton.mp e]; exact zm))
      · rintro σ H' ⟨v4, v5, rfl, k', X', M', ho'⟩
        rw [rs_len, M.len, List.take_length] at X'
        refine ⟨Nat.zero_le _, fun pz hpz => ?_⟩
        have sZ : Same H' (upd H' pz (.lst [])) := same_new hpz
        have XZ := X'.same sZ
        have hoZ := sZ _ _ ho'
        have MZ := M'.same sZ
        refine ⟨_, rfl, own, CH, dx, _, _, rfl, hoZ, Y.clH, Y.nY, hF_y, y, C, dy, _, rfl, XZ.hy, Y.cl, Y.nI, (by show 3 < 1000; decide), ?_⟩
        rw [yF_put]
        have kH : Keep ps H H' := (Keep.of_same s12).trans k'
        have yl : ∀ {b : Addr} {xs : List V}, upd H' pz (.lst []) b = some (.lst xs) → b ≠ y := fun e => ne_of e XZ.hy (by intro z; cases z)
        have nz : ∀ q ∈ pi :: pl :: pd :: ps, q ≠ pz := fun q hq => by
          obtain ⟨o, e⟩ := X'.there q hq
          exact ne_of_none e hpz
        have hzH : H pz = none := free_of kH (fun q hq => X'.there q (by simp [hq])) hpz
        have yo : own ≠ y := fun z => by
          have a := ho
          have b := X.hy
          rw [z, b] at a
          have a := Option.some.inj a
          injection a with _ _ a
          have a := congrArg List.length a
          exact absurd a (by show ¬ 3 = 1; decide)
        obtain ⟨n1, n2, n3, n4, n5, n6, n7⟩ := nd3 X.nn
        refine ⟨_, rfl, p, _, rfl, .inl (SqL.of (up_ne MZ.top (yl MZ.top))), (by show 1 ≤ sizeLine; decide), ?_⟩
        refine h.made (ap_dis c0 c2) (fp' := pz :: pl :: pd :: ps) ⟨dy, pz, pl, pd, ps, rfl, upd_same, ?_, ?_, up_ne XZ.hd (yl XZ.hd), ?_⟩ (up_ne hoZ yo) ?_ (fun q hq => ?_) (fun q hq => ?_) ?_
        · have z0 : upd H' pz (.lst []) pz = some (.lst (ds [])) := upd_same
          exact up_ne z0 (yl z0)
        · exact XZ.L.keep (F := [y]) ((Keep.of_same (Same.refl _)).put (by simp)) (by
            intro e
            exact yl XZ.L.top (List.mem_singleton.mp e)) (fun q hq e => by
            obtain ⟨i, hi⟩ := List.mem_iff_getElem?.mp hq
            obtain ⟨l, _, a⟩ := XZ.L.get' hi
            exact yl a (List.mem_singleton.mp e))
        · refine List.nodup_cons.mpr ⟨fun z => ?_, (List.nodup_cons.mp X.nn).2⟩
          exact nz pz (List.mem_cons_of_mem _ z) rfl
        · exact ((kH.mono (fun q hq => by simp [hq])).trans (Keep.of_same sZ)).put (by simp)
        · exact there_upd (there_upd (X'.there q hq))
        · rcases List.mem_cons.mp hq with rfl | hq
          · exact .inr hzH
          · exact .inl (List.mem_cons_of_mem _ hq)
        · rw [res_one, lf]
theorem sc_c0 : FnScope ["own", "numbers", "row"] ["own", "numbers", "row"] (defScope s_call_create) := ⟨rfl, rfl, rfl, by decide +kernel, rfl, by decide +kernel, by decide +kernel⟩
theorem own_is {C CH : Addr} {H : Hp} {own : Addr} {fp : List Addr} {s : Option Kh433.Yard} (h : OwAt C CH H own fp s) : ∃ dx v, H own = some (.ins CH dx (hF v)) := by
  cases s with
  | none => exact ⟨_, _, h.2.choose_spec⟩
  | some m =>
    obtain ⟨dx, y, fq, _, h2, _⟩ := h
    exact ⟨_, _, h2⟩
theorem ex_cr0 (s : Option Kh433.Yard) {x : Nat} (row : List Nat) (h : x < 1 ∨ 4 < x) : exec s 0 [x] row = (s, [-22]) := by
  have e : Kh433.execute s (.create x) = (s, Kh433.single (-22)) := by
    unfold Kh433.execute
    simp only
    exact if_pos h
  unfold exec
  show (let r := Kh433.execute s (.create x); (r.1, r.2.status :: r.2.values)) = _
  rw [e]; rfl
theorem ex_cr (s : Option Kh433.Yard) {x : Nat} (row : List Nat) (h : ¬ (x < 1 ∨ 4 < x)) : exec s 0 [x] row = (some ⟨[], List.replicate x [], []⟩, [0]) := by
  have e : Kh433.execute s (.create x) = (some ⟨[], List.replicate x [], []⟩, Kh433.single 0) := by
    unfold Kh433.execute
    simp only
    exact if_neg h
  unfold exec
  show (let r := Kh433.execute s (.create x); (r.1, r.2.status :: r.2.values)) = _
  rw [e]; rfl
theorem ok_c0 {f C CH : Addr} {fd : FuncData} (F : FnP K "call_create" "call_create" s_call_create f fd) (T : Txt K mg) (Y : TxtY K C CH) (mak : C8.Mak P w K mg base 1 "Yard" C (spYInit C) []) : FnOk P w K mg base CX0 5 f fd ["own", "numbers", "row"] (spDeed C CH 0) := by
  refine okP F sc_c0 (fun vs H Q E h => deed_len h) (fun cdv A outer s H vs Q E hr h => ?_)
  obtain ⟨own, pn, pr, fp, s, nums, row, n, rfl, hO, hs, hn, hrw, good, hn1, one, hrow, k⟩ := h
  obtain ⟨x, rfl⟩ := one (by decide)
  obtain ⟨tk, hk⟩ := T.mLanes
  obtain ⟨dx, v, ho⟩ := own_is hO
  have th := hO.there
  have nd := sc_c0.nd
  refine ⟨_, pss_cons (ps_if (pt_not (pt_chain op_le op_le pe_int (pe_ix ix_list (pv 1) pe_int (fun _ _ => rfl)) (pe_glob (v := .int 4) rfl hk ⟨_, rfl⟩))) (pss_one (ps_ret (pe_lst (pa_cons (pe_un un_neg pe_int) pa_nil)))) pss_nil) (pss_cons (ps_fld (pv 0) (C8.pe_mk mak hr (by decide) rfl (pa_cons (pe_ix ix_list (pv 1) pe_int (fun _ _ => rfl)) pa_nil)) rfl) (pss_one (ps_ret (pe_lst (pa_cons pe_int pa_nil))))), ?_⟩
  refine ⟨_, rfl, pn, _, _, _, rfl, rfl, SqL.of hn, at_zero x [], _, _, rfl, rfl, _, rfl, ?_⟩
  have bad : (x < 1 ∨ 4 < x) → ∀ p, H p = none → Q (.ref p) (upd H p (.lst [.int (-22)])) := fun hb p hp => by
    rw [ex_cr0 s row hb] at k
    refine k _ fp p (hO.same (same_new hp)) (Keep.of_same (same_new hp)) (fun q hq => .inl hq) hp ?_
    rw [upd_same]; rfl
  by_cases c1 : 1 ≤ x
  · refine if_t (decide_eq_true (by omega)) ?_
    refine ⟨_, _, rfl, rfl, _, rfl, ?_⟩
    by_cases c2 : x ≤ 4
    · refine if_f (by rw [decide_eq_true (by omega)]; rfl) ?_
      refine ⟨_, rfl, pn, _, _, _, rfl, rfl, SqL.of hn, at_zero x [], fun y dy h1 h2 hne => ?_⟩
      have sG : Same H (upd (upd H dy (.own y)) y (.ins C dy [])) := (same_new h2).new1 (by rw [upd_ne hne.symm]; exact h1)
      refine ⟨y, dy, x, rfl, upd_same, by omega, fun H' fq Yq frq kq => ⟨rfl, ?_⟩⟩
      have fq0 : ∀ q ∈ fq, H q = none := fun q hq => sG.free (frq q hq)
      have kH : ∀ (b : Addr) (o : HO), H b = some o → H' b = some o := fun b o e => kq b o (sG b o e) (by
        intro z
        rw [List.mem_singleton.mp z, h1] at e; cases e)
      have ho' := kH _ _ ho
      refine ⟨_, rfl, own, CH, dx, _, rfl, ho', Y.clH, Y.nY, (by show 1 < 1000; decide), ?_⟩
      rw [hF_put]
      have oy : y ≠ own := fun z => by rw [z, ho] at h1; cases h1
      have kO : Keep [own] H (upd H' own (.ins CH dx (hF (.ref y)))) := fun b o e nb => by
        rw [upd_ne (by simpa using nb)]
        exact kH b o e
      refine ⟨(by show 1 ≤ sizeLine; decide), fun p hp => ?_⟩
      have sP : Same (upd H' own (.ins CH dx (hF (.ref y)))) (upd (upd H' own (.ins CH dx (hF (.ref y)))) p (.lst [.int 0])) := same_new hp
      rw [ex_cr s row (by omega)] at k
      refine k _ (y :: fq) p ⟨dx, y, fq, rfl, sP _ _ upd_same, ?_⟩ ((kO.trans (Keep.of_same sP)).mono (by simp)) (fun q hq => .inr ?_) (free_of kO (fun q hq => ?_) hp) ?_
      · refine (Yq.keep (F := [own]) ((Keep.of_same (Same.refl _)).put (by simp)) (by simpa using oy) (fun q hq e => ?_)).same sP
        rw [List.mem_singleton.mp e] at hq
        rw [fq0 own hq] at ho; cases ho
      · rcases List.mem_cons.mp hq with rfl | hq
        · exact h1
        · exact fq0 q hq
      · rw [List.mem_singleton.mp hq]; exact ⟨_, upd_same⟩
      · rw [upd_same]; rfl
    · refine if_t (by rw [decide_eq_false (by omega)]; rfl) ⟨_, rfl, (by show 1 ≤ sizeLine; decide), bad (.inr (by omega))⟩
  · refine if_f (decide_eq_false (by omega)) ⟨_, rfl, _, rfl, (by show 1 ≤ sizeLine; decide), bad (.inl (by omega))⟩
end
end Trl

set_option Elab.async false
set_option linter.all false
set_option maxRecDepth 100000
set_option maxHeartbeats 4000000
namespace Trl
open PySem PySem.Spec PyProof.Rows L2
open C8 (Cal pe_c pe_gc Met pe_mt pe_mt0)
section
variable {P : Program} {w : World} {K : PySem.W.Frag} {mg : Str → Option Value} {base : Heap}

/-! ### answered -/
structure DeedAt (P : Program) (w : World) (K : PySem.W.Frag) (mg : Str → Option Value) (base : Heap) (C CH : Addr) (d : Nat) : Prop where
  ex : ∃ (f : Addr) (fd : FuncData), (deeds K).find? (fun p => decide (p.1 = (d : Int))) = some ((d : Int), f) ∧ FnOk P w K mg base CX0 5 f fd ["own", "numbers", "row"] (spDeed C CH d) ∧ PySem.W.keepIn K (.ref f) = true ∧ Binds K fd ["own", "numbers", "row"] []
theorem not_create {d : Nat} (h : d ≠ 0) (nums row : List Nat) : ∀ k, callOf d nums row ≠ .create k := by
  intro k e
  unfold callOf at e
  split at e <;> first | exact h rfl | cases e
theorem exec_none {d : Nat} (h : d ≠ 0) (nums row : List Nat) : exec none d nums row = (none, [-61]) := by
  have z := not_create h nums row
  unfold exec
  generalize callOf d nums row = c at z
  cases c with
  | create k => exact (z k rfl).elim
  | _ => rfl
def spAnswered (C CH : Addr) : Sp := fun vs H Q _ => ∃ (own pn pr : Addr) (fp : List Addr) (s : Option Kh433.Yard) (d : Nat) (nums row : List Nat) (n : Nat), vs = [.ref own, nv d, .ref pn, .ref pr] ∧ d ≤ 23 ∧ OwAt C CH H own fp s ∧
  H pn = some (.lst (ds nums)) ∧ H pr = some (.lst (ds row)) ∧ (∀ m, s = some m → Good n m) ∧ n ≤ 1000 ∧ (withNumber d = true → ∃ x, nums = [x]) ∧ row.length ≤ 1000 ∧
  ∀ H' fp' p, OwAt C CH H' own fp' (exec s d nums row).1 → Keep (own :: fp) H H' → (∀ q ∈ fp', q ∈ fp ∨ H q = none) → H p = none → H' p = some (.lst ((exec s d nums row).2.map V.int)) → Q (.ref p) H'
theorem sc_answered : FnScope ["own", "deed", "numbers", "row", "do_it"] ["own", "deed", "numbers", "row"] (defScope s_answered) := ⟨rfl, rfl, rfl, by decide +kernel, rfl, by decide +kernel, by decide +kernel⟩
theorem ok_answered {f C CH : Addr} {fd : FuncData} (F : FnP K "answered" "answered" s_answered f fd) (T : Txt K mg) (Y : TxtY K C CH) (hD : mg "DEEDS" = some (.ref (He.ga K "DEEDS"))) (hI : IDict K (He.ga K "DEEDS") (deeds K)) (all : ∀ d, d ≤ 23 → DeedAt P w K mg base C CH d) :
    FnOk P w K mg base CX0 6 f fd ["own", "deed", "numbers", "row"] (spAnswered C CH) := by
  refine okP F sc_answered (fun vs H Q E h => ?_) (fun cdv A outer s H vs Q E hr h => ?_)
  · obtain ⟨own, pn, pr, fp, s, d, nums, row, n, rfl, _⟩ := h
    rfl
  obtain ⟨own, pn, pr, fp, s, d, nums, row, n, rfl, hd, hO, hn, hrw, good, hn1, one, hrow, k⟩ := h
  obtain ⟨f5, fd5, find, F5, kp5, b5⟩ := (all d hd).ex
  have nd := sc_answered.nd
  refine ⟨_, pss_cons (ps_if (PW.pt (pw_and (pt_cmpR op_isN (pe_fld (pv 0) rfl) pe_non (nomark _)) (pw_and1 (pt_cmpR op_gt (pv 1) pe_int (nomark _))))) (pss_one (ps_ret (pe_lst (pa_cons (pe_un un_neg pe_int) pa_nil)))) pss_nil)
    (pss_cons (ps_set (i := 4) nd rfl (.inl rfl) (pe_ix (ix_idict (ps := deeds K)) (pe_glob (v := .ref (He.ga K "DEEDS")) rfl hD rfl) (pv 1) (fun _ _ => rfl)))
    (pss_one (ps_ret (L2.pe_callL (i := 4) (E := fun _ _ _ => False) F5 hr rfl (.inl rfl) kp5 b5 .nil (fun _ _ _ _ _ _ _ z => z.elim) (pa_cons (pv 0) (pa_cons (pv 2) (pa_cons (pv 3) pa_nil))))))), ?_⟩
  cases s with
  | none =>
    obtain ⟨e0, dx, ho⟩ := hO
    refine ⟨_, rfl, own, CH, dx, _, _, rfl, ho, Y.clH, Y.nY, hF_y, rfl, _, rfl, ?_⟩
    refine if_t rfl ?_
    refine ⟨_, rfl, _, _, rfl, rfl, _, rfl, ?_⟩
    by_cases c : d = 0
    · refine if_f (decide_eq_false (by omega)) ?_
      exact ⟨_, rfl, _, _, f5, rfl, rfl, hI, find, rfl, _, rfl, _, rfl, _, rfl, own, pn, pr, fp, none, nums, row, n, rfl, ⟨e0, dx, ho⟩, (fun z => (z c).elim), hn, hrw, good, hn1, one, hrow, k⟩
    · refine if_t (decide_eq_true (by omega)) ?_
      refine ⟨_, rfl, (by show 1 ≤ sizeLine; decide), fun p hp => ?_⟩
      rw [exec_none c] at k
      exact k _ fp p (OwAt.same (s := none) ⟨e0, dx, ho⟩ (same_new hp)) (Keep.of_same (same_new hp)) (fun q hq => .inl hq) hp upd_same
  | some m =>
    obtain ⟨dx, y, fq, e0, ho, hY⟩ := hO
    refine ⟨_, rfl, own, CH, dx, _, _, rfl, ho, Y.clH, Y.nY, hF_y, rfl, _, rfl, ?_⟩
    refine if_f rfl ?_
    exact ⟨_, rfl, _, _, f5, rfl, rfl, hI, find, rfl, _, rfl, _, rfl, _, rfl, own, pn, pr, fp, some m, nums, row, n, rfl, ⟨dx, y, fq, e0, ho, hY⟩, (fun _ z => by cases z), hn, hrw, good, hn1, one, hrow, k⟩
/-! ### answers -/
theorem OwAt.keep {C CH : Addr} {H H' : Hp} {own : Addr} {fp : List Addr} {s : Option Kh433.Yard} (h : OwAt C CH H own fp s) {F : List Addr} (k : Keep F H H') (ho : own ∉ F) (hf : ∀ q ∈ fp, q ∉ F) : OwAt C CH H' own fp s := by
  cases s with
  | none =>
    obtain ⟨h1, dx, h2⟩ := h
    exact ⟨h1, dx, k _ _ h2 ho⟩
  | some m =>
    obtain ⟨dx, y, fq, rfl, h2, h3⟩ := h
    exact ⟨dx, y, fq, rfl, k _ _ h2 ho, h3.keep k (hf _ (by simp)) (fun q hq => hf q (by simp [hq]))⟩
theorem inV_with (d : Nat) : inV (nv d) (withs.map (He.Dv.v K)) = withNumber d := by
  have e : ∀ (j : Nat), eqV (nv j) (nv d) = decide (d = j) := fun j => by
    show ((j : Int) == (d : Int)) = _
    rw [Bool.eq_iff_iff, decide_eq_true_iff, beq_iff_eq]
    omega
  unfold inV withNumber
  show List.any [nv 0, nv 1, nv 3, nv 5, nv 16, nv 17, nv 18, nv 21] _ = _
  simp [List.any_cons, e]
end
end Trl

set_option Elab.async false
set_option linter.all false
set_option maxRecDepth 100000
set_option maxHeartbeats 4000000
namespace Trl
open PySem PySem.Spec PyProof.Rows L2
open C8 (Cal pe_c pe_gc Met pe_mt pe_mt0)
section
variable {P : Program} {w : World} {K : PySem.W.Frag} {mg : Str → Option Value} {base : Heap}

/-! ### what answers reads of the list -/
theorem behind_is {σ : L2.St} {H : Hp} {Q : VK} {i d b : Nat} (h3 : σ[3]? = some (some (nv i))) (h4 : σ[4]? = some (some (nv d))) (hW : He.tupB K "WITH_NUMBER" withs = true) (hb : b = i + 1 + if withNumber d = true then 1 else 0) (q : Q (nv b) H) :
    tOp (rI0 fun i j => .int (i + j)) (tOp (rI0 fun i j => .int (i + j)) (tVar 3) (tC (.int 1))) (tIf (tTest (tOp (rIn K false) (tVar 4) (tC (.ref (He.ga K "WITH_NUMBER"))))) (tC (.int 1)) (tC (.int 0))) σ H Q := by
  refine ⟨_, h3, _, _, rfl, rfl, _, h4, _, _, rfl, .inr (He.tupB_ok hW H), rfl, rfl, _, rfl, ?_⟩
  have e := inV_with (K := K) d
  show if inV (nv d) (withs.map (He.Dv.v K)) = true then _ else _
  rw [e]
  cases c : withNumber d with
  | true =>
    refine if_t rfl ⟨_, _, rfl, rfl, ?_⟩
    rw [c, if_pos rfl] at hb
    subst hb
    exact q
  | false =>
    refine if_f rfl ⟨_, _, rfl, rfl, ?_⟩
    rw [c, if_neg Bool.false_ne_true] at hb
    subst hb
    exact q
theorem cut_is (us : List Nat) (i b : Nat) : cutV (ds us) (some (i : Int)) (some (b : Int)) = ds ((us.drop i).take (b - i)) := by
  rw [cut_mid, ds_take, ds_drop]
theorem cut_nums {σ : L2.St} {H : Hp} {Q : VK} {a : Addr} {us : List Nat} {i b : Nat} (hS : SqL K H a (ds us)) (h0 : σ[0]? = some (some (.ref a))) (h3 : σ[3]? = some (some (nv i))) (h5 : σ[5]? = some (some (nv b)))
    (q : ∀ p, H p = none → Q (.ref p) (upd H p (.lst (ds ((us.drop (i + 1)).take (b - (i + 1))))))) :
    tSl (rSlL K) (tVar 0) (tPart (tOp (rI0 fun i j => .int (i + j)) (tVar 3) (tC (.int 1)))) (tPart (tVar 5)) σ H Q := by
  refine ⟨_, h0, _, h3, _, _, rfl, rfl, _, rfl, _, h5, _, rfl, a, _, rfl, hS, fun p hp => ?_⟩
  have e := cut_is us (i + 1) b
  have e2 : cutV (ds us) (some ((i : Int) + 1)) (some (b : Int)) = ds ((us.drop (i + 1)).take (b - (i + 1))) := e
  rw [e2]
  exact q p hp
theorem cut_row {σ : L2.St} {H : Hp} {Q : VK} {a : Addr} {us : List Nat} {many b : Nat} (hS : SqL K H a (ds us)) (h0 : σ[0]? = some (some (.ref a))) (h5 : σ[5]? = some (some (nv b))) (h8 : σ[8]? = some (some (nv many)))
    (q : ∀ p, H p = none → Q (.ref p) (upd H p (.lst (ds ((us.drop (b + 1)).take many))))) :
    tSl (rSlL K) (tVar 0) (tPart (tOp (rI0 fun i j => .int (i + j)) (tVar 5) (tC (.int 1)))) (tPart (tOp (rI0 fun i j => .int (i + j)) (tOp (rI0 fun i j => .int (i + j)) (tVar 5) (tC (.int 1))) (tVar 8))) σ H Q := by
  refine ⟨_, h0, _, h5, _, _, rfl, rfl, _, rfl, _, h5, _, _, rfl, rfl, _, h8, _, _, rfl, rfl, _, rfl, a, _, rfl, hS, fun p hp => ?_⟩
  have e := cut_is us (b + 1) (b + 1 + many)
  rw [show b + 1 + many - (b + 1) = many by omega] at e
  have e2 : cutV (ds us) (some ((b : Int) + 1)) (some ((b : Int) + 1 + (many : Int))) = ds ((us.drop (b + 1)).take many) := e
  rw [e2]
  exact q p hp
theorem behind_row {σ : L2.St} {H : Hp} {Q : VK} {many b : Nat} (h5 : σ[5]? = some (some (nv b))) (h8 : σ[8]? = some (some (nv many))) (q : Q (nv (b + 1 + many)) H) :
    tOp (rI0 fun i j => .int (i + j)) (tOp (rI0 fun i j => .int (i + j)) (tVar 5) (tC (.int 1))) (tVar 8) σ H Q :=
  ⟨_, h5, _, _, rfl, rfl, _, h8, _, _, rfl, rfl, q⟩
/-! ### the loop -/
structure Iv (C CH : Addr) (H0 : Hp) (own pf : Addr) (us : List Nat) (tot : List Int) (i : Nat) (H : Hp) (fp : List Addr) (s : Option Kh433.Yard) (n : Nat) (found : List Int) (raw : List (List (List Int))) (f : Nat) : Prop where
  at_ : OwAt C CH H own fp s
  hf : H pf = some (.lst (found.map V.int))
  same : Same H0 H
  fr : ∀ q ∈ own :: fp, H0 q = none
  frf : H0 pf = none
  nf : pf ∉ own :: fp
  raws : PyFlat.calls PyKh433.shape f ((zs us).drop i) = some raw
  tot_ : tot = found ++ PyFlat.told (PyFlat.played Kh433Neutral.step s raw)
  few : n + raw.length ≤ 60
  good : ∀ m, s = some m → Good n m
  le : i ≤ us.length
theorem Iv.next {C CH : Addr} {H0 : Hp} {own pf : Addr} {us : List Nat} {tot : List Int} {i : Nat} {H : Hp} {fp : List Addr} {s : Option Kh433.Yard} {n : Nat} {found : List Int} {raw : List (List (List Int))} {f : Nat} (I : Iv C CH H0 own pf us tot i H fp s n found raw f)
    {d : Nat} {nums row : List Nat} {j : Nat} {c : List (List Int)} {cs : List (List (List Int))} {f' : Nat} (R : Read us i d nums row j) (er : raw = c :: cs) (ed : Kh433Neutral.decodeCall c = callOf d nums row) (ec : PyFlat.calls PyKh433.shape f' ((zs us).drop j) = some cs)
    {H1 H2 H4 : Hp} {fp' : List Addr} (s1 : Same H H1) (O : OwAt C CH H2 own fp' (exec s d nums row).1) (k : Keep (own :: fp) H1 H2) (fr' : ∀ q ∈ fp', q ∈ fp ∨ H1 q = none)
    (hx : H4 = upd (upd H2 pf (.lst (found.map V.int ++ [.int ((exec s d nums row).2.length : Nat)]))) pf (.lst (found.map V.int ++ [.int ((exec s d nums row).2.length : Nat)] ++ (exec s d nums row).2.map V.int))) :
    Iv C CH H0 own pf us tot j H4 fp' (exec s d nums row).1 (n + 1) (found ++ (((exec s d nums row).2.length : Int) :: (exec s d nums row).2)) cs f' := by
  have hf1 := s1 _ _ I.hf
  have nf' : pf ∉ own :: fp' := fun m => by
    rcases List.mem_cons.mp m with z | z
    · exact I.nf (by rw [z]; simp)
    · rcases fr' pf z with y | y
      · exact I.nf (List.mem_cons_of_mem _ y)
      · rw [hf1] at y; cases y
  have k4 : Keep [pf] H2 H4 := by
    rw [hx]; exact ((Keep.of_same (Same.refl _)).put (by simp)).put (by simp)
  have few := I.few
  rw [er, List.length_cons] at few
  refine ⟨O.keep k4 (fun z => nf' (by rw [List.mem_singleton.mp z]; simp)) (fun q hq z => nf' (by rw [← List.mem_singleton.mp z]; exact List.mem_cons_of_mem _ hq)), ?_, ?_, ?_, I.frf, nf', ec, ?_, by omega, good_exec I.good, R.le⟩
  · rw [hx, upd_same]
    simp
  · intro b o e
    have e1 := s1 _ _ (I.same _ _ e)
    have e2 := k b o e1 (fun z => by
      rw [I.fr b z] at e; cases e)
    refine k4 b o e2 (fun z => ?_)
    rw [List.mem_singleton.mp z, I.frf] at e; cases e
  · intro q hq
    rcases List.mem_cons.mp hq with z | z
    · rw [z]; exact I.fr own (by simp)
    · rcases fr' q z with y | y
      · exact I.fr q (List.mem_cons_of_mem _ y)
      · exact (I.same.trans s1).free y
  · rw [I.tot_, er, told_cons s c cs ed, List.append_assoc]
def spAnswers (K : PySem.W.Frag) : Sp := fun vs H Q _ => ∃ (a : Addr) (ns : List Int), vs = [.ref a] ∧ SqL K H a (ns.map V.int) ∧ (∀ n ∈ ns, 0 ≤ n ∧ n ≤ 2147483647) ∧ ns.length ≤ 600 ∧ PyKh433.answers_asked ns = true ∧
  ∀ (H' : Hp) (p : Addr), H' p = some (.lst ((PyKh433.answers ns).map V.int)) → Q (.ref p) H'
theorem zs_of : ∀ {ns : List Int}, (∀ n ∈ ns, 0 ≤ n) → zs (ns.map Int.toNat) = ns
  | [], _ => rfl
  | a :: r, h => by
    have ih := zs_of (ns := r) (fun n m => h n (by simp [m]))
    have ha := h a (by simp)
    show Int.ofNat a.toNat :: zs (r.map Int.toNat) = _
    rw [ih]
    have : Int.ofNat a.toNat = a := Int.toNat_of_nonneg ha
    rw [this]
theorem sc_answers : FnScope ["calls", "own", "found", "at", "deed", "behind", "numbers", "row", "many", "told"] ["calls"] (defScope s_answers) := ⟨rfl, rfl, rfl, by decide +kernel, rfl, by decide +kernel, by decide +kernel⟩
theorem ok_answers {f C CH : Addr} {fd : FuncData} (F : FnP K "answers" "answers" s_answers f fd) (T : Txt K mg) (mkH : C8.Mak P w K mg base 1 "Holder" CH (spHInit CH) []) (cD : Cal P w K mg base 6 "answered" (spAnswered C CH) []) (hWm : mg "WITH_NUMBER" = some (.ref (He.ga K "WITH_NUMBER"))) (hW : He.tupB K "WITH_NUMBER" withs = true) :
    FnOk P w K mg base CX0 8 f fd ["calls"] (spAnswers K) := by
  refine okP F sc_answers (fun vs H Q E h => ?_) (fun cdv A outer s H vs Q E hr h => ?_)
  · obtain ⟨a, ns, rfl, _⟩ := h
    rfl
  obtain ⟨a, ns, rfl, hS, hpos, hlen, hask, k⟩ := h
  obtain ⟨raw0, c0, few0, small, etot⟩ := asked_ hask
  have nd := sc_answers.nd
  have ez : zs (ns.map Int.toNat) = ns := zs_of (fun n hn => (hpos n hn).1)
  generalize hus : ns.map Int.toNat = us at ez
  have hul : us.length ≤ 600 := by rw [← hus, List.length_map]; exact hlen
  have hSu : SqL K H a (ds us) := by
    have e : ns.map V.int = ds us := by rw [← ez]; unfold zs ds; rw [List.map_map]; rfl
    rw [← e]; exact hS
  rw [show ns = (zs us).drop 0 by rw [ez]; rfl] at c0
  generalize hlf : ((zs us).drop 0).length = f0 at c0
  generalize htot : PyKh433.answers ns = tot at small etot k
  obtain ⟨fH, fdH, psH, dsH, MH, FH, hmH, bH, dvH⟩ := mkH.ex
  refine ⟨_, pss_cons (ps_set (i := 1) nd rfl (.inl rfl) (L2.pe_make0 MH FH (hr.mono (by decide)) rfl hmH bH dvH pass0))
    (pss_cons (ps_set (i := 2) nd rfl (.inl rfl) (pe_lst pa_nil))
    (pss_cons (ps_set (i := 3) nd rfl (.inl rfl) pe_int)
    (pss_cons (ps_while PassesOwn.never (pt_cmpR op_lt (pv 3) (pe_callB call_len_seq (by rfl) T.len PySem.boot_len (pa_cons (pv 0) pa_nil)) (nomark _)) (pss_cons (ps_set (i := 4) nd rfl (.inl rfl) (pe_ix ix_list (pv 0) (pv 3) (fun _ _ => rfl)))
    (pss_cons (ps_set (i := 5) nd rfl (.inl rfl) (pe_op op_add (pe_op op_add (pv 3) pe_int) (pe_ifExp (pt_cmpR op_in_seq (pv 4) (pe_glob (v := .ref (He.ga K "WITH_NUMBER")) rfl hWm rfl) rfl) pe_int pe_int)))
    (pss_cons (ps_set (i := 6) nd rfl (.inl rfl) (pe_slice sl_list (pv 0) (po_some (pe_op op_add (pv 3) pe_int)) (po_some (pv 5))))
    (pss_cons (ps_set (i := 7) nd rfl (.inl rfl) (pe_lst pa_nil))
    (pss_cons (ps_if (pt_cmpR op_eq (pv 4) pe_int (nomark _))
      (pss_cons (ps_set (i := 8) nd rfl (.inl rfl) (pe_ix ix_list (pv 0) (pv 5) (fun _ _ => rfl)))
      (pss_cons (ps_set (i := 7) nd rfl (.inl rfl) (pe_slice sl_list (pv 0) (po_some (pe_op op_add (pv 5) pe_int)) (po_some (pe_op op_add (pe_op op_add (pv 5) pe_int) (pv 8)))))
      (pss_one (ps_set (i := 5) nd rfl (.inl rfl) (pe_op op_add (pe_op op_add (pv 5) pe_int) (pv 8)))))) pss_nil)
    (pss_cons (ps_set (i := 9) nd rfl (.inl rfl) (pe_c cD hr (by decide) rfl (pa_cons (pv 1) (pa_cons (pv 4) (pa_cons (pv 6) (pa_cons (pv 7) (pa_nil)))))))
    (pss_cons (ps_expr (pe_bm PySem.F.plainAttrs_list PySem.F.slot_list_append PySem.F.type_list_append mt_append (pv 2) (pa_cons (pe_callB call_len_seq (by rfl) T.len PySem.boot_len (pa_cons (pv 9) pa_nil)) pa_nil)))  (pss_cons (ps_expr (pe_bm PySem.F.plainAttrs_list PySem.F.slot_list_extend PySem.F.type_list_extend mt_extend (pv 2) (pa_cons (pv 9) pa_nil))) 
    (pss_one (ps_set (i := 3) nd rfl (.inl rfl) (pv 5))))))))))))
    (pss_one (ps_ret (pv 2)))))), ?_⟩
  intro own dx ho hdx hne
  have s1 : Same H (upd (upd H dx (.own own)) own (.ins CH dx [])) := (same_new hdx).new1 (by rw [upd_ne hne.symm]; exact ho)
  refine ⟨own, dx, rfl, upd_same, fun H1 ho1 k1 => ⟨rfl, ?_⟩⟩
  have s2 : Same H H1 := fun b o e => k1 b o (s1 b o e) (fun z => by
    rw [List.mem_singleton.mp z, ho] at e; cases e)
  refine ⟨Nat.zero_le _, fun pf hf => ?_⟩
  have s3 : Same H (upd H1 pf (.lst [])) := s2.new1 hf
  have no : pf ≠ own := (ne_of_none ho1 hf).symm
  refine ⟨fun m σ H' => ∃ (i : Nat) (v4 v5 v6 v7 v8 v9 : Option V) (fp : List Addr) (s : Option Kh433.Yard) (n : Nat) (found : List Int) (raw : List (List (List Int))) (f : Nat), σ = [some (.ref a), some (.ref own), some (.ref pf), some (nv i), v4, v5, v6, v7, v8, v9] ∧ m = us.length - i ∧ Iv C CH H own pf us tot i H' fp s n found raw f,
    ⟨_, 0, none, none, none, none, none, none, [], none, 0, [], raw0, f0, rfl, rfl, ⟨⟨rfl, dx, up_ne ho1 no.symm⟩, upd_same, s3, by simpa using ho, s2.free hf, by simpa using no, c0, by rw [etot]; rfl, by omega, fun m e => by (cases e), Nat.zero_le _⟩⟩, ?_⟩
  rintro m σ H' ⟨i, v4, v5, v6, v7, v8, v9, fp, s, n, found, raw, f, rfl, rfl, I⟩
  have hSi := I.same.seq hSu
  refine ⟨_, rfl, _, rfl, a, _, rfl, .inl hSi, _, _, rfl, rfl, _, rfl, ?_⟩
  rw [ds_len]
  by_cases hi : i < us.length
  · refine if_t (decide_eq_true (by omega)) ?_
    obtain ⟨d, nums, row, j, c, cs, f', R, er, ed, ec⟩ := next_call hi I.raws
    refine ⟨fun σ' H' => ∃ (j : Nat) (v4 v5 v6 v7 v8 v9 : Option V) (fp : List Addr) (s : Option Kh433.Yard) (n : Nat) (found : List Int) (raw : List (List (List Int))) (f : Nat), i < j ∧ σ' = [some (.ref a), some (.ref own), some (.ref pf), some (nv j), v4, v5, v6, v7, v8, v9] ∧ Iv C CH H own pf us tot j H' fp s n found raw f, ?_, ?_⟩
    · rintro σ' H2 ⟨j, v4, v5, v6, v7, v8, v9, fp, s, n, found, raw, f, lt, e, J⟩
      exact ⟨us.length - j, by omega, j, v4, v5, v6, v7, v8, v9, fp, s, n, found, raw, f, e, rfl, J⟩
    refine ⟨_, rfl, _, rfl, a, _, _, _, rfl, rfl, hSi, atI_nat (ds_at R.at_), ?_⟩
    refine behind_is (K := K) (i := i) (d := d) rfl rfl hW rfl ?_
    generalize hb : i + 1 + (if withNumber d = true then 1 else 0) = b
    refine cut_nums (K := K) (i := i) (b := b) hSi rfl rfl rfl (fun pn hpn => ?_)
    have en : nums = (us.drop (i + 1)).take (b - (i + 1)) := by
      rw [R.numsE, ← hb, show i + 1 + (if withNumber d = true then 1 else 0) - (i + 1) = (if withNumber d = true then 1 else 0) by omega]
    rw [← en]
    have sN : Same H' (upd H' pn (.lst (ds nums))) := same_new hpn
    refine ⟨Nat.zero_le _, fun pr0 hpr0 => ?_⟩
    have sR := sN.new1 (o := .lst []) hpr0
    have hpn0 : upd (upd H' pn (.lst (ds nums))) pr0 (.lst []) pn = some (.lst (ds nums)) := up_ne upd_same (ne_of_none upd_same hpr0)
    have hpr1 : upd (upd H' pn (.lst (ds nums))) pr0 (.lst []) pr0 = some (.lst (ds [])) := upd_same
    generalize upd (upd H' pn (.lst (ds nums))) pr0 (.lst []) = G at sR hpn0 hpr1
    have ft : (exec s d nums row).2.length + 1 + found.length ≤ 10000000 := by
      have e := I.tot_
      rw [er, told_cons s c cs ed] at e
      have e := congrArg List.length e
      rw [List.length_append, List.length_append, List.length_cons] at e
      omega
    have hn60 : n ≤ 60 := by have := I.few; omega
    refine ⟨_, rfl, rfl, _, rfl, ?_⟩
    by_cases c14 : d = 14
    · obtain ⟨many, g1, g2, g3, g4⟩ := R.some_ c14
      have hbi : b = i + 1 := by rw [← hb, c14]; rfl
      refine if_t (decide_eq_true (by rw [c14]; rfl)) ?_
      refine ⟨_, rfl, _, rfl, a, _, _, _, rfl, rfl, sR.seq hSi, atI_nat (ds_at (by rw [hbi]; exact g1)), ?_⟩
      refine cut_row (K := K) (b := b) (many := many) (sR.seq hSi) rfl rfl rfl (fun pr hpr => ?_)
      rw [show (us.drop (b + 1)).take many = row by rw [g2, hbi]]
      refine behind_row (b := b) (many := many) rfl rfl ?_
      have ej : b + 1 + many = j := by omega
      rw [ej]
      have sG := sR.new1 (o := .lst (ds row)) hpr
      have hpn1 := up_ne (o := .lst (ds row)) hpn0 (ne_of_none hpn0 hpr)
      have hpr2 : upd G pr (.lst (ds row)) pr = some (.lst (ds row)) := upd_same
      generalize upd G pr (.lst (ds row)) = G2 at sG hpn1 hpr2
      have hrow : row.length ≤ 1000 := by rw [g2, List.length_take, List.length_drop]; omega
      refine ⟨_, rfl, _, rfl, _, rfl, _, rfl, own, pn, pr, fp, s, d, nums, row, n, rfl, R.small, I.at_.same sG, hpn1, hpr2, I.good, by omega, R.one, hrow, fun H2 fp' p O kO fr' hp hp2 => ?_⟩
      have npf : p ≠ pf := (ne_of_none (sG _ _ I.hf) hp).symm
      have hf2 : H2 pf = some (.lst (found.map V.int)) := kO _ _ (sG _ _ I.hf) I.nf
      refine ⟨_, rfl, .inl ⟨rfl, _, SqL.of hf2⟩, _, rfl, p, _, rfl, .inl (SqL.of hp2), pf, _, _, rfl, rfl, hf2, small_lt (by rw [List.length_map]; omega), ?_⟩
      have hf3 : upd H2 pf (.lst (found.map V.int ++ [V.int (((exec s d nums row).2.map V.int).length : Nat)])) pf = some _ := upd_same
      have hp3 : upd H2 pf (.lst (found.map V.int ++ [V.int (((exec s d nums row).2.map V.int).length : Nat)])) p = _ := up_ne hp2 npf
      refine ⟨_, rfl, .inl ⟨rfl, _, SqL.of hf3⟩, _, rfl, pf, p, _, _, rfl, rfl, hf3, hp3, small_le (by simp; omega), ?_⟩
      refine ⟨_, rfl, ?_⟩
      refine ⟨j, _, _, _, _, _, _, fp', _, n + 1, _, cs, f', R.lt, rfl, I.next R er ed ec sG O kO fr' ?_⟩
      rw [List.length_map]
    · obtain ⟨g1, g2⟩ := R.none_ c14
      have ej : b = j := by rw [g2, ← hb]
      refine if_f (decide_eq_false (fun z => c14 (by injection z with z; omega))) ?_
      rw [ej]
      have sG := sR
      have hpn1 := hpn0
      have hpr2 : G pr0 = some (.lst (ds row)) := by rw [g1]; exact hpr1
      have hrow : row.length ≤ 1000 := by rw [g1]; simp
      refine ⟨_, rfl, _, rfl, _, rfl, _, rfl, own, pn, pr0, fp, s, d, nums, row, n, rfl, R.small, I.at_.same sG, hpn1, hpr2, I.good, by omega, R.one, hrow, fun H2 fp' p O kO fr' hp hp2 => ?_⟩
      have npf : p ≠ pf := (ne_of_none (sG _ _ I.hf) hp).symm
      have hf2 : H2 pf = some (.lst (found.map V.int)) := kO _ _ (sG _ _ I.hf) I.nf
      refine ⟨_, rfl, .inl ⟨rfl, _, SqL.of hf2⟩, _, rfl, p, _, rfl, .inl (SqL.of hp2), pf, _, _, rfl, rfl, hf2, small_lt (by rw [List.length_map]; omega), ?_⟩
      have hf3 : upd H2 pf (.lst (found.map V.int ++ [V.int (((exec s d nums row).2.map V.int).length : Nat)])) pf = some _ := upd_same
      have hp3 : upd H2 pf (.lst (found.map V.int ++ [V.int (((exec s d nums row).2.map V.int).length : Nat)])) p = _ := up_ne hp2 npf
      refine ⟨_, rfl, .inl ⟨rfl, _, SqL.of hf3⟩, _, rfl, pf, p, _, _, rfl, rfl, hf3, hp3, small_le (by simp; omega), ?_⟩
      refine ⟨_, rfl, ?_⟩
      refine ⟨j, _, _, _, _, _, _, fp', _, n + 1, _, cs, f', R.lt, rfl, I.next R er ed ec sG O kO fr' ?_⟩
      rw [List.length_map]
  · refine if_f (decide_eq_false (by omega)) ⟨_, rfl, ?_⟩
    have er := calls_end (by omega) I.raws
    have e := I.tot_
    rw [er] at e
    refine k H' pf ?_
    rw [I.hf, e]
    show _ = some (HO.lst ((found ++ []).map V.int))
    rw [List.append_nil]
end
end Trl

set_option Elab.async false
set_option linter.all false
set_option maxRecDepth 100000
set_option maxHeartbeats 4000000
namespace Trl
open PySem PySem.Spec PyProof.Rows L2
open C8 (Cal pe_c pe_gc Met pe_mt pe_mt0)
section
variable {P : Program} {w : World} {K : PySem.W.Frag} {mg : Str → Option Value} {base : Heap}

theorem facts {h : Heap} {f : Addr} (X : K.In h) (G : h.Ns mainGlobals mg) (hfa : mg ("answers" : Str) = some (.ref f)) (c : SaysK K) :
    ∃ fd : FuncData, (∀ (s : Shared) (us : List Value), us.length = (["calls"] : List Str).length → BindsTo s fd ⟨us, []⟩ ((["calls"] : List Str).zip us)) ∧ ∀ base : Heap, K.In base → base.Ns mainGlobals mg → FnOk P w K mg base CX0 20 f fd ["calls"] (spAnswers K) := by
  obtain ⟨c, tabs⟩ := c
  unfold tabsB at tabs
  rw [Bool.and_eq_true] at tabs
  have hI := deedB_ok tabs.1
  have hW := tabs.2
  have T : Txt K mg := ⟨He.free_ok X G (c.fact 0), He.free_ok X G (c.fact 1), He.free_ok X G (c.fact 2), He.free_ok X G (c.fact 3), He.free_ok X G (c.fact 4), He.free_ok X G (c.fact 5), He.free_ok X G (c.fact 6), He.int_ok X G (c.fact 7), He.int_ok X G (c.fact 8), He.int_ok X G (c.fact 9), He.int_ok X G (c.fact 10)⟩
  have Y : TxtY K (He.ga K "Yard") (He.ga K "Holder") := ⟨He.cls_ok (c.fact 11), He.noat_ok (c.fact 13), He.noat_ok (c.fact 14), He.noat_ok (c.fact 15), He.cls_ok (c.fact 12), He.noat_ok (c.fact 16)⟩
  obtain ⟨fdA, FA⟩ : ∃ fd, FnP K "answers" "answers" s_answers (He.ga K "answers") fd := c.def_ 38
  have ef : f = He.ga K "answers" := by
    have z := He.glo_ok X G (c.fact 59)
    rw [hfa] at z
    exact Value.ref.inj (Option.some.inj z)
  subst ef
  refine ⟨fdA, FunD.bindsA (ps := ["calls"]) FA (fun _ _ _ _ _ _ us hl => match us, hl with | [_], _ => rfl), fun base _ _ => ?_⟩
  obtain ⟨fd0, F0⟩ : ∃ fd, FnP K "place_for" "place_for" s_place_for (He.ga K "place_for") fd := c.def_ 0
  have c_place_for : Cal P w K mg base 1 "place_for" (spPlace K) [] := calP F0 (He.glo_ok X G (c.fact 21)) (FunD.bindsN (ps := ["lanes", "dock"]) F0 (fun _ _ _ _ _ _ us hl => match us, hl with | [_, _], _ => rfl)) (ok_place F0 T)
  obtain ⟨fd1, F1⟩ : ∃ fd, FnP K "first_fit" "first_fit" s_first_fit (He.ga K "first_fit") fd := c.def_ 1
  have c_first_fit : Cal P w K mg base 2 "first_fit" (spFit K) [] := calP F1 (He.glo_ok X G (c.fact 22)) (FunD.bindsN (ps := ["docks"]) F1 (fun _ _ _ _ _ _ us hl => match us, hl with | [_], _ => rfl)) (ok_fit F1 T c_place_for)
  obtain ⟨fd2, F2⟩ : ∃ fd, FnP K "never_falls" "never_falls" s_never_falls (He.ga K "never_falls") fd := c.def_ 2
  have c_never_falls : Cal P w K mg base 1 "never_falls" (spNever K) [] := calP F2 (He.glo_ok X G (c.fact 23)) (FunD.bindsN (ps := ["docks"]) F2 (fun _ _ _ _ _ _ us hl => match us, hl with | [_], _ => rfl)) (ok_never F2 T)
  obtain ⟨fd3, F3⟩ : ∃ fd, FnP K "always_falls" "always_falls" s_always_falls (He.ga K "always_falls") fd := c.def_ 3
  have c_always_falls : Cal P w K mg base 1 "always_falls" (spAlways K) [] := calP F3 (He.glo_ok X G (c.fact 24)) (FunD.bindsN (ps := ["docks"]) F3 (fun _ _ _ _ _ _ us hl => match us, hl with | [_], _ => rfl)) (ok_always F3 T)
  obtain ⟨fd4, F4⟩ : ∃ fd, FnP K "chosen" "chosen" s_chosen (He.ga K "chosen") fd := c.def_ 4
  have c_chosen : Cal P w K mg base 1 "chosen" (spChosen K) [] := calP F4 (He.glo_ok X G (c.fact 25)) (FunD.bindsN (ps := ["docks", "mask"]) F4 (fun _ _ _ _ _ _ us hl => match us, hl with | [_, _], _ => rfl)) (ok_chosen F4 T)
  obtain ⟨fd5, F5⟩ : ∃ fd, FnP K "longest_falling" "longest_falling" s_longest_falling (He.ga K "longest_falling") fd := c.def_ 5
  have c_longest_falling : Cal P w K mg base 2 "longest_falling" (spLong K) [] := calP F5 (He.glo_ok X G (c.fact 26)) (FunD.bindsN (ps := ["docks"]) F5 (fun _ _ _ _ _ _ us hl => match us, hl with | [_], _ => rfl)) (ok_long F5 T c_chosen c_always_falls)
  obtain ⟨fd6, F6⟩ : ∃ fd, FnP K "largest_sortable" "largest_sortable" s_largest_sortable (He.ga K "largest_sortable") fd := c.def_ 6
  have c_largest_sortable : Cal P w K mg base 3 "largest_sortable" (spLarge K) [] := calP F6 (He.glo_ok X G (c.fact 27)) (FunD.bindsN (ps := ["docks", "lanes"]) F6 (fun _ _ _ _ _ _ us hl => match us, hl with | [_, _], _ => rfl)) (ok_large F6 T c_chosen c_first_fit)
  obtain ⟨fd7, F7⟩ : ∃ fd, FnP K "is_valid" "is_valid" s_is_valid (He.ga K "is_valid") fd := c.def_ 7
  have c_is_valid : Cal P w K mg base 1 "is_valid" (spValid K) [] := calP F7 (He.glo_ok X G (c.fact 28)) (FunD.bindsN (ps := ["docks", "assignment"]) F7 (fun _ _ _ _ _ _ us hl => match us, hl with | [_, _], _ => rfl)) (ok_valid F7 T)
  obtain ⟨fd8, F8⟩ : ∃ fd, FnP K "assignments_of" "assignments_of" s_assignments_of (He.ga K "assignments_of") fd := c.def_ 8
  have c_assignments_of : Cal P w K mg base 1 "assignments_of" (spAssigns) [] := calP F8 (He.glo_ok X G (c.fact 29)) (FunD.bindsN (ps := ["many", "lanes"]) F8 (fun _ _ _ _ _ _ us hl => match us, hl with | [_, _], _ => rfl)) (ok_assigns F8 T)
  obtain ⟨fd9, F9⟩ : ∃ fd, FnP K "next_lane" "next_lane" s_next_lane (He.ga K "next_lane") fd := c.def_ 9
  have c_next_lane : Cal P w K mg base 1 "next_lane" (spNext K) [] := calP F9 (He.glo_ok X G (c.fact 30)) (FunD.bindsN (ps := ["lanes"]) F9 (fun _ _ _ _ _ _ us hl => match us, hl with | [_], _ => rfl)) (ok_next F9 T)
  obtain ⟨fd10, F10⟩ : ∃ fd, FnP K "merged" "merged" s_merged (He.ga K "merged") fd := c.def_ 10
  have c_merged : Cal P w K mg base 2 "merged" (spMerged K) [] := calP F10 (He.glo_ok X G (c.fact 31)) (FunD.bindsN (ps := ["lanes"]) F10 (fun _ _ _ _ _ _ us hl => match us, hl with | [_], _ => rfl)) (ok_merged F10 T c_next_lane)
  obtain ⟨fd11, F11⟩ : ∃ fd, FnP K "counted" "counted" s_counted (He.ga K "counted") fd := c.def_ 11
  have c_counted : Cal P w K mg base 1 "counted" (spCounted K) [] := calP F11 (He.glo_ok X G (c.fact 32)) (FunD.bindsN (ps := ["docks"]) F11 (fun _ _ _ _ _ _ us hl => match us, hl with | [_], _ => rfl)) (ok_counted F11 T)
  obtain ⟨fd12, F12⟩ : ∃ fd, FnP K "told_lanes" "told_lanes" s_told_lanes (He.ga K "told_lanes") fd := c.def_ 12
  have c_told_lanes : Cal P w K mg base 2 "told_lanes" (spTold K) [] := calP F12 (He.glo_ok X G (c.fact 33)) (FunD.bindsN (ps := ["lanes"]) F12 (fun _ _ _ _ _ _ us hl => match us, hl with | [_], _ => rfl)) (ok_told F12 T c_counted)
  obtain ⟨fdYI, FYI⟩ : ∃ fd, FnP K "__init__" "Yard.__init__" s_Yard_init (He.ma K (He.ga K "Yard") "__init__") fd := c.def_ 39
  obtain ⟨fdGo, FGo⟩ : ∃ fd, FnP K "let_go" "Yard.let_go" s_Yard_let_go (He.ma K (He.ga K "Yard") "let_go") fd := c.def_ 40
  obtain ⟨fdIn, FIn⟩ : ∃ fd, FnP K "in_lanes" "Yard.in_lanes" s_Yard_in_lanes (He.ma K (He.ga K "Yard") "in_lanes") fd := c.def_ 41
  obtain ⟨fdHI, FHI⟩ : ∃ fd, FnP K "__init__" "Holder.__init__" s_Holder_init (He.ma K (He.ga K "Holder") "__init__") fd := c.def_ 42
  have mkY : C8.Mak P w K mg base 1 "Yard" (He.ga K "Yard") (spYInit (He.ga K "Yard")) [] := ⟨_, fdYI, ["self", "lanes"], [], He.mkr_ok (c.fact 19), ok_yinit FYI T Y, He.glo_ok X G (c.fact 60), FunD.bindsN (ps := ["self", "lanes"]) FYI (fun _ _ _ _ _ _ us hl => match us, hl with | [_, _], _ => rfl), .nil⟩
  have mkH : C8.Mak P w K mg base 1 "Holder" (He.ga K "Holder") (spHInit (He.ga K "Holder")) [] := ⟨_, fdHI, ["self"], [], He.mkr_ok (c.fact 20), ok_hinit FHI Y, He.glo_ok X G (c.fact 61), FunD.bindsN (ps := ["self"]) FHI (fun _ _ _ _ _ _ us hl => match us, hl with | [_], _ => rfl), .nil⟩
  have mGo : Met P w K mg base 1 (He.ga K "Yard") "let_go" (spLetGo (He.ga K "Yard")) [] := ⟨_, fdGo, ["self", "lane"], [], Y.cl, He.meth_ok (c.fact 17), ok_letgo FGo T Y, FunD.bindsN (ps := ["self", "lane"]) FGo (fun _ _ _ _ _ _ us hl => match us, hl with | [_, _], _ => rfl), .nil⟩
  have mIn : Met P w K mg base 1 (He.ga K "Yard") "in_lanes" (spIn (He.ga K "Yard")) [] := ⟨_, fdIn, ["self"], [], Y.cl, He.meth_ok (c.fact 18), ok_in FIn T Y, FunD.bindsN (ps := ["self"]) FIn (fun _ _ _ _ _ _ us hl => match us, hl with | [_], _ => rfl), .nil⟩
  obtain ⟨fd13, F13⟩ : ∃ fd, FnP K "call_create" "call_create" s_call_create (He.ga K "call_create") fd := c.def_ 13
  have D0 : DeedAt P w K mg base (He.ga K "Yard") (He.ga K "Holder") 0 := ⟨_, fd13, rfl, ok_c0 F13 T Y mkY, F13.kp, FunD.bindsN (ps := ["own", "numbers", "row"]) F13 (fun _ _ _ _ _ _ us hl => match us, hl with | [_, _, _], _ => rfl)⟩
  obtain ⟨fd14, F14⟩ : ∃ fd, FnP K "call_add_trolley" "call_add_trolley" s_call_add_trolley (He.ga K "call_add_trolley") fd := c.def_ 14
  have D1 : DeedAt P w K mg base (He.ga K "Yard") (He.ga K "Holder") 1 := ⟨_, fd14, rfl, ok_c1 F14 T Y , F14.kp, FunD.bindsN (ps := ["own", "numbers", "row"]) F14 (fun _ _ _ _ _ _ us hl => match us, hl with | [_, _, _], _ => rfl)⟩
  obtain ⟨fd15, F15⟩ : ∃ fd, FnP K "call_remove_last_trolley" "call_remove_last_trolley" s_call_remove_last_trolley (He.ga K "call_remove_last_trolley") fd := c.def_ 15
  have D2 : DeedAt P w K mg base (He.ga K "Yard") (He.ga K "Holder") 2 := ⟨_, fd15, rfl, ok_c2 F15 T Y , F15.kp, FunD.bindsN (ps := ["own", "numbers", "row"]) F15 (fun _ _ _ _ _ _ us hl => match us, hl with | [_, _, _], _ => rfl)⟩
  obtain ⟨fd16, F16⟩ : ∃ fd, FnP K "call_move_to_lane" "call_move_to_lane" s_call_move_to_lane (He.ga K "call_move_to_lane") fd := c.def_ 16
  have D3 : DeedAt P w K mg base (He.ga K "Yard") (He.ga K "Holder") 3 := ⟨_, fd16, rfl, ok_c3 F16 T Y , F16.kp, FunD.bindsN (ps := ["own", "numbers", "row"]) F16 (fun _ _ _ _ _ _ us hl => match us, hl with | [_, _, _], _ => rfl)⟩
  obtain ⟨fd17, F17⟩ : ∃ fd, FnP K "call_distribute" "call_distribute" s_call_distribute (He.ga K "call_distribute") fd := c.def_ 17
  have D4 : DeedAt P w K mg base (He.ga K "Yard") (He.ga K "Holder") 4 := ⟨_, fd17, rfl, ok_c4 F17 T Y c_first_fit mIn, F17.kp, FunD.bindsN (ps := ["own", "numbers", "row"]) F17 (fun _ _ _ _ _ _ us hl => match us, hl with | [_, _, _], _ => rfl)⟩
  obtain ⟨fd18, F18⟩ : ∃ fd, FnP K "call_release" "call_release" s_call_release (He.ga K "call_release") fd := c.def_ 18
  have D5 : DeedAt P w K mg base (He.ga K "Yard") (He.ga K "Holder") 5 := ⟨_, fd18, rfl, ok_c5 F18 T Y mGo, F18.kp, FunD.bindsN (ps := ["own", "numbers", "row"]) F18 (fun _ _ _ _ _ _ us hl => match us, hl with | [_, _, _], _ => rfl)⟩
  obtain ⟨fd19, F19⟩ : ∃ fd, FnP K "call_release_next" "call_release_next" s_call_release_next (He.ga K "call_release_next") fd := c.def_ 19
  have D6 : DeedAt P w K mg base (He.ga K "Yard") (He.ga K "Holder") 6 := ⟨_, fd19, rfl, ok_c6 F19 T Y c_next_lane mGo, F19.kp, FunD.bindsN (ps := ["own", "numbers", "row"]) F19 (fun _ _ _ _ _ _ us hl => match us, hl with | [_, _, _], _ => rfl)⟩
  obtain ⟨fd20, F20⟩ : ∃ fd, FnP K "call_open_lane" "call_open_lane" s_call_open_lane (He.ga K "call_open_lane") fd := c.def_ 20
  have D7 : DeedAt P w K mg base (He.ga K "Yard") (He.ga K "Holder") 7 := ⟨_, fd20, rfl, ok_c7 F20 T Y , F20.kp, FunD.bindsN (ps := ["own", "numbers", "row"]) F20 (fun _ _ _ _ _ _ us hl => match us, hl with | [_, _, _], _ => rfl)⟩
  obtain ⟨fd21, F21⟩ : ∃ fd, FnP K "call_list_incoming" "call_list_incoming" s_call_list_incoming (He.ga K "call_list_incoming") fd := c.def_ 21
  have D8 : DeedAt P w K mg base (He.ga K "Yard") (He.ga K "Holder") 8 := ⟨_, fd21, rfl, ok_c8 F21 T Y c_counted, F21.kp, FunD.bindsN (ps := ["own", "numbers", "row"]) F21 (fun _ _ _ _ _ _ us hl => match us, hl with | [_, _, _], _ => rfl)⟩
  obtain ⟨fd22, F22⟩ : ∃ fd, FnP K "call_list_lanes" "call_list_lanes" s_call_list_lanes (He.ga K "call_list_lanes") fd := c.def_ 22
  have D9 : DeedAt P w K mg base (He.ga K "Yard") (He.ga K "Holder") 9 := ⟨_, fd22, rfl, ok_c9 F22 T Y c_told_lanes, F22.kp, FunD.bindsN (ps := ["own", "numbers", "row"]) F22 (fun _ _ _ _ _ _ us hl => match us, hl with | [_, _, _], _ => rfl)⟩
  obtain ⟨fd23, F23⟩ : ∃ fd, FnP K "call_list_departed" "call_list_departed" s_call_list_departed (He.ga K "call_list_departed") fd := c.def_ 23
  have D10 : DeedAt P w K mg base (He.ga K "Yard") (He.ga K "Holder") 10 := ⟨_, fd23, rfl, ok_c10 F23 T Y c_counted, F23.kp, FunD.bindsN (ps := ["own", "numbers", "row"]) F23 (fun _ _ _ _ _ _ us hl => match us, hl with | [_, _, _], _ => rfl)⟩
  obtain ⟨fd24, F24⟩ : ∃ fd, FnP K "call_lanes_needed" "call_lanes_needed" s_call_lanes_needed (He.ga K "call_lanes_needed") fd := c.def_ 24
  have D11 : DeedAt P w K mg base (He.ga K "Yard") (He.ga K "Holder") 11 := ⟨_, fd24, rfl, ok_c11 F24 T Y c_first_fit, F24.kp, FunD.bindsN (ps := ["own", "numbers", "row"]) F24 (fun _ _ _ _ _ _ us hl => match us, hl with | [_, _, _], _ => rfl)⟩
  obtain ⟨fd25, F25⟩ : ∃ fd, FnP K "call_first_fit_lanes" "call_first_fit_lanes" s_call_first_fit_lanes (He.ga K "call_first_fit_lanes") fd := c.def_ 25
  have D12 : DeedAt P w K mg base (He.ga K "Yard") (He.ga K "Holder") 12 := ⟨_, fd25, rfl, ok_c12 F25 T Y c_first_fit c_told_lanes, F25.kp, FunD.bindsN (ps := ["own", "numbers", "row"]) F25 (fun _ _ _ _ _ _ us hl => match us, hl with | [_, _, _], _ => rfl)⟩
  obtain ⟨fd26, F26⟩ : ∃ fd, FnP K "call_longest_decreasing" "call_longest_decreasing" s_call_longest_decreasing (He.ga K "call_longest_decreasing") fd := c.def_ 26
  have D13 : DeedAt P w K mg base (He.ga K "Yard") (He.ga K "Holder") 13 := ⟨_, fd26, rfl, ok_c13 F26 T Y c_longest_falling c_counted, F26.kp, FunD.bindsN (ps := ["own", "numbers", "row"]) F26 (fun _ _ _ _ _ _ us hl => match us, hl with | [_, _, _], _ => rfl)⟩
  obtain ⟨fd27, F27⟩ : ∃ fd, FnP K "call_is_valid_assignment" "call_is_valid_assignment" s_call_is_valid_assignment (He.ga K "call_is_valid_assignment") fd := c.def_ 27
  have D14 : DeedAt P w K mg base (He.ga K "Yard") (He.ga K "Holder") 14 := ⟨_, fd27, rfl, ok_c14 F27 T Y c_is_valid, F27.kp, FunD.bindsN (ps := ["own", "numbers", "row"]) F27 (fun _ _ _ _ _ _ us hl => match us, hl with | [_, _, _], _ => rfl)⟩
  obtain ⟨fd28, F28⟩ : ∃ fd, FnP K "call_count_assignments" "call_count_assignments" s_call_count_assignments (He.ga K "call_count_assignments") fd := c.def_ 28
  have D15 : DeedAt P w K mg base (He.ga K "Yard") (He.ga K "Holder") 15 := ⟨_, fd28, rfl, ok_c15 F28 T Y c_is_valid c_assignments_of, F28.kp, FunD.bindsN (ps := ["own", "numbers", "row"]) F28 (fun _ _ _ _ _ _ us hl => match us, hl with | [_, _, _], _ => rfl)⟩
  obtain ⟨fd29, F29⟩ : ∃ fd, FnP K "call_max_subset" "call_max_subset" s_call_max_subset (He.ga K "call_max_subset") fd := c.def_ 29
  have D16 : DeedAt P w K mg base (He.ga K "Yard") (He.ga K "Holder") 16 := ⟨_, fd29, rfl, ok_c16 F29 T Y c_largest_sortable c_counted, F29.kp, FunD.bindsN (ps := ["own", "numbers", "row"]) F29 (fun _ _ _ _ _ _ us hl => match us, hl with | [_, _, _], _ => rfl)⟩
  obtain ⟨fd30, F30⟩ : ∃ fd, FnP K "call_lanes_needed_with" "call_lanes_needed_with" s_call_lanes_needed_with (He.ga K "call_lanes_needed_with") fd := c.def_ 30
  have D17 : DeedAt P w K mg base (He.ga K "Yard") (He.ga K "Holder") 17 := ⟨_, fd30, rfl, ok_c17 F30 T Y c_first_fit, F30.kp, FunD.bindsN (ps := ["own", "numbers", "row"]) F30 (fun _ _ _ _ _ _ us hl => match us, hl with | [_, _, _], _ => rfl)⟩
  obtain ⟨fd31, F31⟩ : ∃ fd, FnP K "call_lanes_needed_without" "call_lanes_needed_without" s_call_lanes_needed_without (He.ga K "call_lanes_needed_without") fd := c.def_ 31
  have D18 : DeedAt P w K mg base (He.ga K "Yard") (He.ga K "Holder") 18 := ⟨_, fd31, rfl, ok_c18 F31 T Y c_first_fit, F31.kp, FunD.bindsN (ps := ["own", "numbers", "row"]) F31 (fun _ _ _ _ _ _ us hl => match us, hl with | [_, _, _], _ => rfl)⟩
  obtain ⟨fd32, F32⟩ : ∃ fd, FnP K "call_merge_order" "call_merge_order" s_call_merge_order (He.ga K "call_merge_order") fd := c.def_ 32
  have D19 : DeedAt P w K mg base (He.ga K "Yard") (He.ga K "Holder") 19 := ⟨_, fd32, rfl, ok_c19 F32 T Y c_merged c_counted, F32.kp, FunD.bindsN (ps := ["own", "numbers", "row"]) F32 (fun _ _ _ _ _ _ us hl => match us, hl with | [_, _, _], _ => rfl)⟩
  obtain ⟨fd33, F33⟩ : ∃ fd, FnP K "call_is_sorted" "call_is_sorted" s_call_is_sorted (He.ga K "call_is_sorted") fd := c.def_ 33
  have D20 : DeedAt P w K mg base (He.ga K "Yard") (He.ga K "Holder") 20 := ⟨_, fd33, rfl, ok_c20 F33 T Y c_merged c_never_falls, F33.kp, FunD.bindsN (ps := ["own", "numbers", "row"]) F33 (fun _ _ _ _ _ _ us hl => match us, hl with | [_, _, _], _ => rfl)⟩
  obtain ⟨fd34, F34⟩ : ∃ fd, FnP K "call_is_lane_sorted" "call_is_lane_sorted" s_call_is_lane_sorted (He.ga K "call_is_lane_sorted") fd := c.def_ 34
  have D21 : DeedAt P w K mg base (He.ga K "Yard") (He.ga K "Holder") 21 := ⟨_, fd34, rfl, ok_c21 F34 T Y c_never_falls, F34.kp, FunD.bindsN (ps := ["own", "numbers", "row"]) F34 (fun _ _ _ _ _ _ us hl => match us, hl with | [_, _, _], _ => rfl)⟩
  obtain ⟨fd35, F35⟩ : ∃ fd, FnP K "call_longest_nondecreasing" "call_longest_nondecreasing" s_call_longest_nondecreasing (He.ga K "call_longest_nondecreasing") fd := c.def_ 35
  have D22 : DeedAt P w K mg base (He.ga K "Yard") (He.ga K "Holder") 22 := ⟨_, fd35, rfl, ok_c22 F35 T Y c_largest_sortable c_counted, F35.kp, FunD.bindsN (ps := ["own", "numbers", "row"]) F35 (fun _ _ _ _ _ _ us hl => match us, hl with | [_, _, _], _ => rfl)⟩
  obtain ⟨fd36, F36⟩ : ∃ fd, FnP K "call_status" "call_status" s_call_status (He.ga K "call_status") fd := c.def_ 36
  have D23 : DeedAt P w K mg base (He.ga K "Yard") (He.ga K "Holder") 23 := ⟨_, fd36, rfl, ok_c23 F36 T Y mIn, F36.kp, FunD.bindsN (ps := ["own", "numbers", "row"]) F36 (fun _ _ _ _ _ _ us hl => match us, hl with | [_, _, _], _ => rfl)⟩
  have all : ∀ d, d ≤ 23 → DeedAt P w K mg base (He.ga K "Yard") (He.ga K "Holder") d := fun d hd => by
    match d, hd with
    | 0, _ => exact D0
    | 1, _ => exact D1
    | 2, _ => exact D2
    | 3, _ => exact D3
    | 4, _ => exact D4
    | 5, _ => exact D5
    | 6, _ => exact D6
    | 7, _ => exact D7
    | 8, _ => exact D8
    | 9, _ => exact D9
    | 10, _ => exact D10
    | 11, _ => exact D11
    | 12, _ => exact D12
    | 13, _ => exact D13
    | 14, _ => exact D14
    | 15, _ => exact D15
    | 16, _ => exact D16
    | 17, _ => exact D17
    | 18, _ => exact D18
    | 19, _ => exact D19
    | 20, _ => exact D20
    | 21, _ => exact D21
    | 22, _ => exact D22
    | 23, _ => exact D23
    | n + 24, hd => exact absurd hd (by omega)
  obtain ⟨fd37, F37⟩ : ∃ fd, FnP K "answered" "answered" s_answered (He.ga K "answered") fd := c.def_ 37
  have cD : Cal P w K mg base 6 "answered" (spAnswered (He.ga K "Yard") (He.ga K "Holder")) [] := calP F37 (He.glo_ok X G (c.fact 58)) (FunD.bindsN (ps := ["own", "deed", "numbers", "row"]) F37 (fun _ _ _ _ _ _ us hl => match us, hl with | [_, _, _, _], _ => rfl)) (ok_answered F37 T Y (He.glo_ok X G (c.fact 62)) hI all)
  exact (ok_answers FA T mkH cD (He.glo_ok X G (c.fact 63)) hW).mono (by decide)
end
end Trl

set_option Elab.async false
set_option linter.all false
set_option maxRecDepth 100000
set_option maxHeartbeats 0
noncomputable section
namespace Trl
open PySem PySem.Spec PyProof.Rows L2
def looseA : List Str := ["place_for", "first_fit", "never_falls", "always_falls", "chosen", "longest_falling", "largest_sortable", "is_valid", "assignments_of", "next_lane", "merged", "MOST_LANES", "MOST_TROLLEYS", "MOST_DOCK", "MOST_COUNTED", "Yard", "Holder", "counted", "told_lanes", "call_create", "call_add_trolley", "call_remove_last_trolley", "call_move_to_lane", "call_distribute", "call_release"]
def looseB : List Str := ["call_release_next", "call_open_lane", "call_list_incoming", "call_list_lanes", "call_list_departed", "call_lanes_needed", "call_first_fit_lanes", "call_longest_decreasing", "call_is_valid_assignment", "call_count_assignments", "call_max_subset", "call_lanes_needed_with", "call_lanes_needed_without", "call_merge_order", "call_is_sorted", "call_is_lane_sorted", "call_longest_nondecreasing", "call_status", "DEEDS", "WITH_NUMBER", "answered"]
def looseL : List Str := looseA ++ looseB
abbrev RS : PySem.W.OpenSpec := PySem.Challenge.rw_trolleylanes_s01_answers
abbrev qv : Program := PySem.W.view RS.prog [48]
def ob (s : PySem.W.SharedT) : Al := obsK 5 (HandSHeadRun.getT s)
theorem ob_eq (s : PySem.W.SharedT) : ob s = hk.obs s.abs := by
  have e : HandSHeadRun.getT s = s.abs.heap.get? := funext (HandSHeadRun.getT_eq s)
  unfold ob
  rw [e]
  rfl
theorem runF (w : World) : HandSHeadRun.RunEqS RS qv hk ob 6000 looseL (w.withFollow "special-get-raises" false) := by
  intro os
  kernel_rfl
theorem runT (w : World) : HandSHeadRun.RunEqS RS qv hk ob 6000 looseL (w.withFollow "special-get-raises" true) := by
  intro os
  kernel_rfl
theorem run (w : World) : HandSHeadRun.RunEqS RS qv hk ob 6000 looseL w := PySem.W.byRow2 "special-get-raises" (P := fun w => HandSHeadRun.RunEqS RS qv hk ob 6000 looseL w) runF runT w
end Trl

set_option Elab.async false
set_option linter.all false
set_option maxRecDepth 100000
set_option maxHeartbeats 0
namespace Trl
open PySem PySem.Spec PyProof.Rows L2
open PySem.W (Codec OpenSpec WData)
/-- the row's call, where the written part is told by a hook -/
theorem walk_by {r : OpenSpec} {k : Nat} {q : Program} {loose : List Str} {XP : (Str → Option Value) → Heap → Prop} {YP : World → Heap → Prop} {d : DefRec} {ps : List Str} {sp : PySem.W.Frag → Sp}
    (hwell : r.wellSaid = true) (hlen : r.args.length = ps.length) (hr : Room k callerA)
    (F : ∀ (w : World) (mg : Str → Option Value) (fa : Addr) (h : Heap), YP w h → h.Ns mainGlobals mg → mg d.name = some (.ref fa) →
      ∃ (K : PySem.W.Frag) (fd : FuncData), K.In h ∧ (∀ (s : Shared) (us : List Value), us.length = ps.length → BindsTo s fd ⟨us, []⟩ (ps.zip us)) ∧
        ∀ base : Heap, K.In base → base.Ns mainGlobals mg → FnOk r.prog w K mg base CX0 k fa fd ps (sp K))
    (hsp : ∀ (K : PySem.W.Frag) (H : Hp) (xs : List V) (a : Codec.denoteAll r.args), OnlyF H → Codec.withinAll r.args a = true → Codec.app r.args r.asked a = true → DwAll K H xs (Codec.encAll r.args a) →
      sp K xs H (fun v H' => Dw K H' v (r.ret.enc (Codec.app r.args r.f a))) fun _ _ _ => False) :
    PySem.W.WalkOS q loose XP YP r d [] (fun f vs => PySem.call f vs) := by
  intro w s0 s1 mg mb G Y fa o pm cd doc dV kV ho hd hcd hD hmg hg args vals as hpre hlay hrd hwl hlo
  obtain ⟨a, e1, e2⟩ := PySem.W.os_pre_some hpre
  obtain ⟨rfl, hin⟩ := Codec.encAll_of_decAll r.args args a e1
  obtain ⟨K, fd, KX, hb, hF⟩ := F w mg fa _ Y G.T.g hmg
  have call := spec_call (R := []) (cl := classAt s0.heap) (d0 := r.ret.enc (Codec.app r.args r.f a)) KX G.T.g G.T.b G.T.builtins G.T.nolimit hg hwl (pl_encAll _ _) (layable_weight hlay) hr hF hb (by rw [encAll_len]; exact hlen)
    (fun H xs hO hS => hsp K H xs a hO hin e2 hS) (fun H e s' z => z)
  refine PySem.W.enter_call (codeAny_mono call ?_)
  rintro r' s' ⟨u, as', rfl, h1, h2, h3, h4⟩
  exact ⟨.inl ⟨u, _, as', rfl, fun _ => rfl, h1, (OpenSpec.post_iff hwell hin _ _).mpr rfl, fun z => Bool.noConfusion (show false = true from z)⟩, h2, h3, h4⟩
end Trl
open PySem PySem.W PyProof.Rows
set_option maxRecDepth 100000 in
set_option maxHeartbeats 0 in
theorem PySem.Challenge.cw_trolleylanes_s01_answers_holds : PySem.Challenge.rw_trolleylanes_s01_answers.Holds := by
  w_on
  refine HandSHeadRun.head_spec (r := PySem.Challenge.rw_trolleylanes_s01_answers) (q := Trl.qv) (H := Trl.hk) (ob := Trl.ob) (M := 6000) (loose := Trl.looseL) (d := HandSHeadRun.topDef PySem.Challenge.rw_trolleylanes_s01_answers.prog 48) (kwd := []) Trl.ob_eq
    (by kernel_rfl) (fun s => by kernel_rfl) Trl.run (by kernel_rfl) (by kernel_rfl) (by kernel_rfl) os_shapes (by decide +kernel) (by decide +kernel) ⟨rfl, rfl, rfl, rfl, rfl, by decide +kernel⟩ ?hw ?hc
  case hw => exact ⟨[.list [.int 8]], by decide +kernel, by decide +kernel⟩
  case hc =>
    refine Trl.walk_by (k := 20) (ps := ["calls"]) (sp := Trl.spAnswers) (by decide +kernel) rfl ⟨rfl, by decide, by decide⟩ ?F ?S
    case F =>
      intro w mg fa h Y G hmg0
      obtain ⟨K, KX, c⟩ := Y
      have hmg : mg ("answers" : PySem.Str) = some (.ref fa) := by
        have e : (HandSHeadRun.topDef PySem.Challenge.rw_trolleylanes_s01_answers.prog 48).name = ("answers" : PySem.Str) := by kernel_rfl
        rw [← e]
        exact hmg0
      obtain ⟨fd, hb, hF⟩ := Trl.facts (P := PySem.Challenge.rw_trolleylanes_s01_answers.prog) (w := w) KX G hmg c
      exact ⟨K, fd, KX, hb, hF⟩
    case S =>
      intro K H xs a hO hwi hask hx
      cases hx with
      | cons h1 h2 =>
        cases h2
        cases h1 with
        | lst hs ha =>
          have e := L2.ints_dw a.1 _ ha
          subst e
          have q : ((Codec.inLen 0 600 a.1 && a.1.all (Codec.inInt 0 2147483647)) && true) = true := hwi
          rw [Bool.and_eq_true, Bool.and_eq_true] at q
          refine ⟨_, a.1, rfl, hs, fun n hn => ?_, (Codec.inNat_iff.mp q.1.1).2, hask, fun H' p hp => .lst (L2.SqL.of hp) (L2.dw_ints _)⟩
          have z := List.all_eq_true.mp q.1.2 n hn
          exact Codec.inInt_iff.mp z

