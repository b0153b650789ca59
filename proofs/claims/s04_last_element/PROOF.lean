import PyProof.Rows.All
import Wide.All
import OpenK.AllK
import Wide.FinOn
import Open.SpecLaws
import KE.OsGo
import HandS.Base
import HandS.Call
import HandS.List
import HandS.Ends
import HandS.Spec
import HandS.Words
import HandS.WordsList
import PySem.Challenge.RW_stepdigits_s04_last_element
set_option Elab.async false
/-! Plain mathematics over the specification: no program here. Core Lean alone. -/
namespace Sd
open Ks609

theorem foldl_mul : ∀ (l : List Nat) (a : Nat), l.foldl (· * ·) a = a * l.foldl (· * ·) 1
  | [], a => (Nat.mul_one a).symm
  | x :: r, a => by
    rw [List.foldl_cons, List.foldl_cons, foldl_mul r (a * x), foldl_mul r (1 * x), Nat.one_mul, Nat.mul_assoc]
theorem size_nil : size [] = 1 := rfl
theorem size_cons (x : Nat) (r : List Nat) : size (x :: r) = x * size r := by
  show (x :: r).foldl (· * ·) 1 = x * r.foldl (· * ·) 1
  rw [List.foldl_cons, foldl_mul, Nat.one_mul]
/-- every radix is above zero -/
def AllPos (l : List Nat) : Prop := ∀ x ∈ l, 0 < x
theorem AllPos.tail {x : Nat} {r : List Nat} (h : AllPos (x :: r)) : AllPos r := fun y hy => h y (List.mem_cons_of_mem _ hy)
theorem AllPos.head {x : Nat} {r : List Nat} (h : AllPos (x :: r)) : 0 < x := h x (List.mem_cons_self ..)
theorem AllPos.drop {l : List Nat} (h : AllPos l) (n : Nat) : AllPos (l.drop n) := fun y hy => h y (List.mem_of_mem_drop hy)
theorem size_pos : ∀ {l : List Nat}, AllPos l → 0 < size l
  | [], _ => by decide
  | x :: r, h => by
    rw [size_cons]
    exact Nat.mul_pos h.head (size_pos h.tail)
theorem drop_at {l : List Nat} {i x : Nat} (h : l[i]? = some x) : l.drop i = x :: l.drop (i + 1) := by
  obtain ⟨hi, e⟩ := List.getElem?_eq_some_iff.mp h
  rw [List.drop_eq_getElem_cons hi, e]
theorem size_at {l : List Nat} {i x : Nat} (h : l[i]? = some x) : size (l.drop i) = x * size (l.drop (i + 1)) := by
  rw [drop_at h, size_cons]
theorem size_bound : ∀ {l : List Nat}, (∀ x ∈ l, x ≤ 6) → size l ≤ 6 ^ l.length
  | [], _ => Nat.le_refl _
  | x :: r, h => by
    rw [size_cons, List.length_cons, Nat.pow_succ, Nat.mul_comm]
    exact Nat.mul_le_mul (size_bound fun y hy => h y (List.mem_cons_of_mem _ hy)) (h x (List.mem_cons_self ..))
/-- what are_radices lets pass -/
structure Good (l : List Nat) : Prop where
  lo : 1 ≤ l.length
  hi : l.length ≤ 5
  each : ∀ x ∈ l, 1 ≤ x ∧ x ≤ 6
theorem good_iff (l : List Nat) : areValidRadices l = true ↔ Good l := by
  unfold areValidRadices maxDigits
  rw [Bool.and_eq_true, Bool.and_eq_true, decide_eq_true_iff, decide_eq_true_iff, List.all_eq_true]
  constructor
  · rintro ⟨⟨a, b⟩, c⟩
    refine ⟨a, b, fun x hx => ?_⟩
    have q := c x hx
    rw [Bool.and_eq_true, decide_eq_true_iff, decide_eq_true_iff] at q
    exact q
  · rintro ⟨a, b, c⟩
    refine ⟨⟨a, b⟩, fun x hx => ?_⟩
    rw [Bool.and_eq_true, decide_eq_true_iff, decide_eq_true_iff]
    exact c x hx
theorem Good.pos {l : List Nat} (h : Good l) : AllPos l := fun x hx => (h.each x hx).1
theorem Good.size_le {l : List Nat} (h : Good l) (n : Nat) : size (l.drop n) ≤ 7776 := by
  have a := size_bound (l := l.drop n) fun x hx => (h.each x (List.mem_of_mem_drop hx)).2
  have b : (l.drop n).length ≤ 5 := by
    rw [List.length_drop]
    have := h.hi
    omega
  have c : 6 ^ (l.drop n).length ≤ 6 ^ 5 := Nat.pow_le_pow_right (by decide) b
  have d : (6 : Nat) ^ 5 = 7776 := by decide
  omega

/-! ### elements -/
/-- the digits behind one, forwards or backwards -/
def turn (index size digit : Nat) : Nat := if digit % 2 = 0 then index else size - 1 - index
theorem turn_lt {index size digit : Nat} (h : index < size) : turn index size digit < size := by
  unfold turn
  split <;> omega
theorem turn_turn {index size digit : Nat} (h : index < size) : turn (turn index size digit) size digit = index := by
  unfold turn
  split <;> omega
theorem elementAt_cons (x : Nat) (r : List Nat) (i : Nat) : elementAt (x :: r) i = i / size r :: elementAt r (turn (i % size r) (size r) (i / size r)) := rfl
theorem indexOf_cons (x : Nat) (r : List Nat) (d : Nat) (y : List Nat) : indexOf (x :: r) (d :: y) = d * size r + turn (indexOf r y) (size r) d := rfl
theorem elementAt_length : ∀ (l : List Nat) (i : Nat), (elementAt l i).length = l.length
  | [], _ => rfl
  | x :: r, i => by
    rw [elementAt_cons, List.length_cons, List.length_cons, elementAt_length r]
theorem div_lt_of {i x s : Nat} (h : i < x * s) : i / s < x := Nat.div_lt_of_lt_mul (by rw [Nat.mul_comm]; exact h)
theorem indexOf_elementAt : ∀ (l : List Nat) (i : Nat), AllPos l → i < size l → indexOf l (elementAt l i) = i
  | [], i, _, h => by
    have e : size [] = 1 := rfl
    rw [e] at h
    show 0 = i
    omega
  | x :: r, i, p, h => by
    have sp := size_pos p.tail
    have m := Nat.mod_lt i sp
    rw [elementAt_cons, indexOf_cons, indexOf_elementAt r _ p.tail (turn_lt m), turn_turn m, Nat.mul_comm]
    exact Nat.div_add_mod i (size r)
theorem isElement_nil_iff (y : List Nat) : isElement [] y = true ↔ y = [] := by
  cases y with
  | nil => exact ⟨fun _ => rfl, fun _ => rfl⟩
  | cons d y => exact ⟨fun h => by simp [isElement] at h, fun h => by cases h⟩
theorem isElement_cons (x : Nat) (r : List Nat) (d : Nat) (y : List Nat) : isElement (x :: r) (d :: y) = (decide (d < x) && isElement r y) := by
  unfold isElement
  rw [List.length_cons, List.length_cons, List.zip_cons_cons, List.all_cons]
  have e : ((y.length + 1 : Nat) == r.length + 1) = (y.length == r.length) := by
    rw [Bool.eq_iff_iff]
    simp
  rw [e, Bool.and_left_comm]
theorem isElement_len {l y : List Nat} (h : isElement l y = true) : y.length = l.length := by
  unfold isElement at h
  rw [Bool.and_eq_true] at h
  exact eq_of_beq h.1
theorem isElement_lt : ∀ {l y : List Nat} {i d x : Nat}, isElement l y = true → y[i]? = some d → l[i]? = some x → d < x
  | [], y, i, d, x, _, _, hx => by simp at hx
  | a :: r, [], i, d, x, _, hd, _ => by simp at hd
  | a :: r, b :: y, 0, d, x, h, hd, hx => by
    rw [isElement_cons, Bool.and_eq_true, decide_eq_true_iff] at h
    have e1 : b = d := Option.some.inj hd
    have e2 : a = x := Option.some.inj hx
    rw [← e1, ← e2]
    exact h.1
  | a :: r, b :: y, i + 1, d, x, h, hd, hx => by
    rw [isElement_cons, Bool.and_eq_true] at h
    exact isElement_lt (l := r) (y := y) (i := i) h.2 hd hx
theorem isElement_of : ∀ {l y : List Nat}, y.length = l.length → (∀ (j d x : Nat), y[j]? = some d → l[j]? = some x → d < x) → isElement l y = true
  | [], [], _, _ => rfl
  | [], _ :: _, h, _ => by simp at h
  | _ :: _, [], h, _ => by simp at h
  | a :: r, b :: y, h, k => by
    rw [isElement_cons, Bool.and_eq_true, decide_eq_true_iff]
    exact ⟨k 0 b a rfl rfl, isElement_of (by simpa using h) fun j d x e1 e2 => k (j + 1) d x e1 e2⟩
theorem isElement_drop : ∀ {l y : List Nat} (n : Nat), isElement l y = true → isElement (l.drop n) (y.drop n) = true
  | l, y, 0, h => h
  | [], y, n + 1, h => by
    rw [(isElement_nil_iff y).mp h]
    rfl
  | a :: r, [], n + 1, h => by
    have := isElement_len h
    simp at this
  | a :: r, b :: y, n + 1, h => by
    rw [isElement_cons, Bool.and_eq_true] at h
    exact isElement_drop n h.2
theorem mul_add_lt {d x s t : Nat} (h : d < x) (ht : t < s) : d * s + t < x * s := by
  have a : (d + 1) * s ≤ x * s := Nat.mul_le_mul_right s h
  rw [Nat.succ_mul] at a
  omega
theorem indexOf_lt : ∀ {l y : List Nat}, AllPos l → isElement l y = true → indexOf l y < size l
  | [], y, _, _ => by
    show 0 < 1
    decide
  | a :: r, [], _, h => by
    have := isElement_len h
    simp at this
  | a :: r, b :: y, p, h => by
    rw [isElement_cons, Bool.and_eq_true, decide_eq_true_iff] at h
    rw [indexOf_cons, size_cons]
    exact mul_add_lt h.1 (turn_lt (indexOf_lt p.tail h.2))
theorem isElement_elementAt : ∀ (l : List Nat) (i : Nat), AllPos l → i < size l → isElement l (elementAt l i) = true
  | [], _, _, _ => rfl
  | x :: r, i, p, h => by
    rw [elementAt_cons, isElement_cons, Bool.and_eq_true, decide_eq_true_iff]
    rw [size_cons] at h
    exact ⟨div_lt_of h, isElement_elementAt r _ p.tail (turn_lt (Nat.mod_lt i (size_pos p.tail)))⟩

/-! ### the digit that changes -/
def firstDiff (x y : List Nat) : Option Nat := (x.zip y).findIdx? fun p => p.1 != p.2
theorem firstDiff_nil (y : List Nat) : firstDiff [] y = none := rfl
theorem firstDiff_cons (a b : Nat) (x y : List Nat) : firstDiff (a :: x) (b :: y) = if a = b then (firstDiff x y).map (· + 1) else some 0 := by
  unfold firstDiff
  rw [List.zip_cons_cons, List.findIdx?_cons]
  by_cases h : a = b
  · rw [if_pos h, if_neg (by simp [h])]
  · rw [if_neg h, if_pos (by simp [h])]
theorem firstDiff_symm : ∀ x y : List Nat, firstDiff x y = firstDiff y x
  | [], [] => rfl
  | [], _ :: _ => rfl
  | _ :: _, [] => rfl
  | a :: x, b :: y => by
    rw [firstDiff_cons, firstDiff_cons, firstDiff_symm x y]
    by_cases h : a = b
    · rw [if_pos h, if_pos h.symm]
    · rw [if_neg h, if_neg fun e => h e.symm]
theorem firstDiff_none : ∀ {x y : List Nat}, x.length = y.length → firstDiff x y = none → x = y
  | [], [], _, _ => rfl
  | [], _ :: _, h, _ => by simp at h
  | _ :: _, [], h, _ => by simp at h
  | a :: x, b :: y, h, e => by
    rw [firstDiff_cons] at e
    by_cases c : a = b
    · rw [if_pos c] at e
      have e2 : firstDiff x y = none := by
        cases q : firstDiff x y with
        | none => rfl
        | some z =>
          rw [q] at e
          cases e
      rw [c, firstDiff_none (by simpa using h) e2]
    · rw [if_neg c] at e
      cases e
theorem firstDiff_lt : ∀ {x y : List Nat} {d : Nat}, firstDiff x y = some d → d < x.length
  | [], y, d, h => by
    rw [firstDiff_nil] at h
    cases h
  | a :: x, [], d, h => by
    cases (show (none : Option Nat) = some d from h)
  | a :: x, b :: y, d, h => by
    rw [firstDiff_cons] at h
    by_cases c : a = b
    · rw [if_pos c] at h
      cases q : firstDiff x y with
      | none =>
        rw [q] at h
        cases h
      | some z =>
        rw [q] at h
        have e : z + 1 = d := Option.some.inj h
        have := firstDiff_lt q
        rw [List.length_cons]
        omega
    · rw [if_neg c] at h
      have e : 0 = d := Option.some.inj h
      rw [List.length_cons]
      omega
/-- the size of the lists of digits from a place on divides that of an earlier place -/
theorem size_dvd (l : List Nat) (a : Nat) : ∀ n : Nat, size (l.drop (a + n)) ∣ size (l.drop a)
  | 0 => Nat.dvd_refl _
  | n + 1 => by
    refine Nat.dvd_trans ?_ (size_dvd l a n)
    cases h : l[a + n]? with
    | none =>
      have q := List.getElem?_eq_none_iff.mp h
      rw [List.drop_eq_nil_of_le q, List.drop_eq_nil_of_le (by omega)]
      exact Nat.dvd_refl _
    | some x =>
      rw [size_at h]
      exact ⟨x, Nat.mul_comm _ _⟩
theorem size_dvd_le (l : List Nat) {a b : Nat} (h : a ≤ b) : size (l.drop b) ∣ size (l.drop a) := by
  have e : b = a + (b - a) := by omega
  rw [e]
  exact size_dvd l a (b - a)
/-- in the step from index i to index i + 1 the digit d changes -/
def Changes (l : List Nat) (i d : Nat) : Prop := size (l.drop (d + 1)) ∣ i + 1 ∧ ¬ size (l.drop d) ∣ i + 1
theorem Changes.unique {l : List Nat} {i a b : Nat} (h : Changes l i a) (k : Changes l i b) : a = b := by
  rcases Nat.lt_trichotomy a b with c | c | c
  · exact absurd (Nat.dvd_trans (size_dvd_le l (show a + 1 ≤ b from c)) h.1) k.2
  · exact c
  · exact absurd (Nat.dvd_trans (size_dvd_le l (show b + 1 ≤ a from c)) k.1) h.2
theorem drop_dvd_self (l : List Nat) (d : Nat) : size (l.drop d) ∣ size l := size_dvd_le l (Nat.zero_le d)
theorem firstDiff_step : ∀ (l : List Nat) (i : Nat), AllPos l → i + 1 < size l → ∃ d, firstDiff (elementAt l i) (elementAt l (i + 1)) = some d ∧ Changes l i d
  | [], i, _, h => by
    have e : size [] = 1 := rfl
    rw [e] at h
    omega
  | x :: r, i, p, h => by
    have sp := size_pos p.tail
    have m := Nat.mod_lt i sp
    have dm := Nat.div_add_mod i (size r)
    rw [elementAt_cons, elementAt_cons]
    by_cases c : i % size r + 1 < size r
    · -- the first digit stays
      have q1 : (i + 1) / size r = i / size r := by
        have e : i + 1 = size r * (i / size r) + (i % size r + 1) := by omega
        rw [e, Nat.mul_add_div sp, Nat.div_eq_of_lt c, Nat.add_zero]
      have q2 : (i + 1) % size r = i % size r + 1 := by
        have e : i + 1 = size r * (i / size r) + (i % size r + 1) := by omega
        rw [e, Nat.mul_add_mod, Nat.mod_eq_of_lt c]
      rw [q1, q2, firstDiff_cons, if_pos rfl]
      have key : ∃ d, firstDiff (elementAt r (turn (i % size r) (size r) (i / size r))) (elementAt r (turn (i % size r + 1) (size r) (i / size r))) = some d ∧ Changes r (i % size r) d := by
        unfold turn
        by_cases o : i / size r % 2 = 0
        · rw [if_pos o, if_pos o]
          exact firstDiff_step r _ p.tail c
        · rw [if_neg o, if_neg o]
          have e1 : size r - 1 - i % size r = size r - 1 - (i % size r + 1) + 1 := by omega
          obtain ⟨d, e, k1, k2⟩ := firstDiff_step r (size r - 1 - (i % size r + 1)) p.tail (by omega)
          rw [e1, firstDiff_symm]
          refine ⟨d, e, ?_, fun z => k2 ?_⟩
          · have e2 : i % size r + 1 = size r - (size r - 1 - (i % size r + 1) + 1) := by omega
            rw [e2]
            exact Nat.dvd_sub (drop_dvd_self r _) k1
          · have e2 : size r - 1 - (i % size r + 1) + 1 = size r - (i % size r + 1) := by omega
            rw [e2]
            exact Nat.dvd_sub (drop_dvd_self r _) z
      obtain ⟨d, e, k1, k2⟩ := key
      rw [e]
      refine ⟨d + 1, rfl, ?_, fun z => k2 ?_⟩
      · have k1' : size (r.drop (d + 1)) ∣ i % size r + 1 := k1
        have w : size (r.drop (d + 1)) ∣ size r * (i / size r) := Nat.dvd_trans (drop_dvd_self r _) (Nat.dvd_mul_right _ _)
        have e3 : i + 1 = size r * (i / size r) + (i % size r + 1) := by omega
        show size (r.drop (d + 1)) ∣ i + 1
        rw [e3]
        exact Nat.dvd_add w k1'
      · have z' : size (r.drop d) ∣ i + 1 := z
        have w : size (r.drop d) ∣ size r * (i / size r) := Nat.dvd_trans (drop_dvd_self r _) (Nat.dvd_mul_right _ _)
        have e3 : i % size r + 1 = i + 1 - size r * (i / size r) := by omega
        rw [e3]
        exact Nat.dvd_sub z' w
    · -- the first digit changes
      have e3 : i + 1 = size r * (i / size r + 1) := by
        rw [Nat.mul_add]
        omega
      have q1 : (i + 1) / size r = i / size r + 1 := by
        rw [e3, Nat.mul_div_cancel_left _ sp]
      rw [q1, firstDiff_cons, if_neg (by omega)]
      refine ⟨0, rfl, ?_, fun z => ?_⟩
      · show size r ∣ i + 1
        rw [e3]
        exact Nat.dvd_mul_right _ _
      · have z' : size (x :: r) ∣ i + 1 := z
        have := Nat.le_of_dvd (by omega) z'
        omega
theorem changeBetween_fst {x y : List Nat} {d : Nat} (h : firstDiff x y = some d) : (changeBetween x y).1 = d := by
  show ((x.zip y).findIdx? fun p => p.1 != p.2).getD 0 = d
  rw [show ((x.zip y).findIdx? fun p => p.1 != p.2) = firstDiff x y from rfl, h]
  rfl
theorem changeBetween_snd {x y : List Nat} {d : Nat} (h : firstDiff x y = some d) : (changeBetween x y).2 = if x.getD d 0 < y.getD d 0 then 1 else 0 := by
  show (if x.getD (((x.zip y).findIdx? fun p => p.1 != p.2).getD 0) 0 < y.getD (((x.zip y).findIdx? fun p => p.1 != p.2).getD 0) 0 then 1 else 0) = _
  rw [show ((x.zip y).findIdx? fun p => p.1 != p.2) = firstDiff x y from rfl, h]
  rfl
theorem div_step {n s : Nat} (hs : 0 < s) : (n + 1) / s = n / s + if s ∣ n + 1 then 1 else 0 := by
  have a := Nat.div_add_mod n s
  have b := Nat.mod_lt n hs
  by_cases c : n % s + 1 = s
  · have e : n + 1 = s * (n / s + 1) := by
      rw [Nat.mul_add]
      omega
    rw [if_pos ⟨_, e⟩]
    have f : (n + 1) / s = (s * (n / s + 1)) / s := congrArg (· / s) e
    rw [f, Nat.mul_div_cancel_left _ hs]
  · have e : n + 1 = s * (n / s) + (n % s + 1) := by omega
    have c2 : n % s + 1 < s := by omega
    have nd : ¬ s ∣ n + 1 := fun z => by
      have w : s ∣ n % s + 1 := by
        have e2 : n % s + 1 = n + 1 - s * (n / s) := by omega
        rw [e2]
        exact Nat.dvd_sub z (Nat.dvd_mul_right _ _)
      have := Nat.le_of_dvd (by omega) w
      omega
    rw [if_neg nd, Nat.add_zero]
    have f : (n + 1) / s = (s * (n / s) + (n % s + 1)) / s := congrArg (· / s) e
    rw [f, Nat.mul_add_div hs, Nat.div_eq_of_lt c2, Nat.add_zero]
theorem count_law (l : List Nat) (p : AllPos l) (d : Nat) : ∀ n : Nat, n < size l → countChanges l d n + n / size (l.drop d) = n / size (l.drop (d + 1))
  | 0, _ => by
    rw [Nat.zero_div, Nat.zero_div]
    rfl
  | n + 1, h => by
    have ih := count_law l p d n (by omega)
    obtain ⟨c, e, k⟩ := firstDiff_step l n p h
    have e1 : countChanges l d (n + 1) = countChanges l d n + (if c = d then 1 else 0) := by
      unfold countChanges
      rw [List.range_succ, List.filter_append, List.length_append]
      congr 1
      rw [List.filter_cons, changeBetween_fst e]
      by_cases z : c = d
      · rw [if_pos (by simp [z]), if_pos z]
        rfl
      · rw [if_neg (by simp [z]), if_neg z]
        rfl
    rw [e1, div_step (size_pos (p.drop d)), div_step (size_pos (p.drop (d + 1)))]
    by_cases z : c = d
    · subst z
      rw [if_pos rfl, if_neg k.2, if_pos k.1]
      omega
    · rw [if_neg z]
      by_cases u : size (l.drop d) ∣ n + 1
      · rw [if_pos u, if_pos (Nat.dvd_trans (size_dvd_le l (Nat.le_succ d)) u)]
        omega
      · by_cases v : size (l.drop (d + 1)) ∣ n + 1
        · exact absurd (Changes.unique k ⟨v, u⟩) z
        · rw [if_neg u, if_neg v]
          omega
/-- an element that isn't the last one and the next differ -/
theorem next_ne {l y : List Nat} (p : AllPos l) (h : indexOf l y + 1 < size l) : y ≠ elementAt l (indexOf l y + 1) := fun e => by
  have q := indexOf_elementAt l _ p h
  rw [← e] at q
  omega

/-! ### the first difference, found from the front; the sum of the differences -/
theorem firstDiff_at {x y : List Nat} {i a b : Nat} (ha : x[i]? = some a) (hb : y[i]? = some b) : firstDiff (x.drop i) (y.drop i) = if a = b then (firstDiff (x.drop (i + 1)) (y.drop (i + 1))).map (· + 1) else some 0 := by
  rw [drop_at ha, drop_at hb, firstDiff_cons]
theorem distance_nil (y : List Nat) : Ks609.distance [] y = 0 := rfl
theorem distance_at {x y : List Nat} {i a b : Nat} (ha : x[i]? = some a) (hb : y[i]? = some b) : Ks609.distance (x.drop i) (y.drop i) = (a - b) + (b - a) + Ks609.distance (x.drop (i + 1)) (y.drop (i + 1)) := by
  rw [drop_at ha, drop_at hb]
  unfold Ks609.distance
  rw [List.zip_cons_cons, List.map_cons, List.sum_cons]
theorem steps_le {l : List Nat} (p : AllPos l) {d n : Nat} (h : n < size l) : n / size (l.drop d) ≤ n / size (l.drop (d + 1)) := by
  have := count_law l p d n h
  omega
/-! ### the operations by their arguments -/
def asInts (l : List Nat) : List Int := l.map Int.ofNat
theorem toNat_ints (l : List Nat) : (asInts l).map Int.toNat = l := by
  unfold asInts
  rw [List.map_map]
  exact List.map_id _
/-- what the request's list holds, as natural numbers -/
theorem ints_of {l : List Int} (h : ∀ x ∈ l, 0 ≤ x) : l = asInts (l.map Int.toNat) := by
  unfold asInts
  rw [List.map_map]
  refine ((List.map_congr_left fun x hx => ?_).trans (List.map_id l)).symm
  exact Int.toNat_of_nonneg (h x hx)
theorem due_element_at (i : Nat) (l : List Nat) : PyKs609.element_at (i : Int) (asInts l) = Ks609Neutral.integers (answer (.elementAt i l)) := by
  show Ks609Neutral.integers (answer (.elementAt ((i : Int).toNat) ((asInts l).map Int.toNat))) = _
  rw [toNat_ints, Int.toNat_natCast]
theorem due_index_of (l y : List Nat) : PyKs609.index_of (asInts l) (asInts y) = Ks609Neutral.integers (answer (.indexOf l y)) := by
  show Ks609Neutral.integers (answer (.indexOf ((asInts l).map Int.toNat) ((asInts y).map Int.toNat))) = _
  rw [toNat_ints, toNat_ints]
theorem due_successor (l y : List Nat) : PyKs609.successor (asInts l) (asInts y) = Ks609Neutral.integers (answer (.successor l y)) := by
  show Ks609Neutral.integers (answer (.successor ((asInts l).map Int.toNat) ((asInts y).map Int.toNat))) = _
  rw [toNat_ints, toNat_ints]
theorem due_last_element (l : List Nat) : PyKs609.last_element (asInts l) = Ks609Neutral.integers (answer (.lastElement l)) := by
  show Ks609Neutral.integers (answer (.lastElement ((asInts l).map Int.toNat))) = _
  rw [toNat_ints]
theorem due_count_changes (d s : Nat) (l : List Nat) : PyKs609.count_changes (d : Int) (s : Int) (asInts l) = Ks609Neutral.integers (answer (.countChanges d s l)) := by
  show Ks609Neutral.integers (answer (.countChanges ((d : Int).toNat) ((s : Int).toNat) ((asInts l).map Int.toNat))) = _
  rw [toNat_ints, Int.toNat_natCast, Int.toNat_natCast]
theorem due_distance (l x y : List Nat) : PyKs609.distance (asInts l) (asInts x) (asInts y) = Ks609Neutral.integers (answer (.distance l x y)) := by
  show Ks609Neutral.integers (answer (.distance ((asInts l).map Int.toNat) ((asInts x).map Int.toNat) ((asInts y).map Int.toNat))) = _
  rw [toNat_ints, toNat_ints, toNat_ints]
/-! ### what is due, case by case -/
theorem not_false_of {b : Bool} (h : b = true) : ¬ b = false := fun e => by
  rw [h] at e
  cases e
theorem due_bad {l : List Nat} (h : ¬ Good l) (c : Unit → Result) : Ks609Neutral.integers (withRadices l c) = [-22] := by
  unfold withRadices
  rw [if_neg fun e => h ((good_iff l).mp e)]
  rfl
theorem due_good {l : List Nat} (h : Good l) (c : Unit → Result) : withRadices l c = c () := by
  unfold withRadices
  rw [if_pos ((good_iff l).mpr h)]
theorem due1_bad {i : Nat} {l : List Nat} (h : ¬ Good l) : PyKs609.element_at (i : Int) (asInts l) = [-22] := (due_element_at i l).trans (due_bad h _)
theorem due1_none {i : Nat} {l : List Nat} (h : Good l) (k : size l ≤ i) : PyKs609.element_at (i : Int) (asInts l) = [-33] := by
  rw [due_element_at]
  unfold answer
  dsimp only
  rw [due_good h, if_pos k]
  rfl
theorem due1_some {i : Nat} {l : List Nat} (h : Good l) (k : i < size l) : PyKs609.element_at (i : Int) (asInts l) = (l.length : Int) :: asInts (elementAt l i) := by
  rw [due_element_at]
  unfold answer
  dsimp only
  rw [due_good h, if_neg (by omega)]
  rfl
theorem due2_bad {l y : List Nat} (h : ¬ Good l) : PyKs609.index_of (asInts l) (asInts y) = [-22] := (due_index_of l y).trans (due_bad h _)
theorem due2_none {l y : List Nat} (h : Good l) (k : ¬ isElement l y = true) : PyKs609.index_of (asInts l) (asInts y) = [-22] := by
  rw [due_index_of]
  unfold answer
  dsimp only
  rw [due_good h, if_pos (Bool.eq_false_iff.mpr k)]
  rfl
theorem due2_some {l y : List Nat} (h : Good l) (k : isElement l y = true) : PyKs609.index_of (asInts l) (asInts y) = [(indexOf l y : Int)] := by
  rw [due_index_of]
  unfold answer
  dsimp only
  rw [due_good h, if_neg (not_false_of k)]
  rfl
theorem due3_bad {l y : List Nat} (h : ¬ Good l) : PyKs609.successor (asInts l) (asInts y) = [-22] := (due_successor l y).trans (due_bad h _)
theorem due3_none {l y : List Nat} (h : Good l) (k : ¬ isElement l y = true) : PyKs609.successor (asInts l) (asInts y) = [-22] := by
  rw [due_successor]
  unfold answer
  dsimp only
  rw [due_good h, if_pos (Bool.eq_false_iff.mpr k)]
  rfl
theorem due3_last {l y : List Nat} (h : Good l) (k : isElement l y = true) (z : size l ≤ indexOf l y + 1) : PyKs609.successor (asInts l) (asInts y) = [-33] := by
  rw [due_successor]
  unfold answer
  dsimp only
  rw [due_good h, if_neg (not_false_of k), if_pos z]
  rfl
theorem due3_some {l y : List Nat} {d : Nat} (h : Good l) (k : isElement l y = true) (z : indexOf l y + 1 < size l) (e : firstDiff y (elementAt l (indexOf l y + 1)) = some d) :
    PyKs609.successor (asInts l) (asInts y) = (d : Int) :: ((if y.getD d 0 < (elementAt l (indexOf l y + 1)).getD d 0 then 1 else 0 : Nat) : Int) :: asInts (elementAt l (indexOf l y + 1)) := by
  rw [due_successor]
  unfold answer
  dsimp only
  rw [due_good h, if_neg (not_false_of k), if_neg (by omega)]
  unfold Ks609Neutral.integers
  rw [changeBetween_fst e, changeBetween_snd e]
  rfl
theorem due4_bad {l : List Nat} (h : ¬ Good l) : PyKs609.last_element (asInts l) = [-22] := (due_last_element l).trans (due_bad h _)
theorem due4_some {l : List Nat} (h : Good l) : PyKs609.last_element (asInts l) = (size l : Int) :: asInts (elementAt l (size l - 1)) := by
  rw [due_last_element]
  unfold answer
  dsimp only
  rw [due_good h]
  rfl
theorem due5_bad {d n : Nat} {l : List Nat} (h : ¬ Good l) : PyKs609.count_changes (d : Int) (n : Int) (asInts l) = [-22] := (due_count_changes d n l).trans (due_bad h _)
theorem due5_digit {d n : Nat} {l : List Nat} (h : Good l) (k : l.length ≤ d) : PyKs609.count_changes (d : Int) (n : Int) (asInts l) = [-2] := by
  rw [due_count_changes]
  unfold answer
  dsimp only
  rw [due_good h, if_pos k]
  rfl
theorem due5_steps {d n : Nat} {l : List Nat} (h : Good l) (k : d < l.length) (z : size l ≤ n) : PyKs609.count_changes (d : Int) (n : Int) (asInts l) = [-22] := by
  rw [due_count_changes]
  unfold answer
  dsimp only
  rw [due_good h, if_neg (by omega), if_pos z]
  rfl
theorem due5_some {d n : Nat} {l : List Nat} (h : Good l) (k : d < l.length) (z : n < size l) : PyKs609.count_changes (d : Int) (n : Int) (asInts l) = [((n / size (l.drop (d + 1)) - n / size (l.drop d) : Nat) : Int)] := by
  rw [due_count_changes]
  unfold answer
  dsimp only
  rw [due_good h, if_neg (by omega), if_neg (by omega)]
  have e := count_law l h.pos d n z
  have e2 : n / size (l.drop (d + 1)) - n / size (l.drop d) = countChanges l d n := by omega
  rw [e2]
  rfl
theorem due6_bad {l x y : List Nat} (h : ¬ Good l) : PyKs609.distance (asInts l) (asInts x) (asInts y) = [-22] := (due_distance l x y).trans (due_bad h _)
theorem due6_none {l x y : List Nat} (h : Good l) (k : ¬ (isElement l x = true ∧ isElement l y = true)) : PyKs609.distance (asInts l) (asInts x) (asInts y) = [-22] := by
  rw [due_distance]
  unfold answer
  dsimp only
  rw [due_good h, if_pos]
  · rfl
  · cases a : isElement l x with
    | false => exact .inl rfl
    | true =>
      cases b : isElement l y with
      | false => exact .inr rfl
      | true => exact absurd ⟨a, b⟩ k
theorem due6_some {l x y : List Nat} (h : Good l) (k : isElement l x = true) (z : isElement l y = true) :
    PyKs609.distance (asInts l) (asInts x) (asInts y) = [(Ks609.distance x y : Int), (((indexOf l x - indexOf l y) + (indexOf l y - indexOf l x) : Nat) : Int)] := by
  rw [due_distance]
  unfold answer
  dsimp only
  rw [due_good h, if_neg]
  · rfl
  · rw [k, z]
    rintro (e | e) <;> cases e
end Sd

set_option maxRecDepth 100000
set_option maxHeartbeats 2000000
/-! ### the layer's words, told over natural numbers -/
namespace Sd
open PySem PySem.Spec PyProof.Rows L2
open Ks609 (size elementAt indexOf isElement)
abbrev iv (n : Nat) : V := .int (n : Int)
theorem iv_int {i : Int} {n : Nat} (h : i = (n : Int)) : V.int i = iv n := congrArg V.int h
theorem map_ints (l : List Nat) : (asInts l).map V.int = l.map iv := by
  unfold asInts
  rw [List.map_map]
  rfl
theorem at_map {l : List Nat} {i n : Nat} (h : l[i]? = some n) : (l.map iv)[i]? = some (iv n) := by
  rw [List.getElem?_map, h]
  rfl
theorem of_map {l : List Nat} {i : Nat} {x : V} (h : (l.map iv)[i]? = some x) : ∃ n, l[i]? = some n ∧ x = iv n := by
  rw [List.getElem?_map] at h
  cases e : l[i]? with
  | none =>
    rw [e] at h
    cases h
  | some n =>
    rw [e] at h
    exact ⟨n, rfl, (Option.some.inj h).symm⟩
theorem at_some {l : List Nat} {i : Nat} (h : i < l.length) : ∃ n, l[i]? = some n := ⟨l[i], List.getElem?_eq_getElem h⟩
theorem small {n : Nat} (h : n ≤ 1000) : n ≤ sizeLine := Nat.le_of_lt (small1000 h)
theorem one_le : 1 ≤ sizeLine := small (by decide)
theorem two_le : 2 ≤ sizeLine := small (by decide)
theorem ifT {c : Bool} {A B : Prop} (hc : c = true) (h : A) : if c = true then A else B := by
  rw [if_pos hc]
  exact h
theorem ifF {c : Bool} {A B : Prop} (hc : c = false) (h : B) : if c = true then A else B := by
  rw [hc, if_neg Bool.false_ne_true]
  exact h
theorem same_new {H : Hp} {p : Addr} {o : HO} (h : H p = none) : Same H (upd H p o) := fun b x e => by
  rw [upd_ne (ne_of_none e h)]
  exact e
/-- a def that keeps its promise, with all that a call of it by its name asks -/
structure Has (P : Program) (w : World) (K : PySem.W.Frag) (mg : Str → Option Value) (base : Heap) (x : Str) (k : Nat) (ps : List Str) (sp : Sp) : Prop where
  ex : ∃ f fd, FnOk P w K mg base CX0 k f fd ps sp ∧ mg x = some (.ref f) ∧ PySem.W.keepIn K (.ref f) = true ∧ Binds K fd ps []
section
variable {X : Cx}
theorem op_by {f : Value → Value → Sem Value} {r r' : R2} (h : OpR X f r) (k : ∀ x y H Q, r' x y H Q → r x y H Q) : OpR X f r' :=
  fun pins s σ H x y v u Q I rx ry q => h pins s σ H x y v u Q I rx ry (k x y H Q q)
def rN (C : Nat → Nat → Prop) (g : Nat → Nat → V) : R2 := fun x y H Q => ∃ i j : Nat, x = iv i ∧ y = iv j ∧ C i j ∧ Q (g i j) H
theorem to {Q : VK} {H : Hp} {x y : V} (q : Q x H) (e : y = x) : Q y H := e ▸ q
theorem n_add : OpR X (binaryOp .Add) (rN (fun _ _ => True) fun i j => iv (i + j)) :=
  op_by op_add fun _ _ _ _ ⟨i, j, a, b, _, q⟩ => ⟨i, j, a, b, to q (iv_int (by omega))⟩
theorem n_sub : OpR X (binaryOp .Sub) (rN (fun i j => j ≤ i) fun i j => iv (i - j)) :=
  op_by op_sub fun _ _ _ _ ⟨i, j, a, b, h, q⟩ => ⟨i, j, a, b, to q (iv_int (by omega))⟩
theorem n_mul : OpR X (binaryOp .Mult) (rN (fun i j => i ≤ 1000000 ∨ j ≤ 1000000) fun i j => iv (i * j)) :=
  op_by op_mul fun _ _ _ _ ⟨i, j, a, b, h, q⟩ => ⟨i, j, a, b, by unfold CMul; omega, to q (iv_int (Int.natCast_mul i j).symm)⟩
theorem n_div : OpR X (binaryOp .FloorDiv) (rN (fun _ j => 0 < j ∧ j ≤ 1000000) fun i j => iv (i / j)) :=
  op_by op_fdiv fun _ _ _ _ ⟨i, j, a, b, h, q⟩ => ⟨i, j, a, b, by unfold CDiv; omega, to q (iv_int (Int.natCast_ediv i j).symm)⟩
theorem n_mod : OpR X (binaryOp .Mod) (rN (fun _ j => 0 < j) fun i j => iv (i % j)) :=
  op_by op_mod fun _ _ _ _ ⟨i, j, a, b, h, q⟩ => ⟨i, j, a, b, by show (0 : Int) < (j : Int); omega, to q (iv_int (Int.natCast_emod i j).symm)⟩
theorem n_lt : OpR X (compareOp .Lt) (rN (fun _ _ => True) fun i j => .bl (decide (i < j))) :=
  op_by op_lt fun _ _ _ _ ⟨i, j, a, b, _, q⟩ => ⟨i, j, a, b, to q (congrArg V.bl (decide_eq_decide.mpr (by omega)))⟩
theorem n_le : OpR X (compareOp .LtE) (rN (fun _ _ => True) fun i j => .bl (decide (i ≤ j))) :=
  op_by op_le fun _ _ _ _ ⟨i, j, a, b, _, q⟩ => ⟨i, j, a, b, to q (congrArg V.bl (decide_eq_decide.mpr (by omega)))⟩
theorem n_gt : OpR X (compareOp .Gt) (rN (fun _ _ => True) fun i j => .bl (decide (j < i))) :=
  op_by op_gt fun _ _ _ _ ⟨i, j, a, b, _, q⟩ => ⟨i, j, a, b, to q (congrArg V.bl (decide_eq_decide.mpr (by omega)))⟩
theorem iv_eq {i j : Nat} : iv i = iv j ↔ i = j := ⟨fun e => by have e2 := V.int.inj e; omega, fun e => congrArg iv e⟩
theorem n_eq : OpR X (compareOp .Eq) (rN (fun _ _ => True) fun i j => .bl (decide (i = j))) :=
  op_by op_eq fun _ _ _ _ ⟨i, j, a, b, _, q⟩ => by
    subst a b
    exact ⟨rfl, to q (congrArg V.bl (decide_eq_decide.mpr iv_eq))⟩
theorem n_ne : OpR X (compareOp .NotEq) (rN (fun _ _ => True) fun i j => .bl (decide (i ≠ j))) :=
  op_by op_ne fun _ _ _ _ ⟨i, j, a, b, _, q⟩ => by
    subst a b
    refine ⟨rfl, to q (congrArg V.bl ?_)⟩
    rw [decide_eq_decide.mpr (iv_eq (i := i) (j := j)), decide_not]
theorem c_len : CallR X (.builtin "len") (fun xs H Q => ∃ (p : Addr) (l : List Nat), xs = [.ref p] ∧ SqL X.K H p (l.map iv) ∧ Q (iv l.length) H) :=
  fun pins s σ H xs us Q I r ⟨p, l, e, h, q⟩ => call_len_seq pins s σ H xs us Q I r ⟨p, l.map iv, e, .inl h, by
    rw [List.length_map]
    exact q⟩
theorem c_abs : CallR X (.builtin "abs") (fun xs H Q => ∃ a b : Nat, xs = [.int ((a : Int) - (b : Int))] ∧ Q (iv ((a - b) + (b - a))) H) :=
  fun pins s σ H xs us Q I r ⟨a, b, e, q⟩ => call_abs pins s σ H xs us Q I r ⟨_, e, to q (iv_int (by split <;> omega))⟩
def rIxN (K : PySem.W.Frag) : R2 := fun x y H Q => ∃ (p : Addr) (l : List Nat) (i n : Nat), x = .ref p ∧ y = iv i ∧ SqL K H p (l.map iv) ∧ l[i]? = some n ∧ Q (iv n) H
theorem x_lst : IxR X (rIxN X.K) := fun value slice pins s σ H x y v u Q I rx ry ⟨p, l, i, n, a, b, h, g, q⟩ e =>
  ix_list value slice pins s σ H x y v u Q I rx ry ⟨p, l.map iv, (i : Int), iv n, a, b, h, atI_nat (at_map g), q⟩ e
end
/-- a loop over range(n), over range(p, e) -/
theorem for_n {n : Nat} {g : TG} {tb : TS} {D : Ends} {σ : L2.St} {H : Hp} (Pv : Nat → L2.St → Hp → Prop) (h0 : Pv 0 σ H)
    (hs : ∀ i σ H, i < n → Pv i σ H → g (iv i) σ H fun σ2 H2 => tb { D with nx := Pv (i + 1), ct := Pv (i + 1), bk := D.nx } σ2 H2) (hd : ∀ σ H, Pv n σ H → D.nx σ H) :
    tFor (fun _ H1 R => R (Itr 0 ((n : Int)).toNat) H1) g tb D σ H :=
  for_range (lo := 0) (n := n) Pv h0 (fun i σ H hi p => by
    rw [Int.zero_add]
    exact hs i σ H hi p) hd
theorem for_pn {p e : Nat} {g : TG} {tb : TS} {D : Ends} {σ : L2.St} {H : Hp} (Pv : Nat → L2.St → Hp → Prop) (h0 : Pv 0 σ H)
    (hs : ∀ i σ H, i < e - p → Pv i σ H → g (iv (p + i)) σ H fun σ2 H2 => tb { D with nx := Pv (i + 1), ct := Pv (i + 1), bk := D.nx } σ2 H2) (hd : ∀ σ H, Pv (e - p) σ H → D.nx σ H) :
    tFor (fun _ H1 R => R (Itr (p : Int) (((e : Int) - (p : Int))).toNat) H1) g tb D σ H := by
  have en : ((e : Int) - (p : Int)).toNat = e - p := by omega
  rw [en]
  exact for_range (lo := (p : Int)) (n := e - p) Pv h0 (fun i σ H hi q => by
    have z := hs i σ H hi q
    rw [show ((p : Int) + (i : Int)) = ((p + i : Nat) : Int) from (Int.natCast_add p i).symm]
    exact z) hd
/-! ### the request -/
theorem in_int {hi : Int} {z : Int} (h : PySem.W.Codec.inInt 0 hi z = true) : ∃ n : Nat, z = (n : Int) := by
  have q := (PySem.W.Codec.inInt_iff.mp h).1
  exact ⟨z.toNat, by omega⟩
theorem in_list {hi : Int} {l : List Int} (h : (PySem.W.Codec.inLen 0 7 l && l.all (PySem.W.Codec.inInt 0 hi)) = true) : ∃ m : List Nat, l = asInts m ∧ m.length ≤ 7 := by
  rw [Bool.and_eq_true, List.all_eq_true] at h
  refine ⟨l.map Int.toNat, ints_of fun x hx => (PySem.W.Codec.inInt_iff.mp (h.2 x hx)).1, ?_⟩
  rw [List.length_map]
  exact (PySem.W.Codec.inNat_iff.mp h.1).2
/-- an answer: a list of whole numbers at p -/
def Ans (H : Hp) (p : Addr) (l : List Int) : Prop := H p = some (.lst (l.map V.int))
/-! ### the text by places -/
def top_ (i : Nat) : Stmt := PySem.Challenge.pw_stepdigits_s04_last_element.main.body.getD i (.Pass ⟨0, 0, 0, 0⟩)
abbrev s_is_radix : Stmt := top_ 4
abbrev s_are_radices : Stmt := top_ 5
abbrev s_size_from : Stmt := top_ 7
abbrev s_size_of : Stmt := top_ 8
abbrev s_size_behind : Stmt := top_ 9
abbrev s_turned : Stmt := top_ 11
abbrev s_element_in_order : Stmt := top_ 12
abbrev s_last_in_order : Stmt := top_ 13
abbrev s_last_element : Stmt := top_ 15
theorem sc_is_radix : FnScope ["value"] ["value"] (defScope s_is_radix) :=
  ⟨rfl, rfl, rfl, by decide +kernel, rfl, by decide +kernel, by decide +kernel⟩
theorem sc_are_radices : FnScope ["values", "value"] ["values"] (defScope s_are_radices) :=
  ⟨rfl, rfl, rfl, by decide +kernel, rfl, by decide +kernel, by decide +kernel⟩
theorem sc_size_from : FnScope ["radices", "position", "found", "place"] ["radices", "position"] (defScope s_size_from) :=
  ⟨rfl, rfl, rfl, by decide +kernel, rfl, by decide +kernel, by decide +kernel⟩
theorem sc_size_of : FnScope ["radices"] ["radices"] (defScope s_size_of) :=
  ⟨rfl, rfl, rfl, by decide +kernel, rfl, by decide +kernel, by decide +kernel⟩
theorem sc_size_behind : FnScope ["radices", "position"] ["radices", "position"] (defScope s_size_behind) :=
  ⟨rfl, rfl, rfl, by decide +kernel, rfl, by decide +kernel, by decide +kernel⟩
theorem sc_turned : FnScope ["index", "size", "digit"] ["index", "size", "digit"] (defScope s_turned) :=
  ⟨rfl, rfl, rfl, by decide +kernel, rfl, by decide +kernel, by decide +kernel⟩
theorem sc_element_in_order : FnScope ["radices", "index", "found", "left", "position", "size", "digit"] ["radices", "index"] (defScope s_element_in_order) :=
  ⟨rfl, rfl, rfl, by decide +kernel, rfl, by decide +kernel, by decide +kernel⟩
theorem sc_last_in_order : FnScope ["radices"] ["radices"] (defScope s_last_in_order) :=
  ⟨rfl, rfl, rfl, by decide +kernel, rfl, by decide +kernel, by decide +kernel⟩
theorem sc_last_element : FnScope ["radices"] ["radices"] (defScope s_last_element) :=
  ⟨rfl, rfl, rfl, by decide +kernel, rfl, by decide +kernel, by decide +kernel⟩
section
variable {P : Program} {w : World} {K : PySem.W.Frag} {mg : Str → Option Value} {base : Heap}
/-! ### is_radix -/
def sp_is_radix (_ : PySem.W.Frag) : Sp := fun vs H Q _ => ∃ n : Nat, vs = [iv n] ∧ ∀ b : Bool, (b = true ↔ 1 ≤ n ∧ n ≤ 6) → Q (.bl b) H
theorem ok_is_radix {f : Addr} {fd : FuncData} (F : Fun K "is_radix" "is_radix" s_is_radix f fd)
    {t_MOST_RADIX : Tok} (o_MOST_RADIX : mg "MOST_RADIX" = some (.int 6 t_MOST_RADIX)) :
    FnOk P w K mg base CX0 1 f fd ["value"] (sp_is_radix K) := by
  refine F.ok sc_is_radix (fun vs H Q E h => ?_) (fun cdv A outer s H vs Q E hr h => ?_)
  · obtain ⟨n, rfl, _⟩ := h
    rfl
  · obtain ⟨n, rfl, q⟩ := h
    refine ⟨_, (pss_one (ps_ret (pe_chain n_le n_le pe_int (pv 0) (pe_glob (v := .int 6) rfl o_MOST_RADIX ⟨_, rfl⟩)))), ?_⟩
    refine ⟨_, rfl, 1, n, rfl, rfl, trivial, _, rfl, ite2 (fun h1 => ⟨n, 6, rfl, rfl, trivial, q _ ?_⟩) (fun h1 => q _ ?_)⟩
    · rw [decide_eq_true_iff] at h1 ⊢
      exact ⟨fun z => ⟨h1, z⟩, fun z => z.2⟩
    · rw [decide_eq_true_iff] at h1
      exact ⟨fun z => Bool.noConfusion z, fun z => absurd z.1 h1⟩
/-! ### are_radices -/
def sp_are_radices (K : PySem.W.Frag) : Sp := fun vs H Q _ => ∃ (a : Addr) (l : List Nat), vs = [.ref a] ∧ SqL K H a (l.map iv) ∧ ∀ b : Bool, (b = true ↔ Good l) → Q (.bl b) H
theorem ok_are_radices {f : Addr} {fd : FuncData} (F : Fun K "are_radices" "are_radices" s_are_radices f fd)
    (h_is_radix : Has P w K mg base "is_radix" 1 ["value"] (sp_is_radix K))
    {t_MOST_RADICES : Tok} (o_MOST_RADICES : mg "MOST_RADICES" = some (.int 5 t_MOST_RADICES)) (m_len : mg "len" = none) :
    FnOk P w K mg base CX0 2 f fd ["values"] (sp_are_radices K) := by
  obtain ⟨f_is_radix, d_is_radix, G_is_radix, g_is_radix, k_is_radix, b_is_radix⟩ := h_is_radix.ex
  refine F.ok sc_are_radices (fun vs H Q E h => ?_) (fun cdv A outer s H vs Q E hr h => ?_)
  · obtain ⟨a, l, rfl, _⟩ := h
    rfl
  · obtain ⟨a, l, rfl, hS, q⟩ := h
    refine ⟨_, (pss_cons (ps_if (pt_not (pt_chain n_le n_le pe_int (pe_callB c_len (by rfl) m_len PySem.boot_len (pa_cons (pv 0) pa_nil)) (pe_glob (v := .int 5) rfl o_MOST_RADICES ⟨_, rfl⟩))) (pss_one (ps_ret pe_bl)) pss_nil) (pss_cons (ps_for PassesOwn.never rfl (pi_list (pv 0)) (pg_name (i := 1) sc_are_radices.nd rfl (.inl rfl)) (pss_one (ps_if (pt_not (pt_val (pe_call G_is_radix (hr.mono (by decide)) (by rfl) g_is_radix k_is_radix b_is_radix .nil pass0 (pa_cons (pv 1) pa_nil)))) (pss_one (ps_ret pe_bl)) pss_nil))) (pss_one (ps_ret pe_bl)))), ?_⟩
    refine ⟨_, rfl, a, l, rfl, hS, 1, l.length, rfl, rfl, trivial, _, rfl, ite2 (fun h1 => ⟨l.length, 5, rfl, rfl, trivial, _, rfl, ite2 (fun h2 => ?_) (fun h2 => ?_)⟩) (fun h1 => ⟨_, rfl, ite2 (fun _ => ?_) (fun h2 => absurd rfl h2)⟩)⟩
    · rw [Bool.not_eq_true', decide_eq_false_iff_not] at h2
      exact q false ⟨fun z => Bool.noConfusion z, fun z => absurd z.hi h2⟩
    · rw [Bool.not_eq_true', decide_eq_false_iff_not, Decidable.not_not] at h2
      rw [decide_eq_true_iff] at h1
      refine ⟨_, rfl, a, rfl, ⟨_, hS⟩, for_list (K := K) (a := a) (xs := l.map iv) (fun i σ H' => ∃ v, σ = [some (.ref a), v] ∧ H' = H ∧ ∀ j x, j < i → l[j]? = some x → 1 ≤ x ∧ x ≤ 6) ⟨none, rfl, rfl, fun j x z => absurd z (Nat.not_lt_zero j)⟩ (fun i σ H' _ ⟨_, _, e, _⟩ => by rw [e]; exact hS) ?_ ?_⟩
      · rintro i y σ H' hi ⟨v, rfl, rfl, hI⟩
        obtain ⟨n, hn, rfl⟩ := of_map hi
        refine ⟨_, rfl, n, rfl, fun b hb => ⟨_, rfl, ite2 (fun h3 => ?_) (fun h3 => ?_)⟩⟩
        · refine q false ⟨fun z => Bool.noConfusion z, fun z => ?_⟩
          have w := hb.mpr (z.each n (List.mem_of_getElem? hn))
          rw [w] at h3
          cases h3
        · have w : b = true := by
            cases b with
            | true => rfl
            | false => exact absurd rfl h3
          refine ⟨some (iv n), rfl, rfl, fun j x hj hx => ?_⟩
          by_cases c : j = i
          · subst c
            rw [hn] at hx
            cases hx
            exact hb.mp w
          · exact hI j x (by omega) hx
      · rintro σ H' ⟨v, rfl, rfl, hI⟩
        rw [List.length_map] at hI
        refine q true ⟨fun _ => ⟨h1, h2, fun x hx => ?_⟩, fun _ => rfl⟩
        obtain ⟨j, hj⟩ := List.getElem?_of_mem hx
        exact hI j x (List.getElem?_eq_some_iff.mp hj).1 hj
    · rw [decide_eq_true_iff] at h1
      exact q false ⟨fun z => Bool.noConfusion z, fun z => absurd z.lo h1⟩
/-! ### size_from -/
def sp_size_from (K : PySem.W.Frag) : Sp := fun vs H Q _ => ∃ (a : Addr) (l : List Nat) (p : Nat), vs = [.ref a, iv p] ∧ SqL K H a (l.map iv) ∧ Good l ∧ p ≤ l.length ∧ Q (iv (size (l.drop p))) H
theorem ok_size_from {f : Addr} {fd : FuncData} (F : Fun K "size_from" "size_from" s_size_from f fd) (m_range : mg "range" = none) (m_len : mg "len" = none) :
    FnOk P w K mg base CX0 1 f fd ["radices", "position"] (sp_size_from K) := by
  refine F.ok sc_size_from (fun vs H Q E h => ?_) (fun cdv A outer s H vs Q E hr h => ?_)
  · obtain ⟨a, l, p, rfl, _⟩ := h
    rfl
  · obtain ⟨a, l, p, rfl, hS, g, hp, q⟩ := h
    refine ⟨_, (pss_cons (ps_set (i := 2) sc_size_from.nd rfl (.inl rfl) pe_int) (pss_cons (ps_for PassesOwn.never rfl (pi_range2 (by rfl) m_range (pa_cons (pv 1) (pa_cons (pe_callB c_len (by rfl) m_len PySem.boot_len (pa_cons (pv 0) pa_nil)) pa_nil))) (pg_name (i := 3) sc_size_from.nd rfl (.inl rfl)) (pss_one (ps_set (i := 2) sc_size_from.nd rfl (.inl rfl) (pe_op n_mul (pv 2) (pe_ix x_lst (pv 0) (pv 3) (fun _ _ => rfl)))))) (pss_one (ps_ret (pv 2))))), ?_⟩
    have g5 := g.hi
    refine ⟨_, rfl, _, rfl, a, l, rfl, hS, (p : Int), (l.length : Int), rfl, ⟨by omega, by omega, by omega, by omega⟩, for_pn (fun i σ H' => ∃ (f : Nat) (v : Option V), σ = [some (.ref a), some (iv p), some (iv f), v] ∧ H' = H ∧ f * size (l.drop (p + i)) = size (l.drop p)) ⟨1, none, rfl, rfl, Nat.one_mul _⟩ ?_ ?_⟩
    · rintro i σ H' hi ⟨f, v, rfl, rfl, hI⟩
      obtain ⟨x, hx⟩ := at_some (l := l) (i := p + i) (by omega)
      have hx6 := (g.each x (List.mem_of_getElem? hx)).2
      refine ⟨_, rfl, _, rfl, _, rfl, a, l, p + i, x, rfl, rfl, hS, hx, f, x, rfl, rfl, .inr (by omega), f * x, _, rfl, rfl, ?_⟩
      rw [size_at hx, ← Nat.mul_assoc] at hI
      exact hI
    · rintro σ H' ⟨f, v, rfl, rfl, hI⟩
      rw [show p + (l.length - p) = l.length by omega, List.drop_length, size_nil, Nat.mul_one] at hI
      subst hI
      exact ⟨_, rfl, q⟩
/-! ### size_of -/
def sp_size_of (K : PySem.W.Frag) : Sp := fun vs H Q _ => ∃ (a : Addr) (l : List Nat), vs = [.ref a] ∧ SqL K H a (l.map iv) ∧ Good l ∧ Q (iv (size l)) H
theorem ok_size_of {f : Addr} {fd : FuncData} (F : Fun K "size_of" "size_of" s_size_of f fd)
    (h_size_from : Has P w K mg base "size_from" 1 ["radices", "position"] (sp_size_from K)) :
    FnOk P w K mg base CX0 2 f fd ["radices"] (sp_size_of K) := by
  obtain ⟨f_size_from, d_size_from, G_size_from, g_size_from, k_size_from, b_size_from⟩ := h_size_from.ex
  refine F.ok sc_size_of (fun vs H Q E h => ?_) (fun cdv A outer s H vs Q E hr h => ?_)
  · obtain ⟨a, l, rfl, _⟩ := h
    rfl
  · obtain ⟨a, l, rfl, hS, g, q⟩ := h
    refine ⟨_, (pss_one (ps_ret (pe_call G_size_from (hr.mono (by decide)) (by rfl) g_size_from k_size_from b_size_from .nil pass0 (pa_cons (pv 0) (pa_cons pe_int pa_nil))))), ?_⟩
    exact ⟨_, rfl, a, l, 0, rfl, hS, g, Nat.zero_le _, q⟩
/-! ### size_behind -/
def sp_size_behind (K : PySem.W.Frag) : Sp := fun vs H Q _ => ∃ (a : Addr) (l : List Nat) (p : Nat), vs = [.ref a, iv p] ∧ SqL K H a (l.map iv) ∧ Good l ∧ p < l.length ∧ Q (iv (size (l.drop (p + 1)))) H
theorem ok_size_behind {f : Addr} {fd : FuncData} (F : Fun K "size_behind" "size_behind" s_size_behind f fd)
    (h_size_from : Has P w K mg base "size_from" 1 ["radices", "position"] (sp_size_from K)) :
    FnOk P w K mg base CX0 2 f fd ["radices", "position"] (sp_size_behind K) := by
  obtain ⟨f_size_from, d_size_from, G_size_from, g_size_from, k_size_from, b_size_from⟩ := h_size_from.ex
  refine F.ok sc_size_behind (fun vs H Q E h => ?_) (fun cdv A outer s H vs Q E hr h => ?_)
  · obtain ⟨a, l, p, rfl, _⟩ := h
    rfl
  · obtain ⟨a, l, p, rfl, hS, g, hp, q⟩ := h
    refine ⟨_, (pss_one (ps_ret (pe_call G_size_from (hr.mono (by decide)) (by rfl) g_size_from k_size_from b_size_from .nil pass0 (pa_cons (pv 0) (pa_cons (pe_op n_add (pv 1) pe_int) pa_nil))))), ?_⟩
    exact ⟨_, rfl, _, rfl, p, 1, rfl, rfl, trivial, a, l, p + 1, rfl, hS, g, hp, q⟩
/-! ### turned -/
def sp_turned (_ : PySem.W.Frag) : Sp := fun vs H Q _ => ∃ i s d : Nat, vs = [iv i, iv s, iv d] ∧ i < s ∧ Q (iv (turn i s d)) H
theorem ok_turned {f : Addr} {fd : FuncData} (F : Fun K "turned" "turned" s_turned f fd) :
    FnOk P w K mg base CX0 1 f fd ["index", "size", "digit"] (sp_turned K) := by
  refine F.ok sc_turned (fun vs H Q E h => ?_) (fun cdv A outer s H vs Q E hr h => ?_)
  · obtain ⟨i, s, d, rfl, _⟩ := h
    rfl
  · obtain ⟨i, z, d, rfl, hi, q⟩ := h
    refine ⟨_, (pss_cons (ps_if (pt_cmpR n_eq (pe_op n_mod (pv 2) pe_int) pe_int (nomark _)) (pss_one (ps_ret (pe_op n_sub (pe_op n_sub (pv 1) pe_int) (pv 0)))) pss_nil) (pss_one (ps_ret (pv 0)))), ?_⟩
    refine ⟨_, rfl, d, 2, rfl, rfl, Nat.succ_pos 1, d % 2, 1, rfl, rfl, trivial, _, rfl, ite2 (fun h1 => ?_) (fun h1 => ?_)⟩
    · rw [decide_eq_true_iff] at h1
      refine ⟨_, rfl, z, 1, rfl, rfl, by omega, _, rfl, z - 1, i, rfl, rfl, by omega, ?_⟩
      rw [show turn i z d = z - 1 - i from if_neg (by omega)] at q
      exact q
    · rw [decide_eq_true_iff] at h1
      refine ⟨_, rfl, ?_⟩
      rw [show turn i z d = i from if_pos (by omega)] at q
      exact q
/-! ### element_in_order -/
def sp_element_in_order (K : PySem.W.Frag) : Sp := fun vs H Q _ => ∃ (a : Addr) (l : List Nat) (i : Nat), vs = [.ref a, iv i] ∧ SqL K H a (l.map iv) ∧ Good l ∧ i < size l ∧ ∀ H' p, Same H H' → H p = none → H' p = some (.lst ((elementAt l i).map iv)) → Q (.ref p) H'
theorem ok_element_in_order {f : Addr} {fd : FuncData} (F : Fun K "element_in_order" "element_in_order" s_element_in_order f fd)
    (h_size_behind : Has P w K mg base "size_behind" 2 ["radices", "position"] (sp_size_behind K))
    (h_turned : Has P w K mg base "turned" 1 ["index", "size", "digit"] (sp_turned K)) (m_range : mg "range" = none) (m_len : mg "len" = none) :
    FnOk P w K mg base CX0 3 f fd ["radices", "index"] (sp_element_in_order K) := by
  obtain ⟨f_size_behind, d_size_behind, G_size_behind, g_size_behind, k_size_behind, b_size_behind⟩ := h_size_behind.ex
  obtain ⟨f_turned, d_turned, G_turned, g_turned, k_turned, b_turned⟩ := h_turned.ex
  refine F.ok sc_element_in_order (fun vs H Q E h => ?_) (fun cdv A outer s H vs Q E hr h => ?_)
  · obtain ⟨a, l, i, rfl, _⟩ := h
    rfl
  · obtain ⟨a, l, ind, rfl, hS, g, hind, q⟩ := h
    refine ⟨_, (pss_cons (ps_set (i := 2) sc_element_in_order.nd rfl (.inl rfl) (pe_lst pa_nil)) (pss_cons (ps_set (i := 3) sc_element_in_order.nd rfl (.inl rfl) (pv 1)) (pss_cons (ps_for PassesOwn.never rfl (pi_range1 (by rfl) m_range (pa_cons (pe_callB c_len (by rfl) m_len PySem.boot_len (pa_cons (pv 0) pa_nil)) pa_nil)) (pg_name (i := 4) sc_element_in_order.nd rfl (.inl rfl)) (pss_cons (ps_set (i := 5) sc_element_in_order.nd rfl (.inl rfl) (pe_call G_size_behind (hr.mono (by decide)) (by rfl) g_size_behind k_size_behind b_size_behind .nil pass0 (pa_cons (pv 0) (pa_cons (pv 4) pa_nil)))) (pss_cons (ps_set (i := 6) sc_element_in_order.nd rfl (.inl rfl) (pe_op n_div (pv 3) (pv 5))) (pss_cons (ps_expr (pe_bm PySem.F.plainAttrs_list PySem.F.slot_list_append PySem.F.type_list_append mt_append (pv 2) (pa_cons (pv 6) pa_nil))) (pss_one (ps_set (i := 3) sc_element_in_order.nd rfl (.inl rfl) (pe_call G_turned (hr.mono (by decide)) (by rfl) g_turned k_turned b_turned .nil pass0 (pa_cons (pe_op n_mod (pv 3) (pv 5)) (pa_cons (pv 5) (pa_cons (pv 6) pa_nil)))))))))) (pss_one (ps_ret (pv 2)))))), ?_⟩
    have g5 := g.hi
    refine ⟨Nat.zero_le _, fun o no => ?_⟩
    have s1 : Same H (upd H o (.lst [])) := same_new no
    refine ⟨_, rfl, ?_⟩
    refine ⟨_, rfl, a, l, rfl, s1.seq hS, (l.length : Int), rfl, by omega, by omega, for_n (fun i σ H' => ∃ (f : List Nat) (t : Nat) (v4 v5 v6 : Option V), σ = [some (.ref a), some (iv ind), some (.ref o), some (iv t), v4, v5, v6] ∧ Same H H' ∧ H' o = some (.lst (f.map iv)) ∧ f.length = i ∧ t < size (l.drop i) ∧ f ++ elementAt (l.drop i) t = elementAt l ind) ⟨[], ind, none, none, none, rfl, s1, upd_same, rfl, hind, rfl⟩ ?_ ?_⟩
    · rintro i σ H' hi ⟨f, t, v4, v5, v6, rfl, sm, eo, hf, ht, hI⟩
      obtain ⟨x, hx⟩ := at_some (l := l) (i := i) (by omega)
      have sp := size_pos (g.pos.drop (i + 1))
      have sl := g.size_le (i + 1)
      refine ⟨_, rfl, _, rfl, a, l, i, rfl, sm.seq hS, g, hi, ?_⟩
      refine ⟨_, rfl, _, rfl, t, size (l.drop (i + 1)), rfl, rfl, ⟨sp, by omega⟩, ?_⟩
      refine ⟨_, rfl, .inl ⟨rfl, _, SqL.of eo⟩, _, rfl, o, _, _, rfl, rfl, eo, ?_, ?_⟩
      · rw [List.length_map]
        exact small1000 (by omega)
      · refine ⟨_, rfl, _, rfl, t, size (l.drop (i + 1)), rfl, rfl, sp, ?_⟩
        refine ⟨_, rfl, _, rfl, t % size (l.drop (i + 1)), size (l.drop (i + 1)), t / size (l.drop (i + 1)), rfl, Nat.mod_lt _ sp, ?_⟩
        refine ⟨f ++ [t / size (l.drop (i + 1))], turn (t % size (l.drop (i + 1))) (size (l.drop (i + 1))) (t / size (l.drop (i + 1))), _, _, _, rfl, ?_, ?_, ?_, turn_lt (Nat.mod_lt _ sp), ?_⟩
        · intro c z e
          rw [upd_ne (ne_of_none e no)]
          exact sm c z e
        · rw [upd_same, List.map_append]
          rfl
        · rw [List.length_append, hf]
          rfl
        · rw [← hI, drop_at hx, elementAt_cons, List.append_assoc]
          rfl
    · rintro σ H' ⟨f, t, v4, v5, v6, rfl, sm, eo, hf, ht, hI⟩
      rw [List.drop_length, show elementAt [] t = [] from rfl, List.append_nil] at hI
      subst hI
      exact ⟨_, rfl, q H' o sm no eo⟩
/-! ### last_in_order -/
def sp_last_in_order (K : PySem.W.Frag) : Sp := fun vs H Q _ => ∃ (a : Addr) (l : List Nat), vs = [.ref a] ∧ SqL K H a (l.map iv) ∧ Good l ∧ ∀ H' p, Same H H' → H p = none → H' p = some (.lst ((elementAt l (size l - 1)).map iv)) → Q (.ref p) H'
theorem ok_last_in_order {f : Addr} {fd : FuncData} (F : Fun K "last_in_order" "last_in_order" s_last_in_order f fd)
    (h_element_in_order : Has P w K mg base "element_in_order" 3 ["radices", "index"] (sp_element_in_order K))
    (h_size_of : Has P w K mg base "size_of" 2 ["radices"] (sp_size_of K)) :
    FnOk P w K mg base CX0 4 f fd ["radices"] (sp_last_in_order K) := by
  obtain ⟨f_element_in_order, d_element_in_order, G_element_in_order, g_element_in_order, k_element_in_order, b_element_in_order⟩ := h_element_in_order.ex
  obtain ⟨f_size_of, d_size_of, G_size_of, g_size_of, k_size_of, b_size_of⟩ := h_size_of.ex
  refine F.ok sc_last_in_order (fun vs H Q E h => ?_) (fun cdv A outer s H vs Q E hr h => ?_)
  · obtain ⟨a, l, rfl, _⟩ := h
    rfl
  · obtain ⟨a, l, rfl, hS, g, q⟩ := h
    refine ⟨_, (pss_one (ps_ret (pe_call G_element_in_order (hr.mono (by decide)) (by rfl) g_element_in_order k_element_in_order b_element_in_order .nil pass0 (pa_cons (pv 0) (pa_cons (pe_op n_sub (pe_call G_size_of (hr.mono (by decide)) (by rfl) g_size_of k_size_of b_size_of .nil pass0 (pa_cons (pv 0) pa_nil)) pe_int) pa_nil))))), ?_⟩
    have sp := size_pos g.pos
    exact ⟨_, rfl, _, rfl, a, l, rfl, hS, g, size l, 1, rfl, rfl, sp, a, l, size l - 1, rfl, hS, g, by omega, q⟩
/-! ### last_element -/
def sp_last_element (K : PySem.W.Frag) : Sp := fun vs H Q _ => ∃ (a : Addr) (l : List Nat), vs = [.ref a] ∧ SqL K H a (l.map iv) ∧ l.length ≤ 7 ∧ ∀ H' p, Ans H' p (PyKs609.last_element (asInts l)) → Q (.ref p) H'
theorem ok_last_element {f : Addr} {fd : FuncData} (F : Fun K "last_element" "last_element" s_last_element f fd)
    (h_are_radices : Has P w K mg base "are_radices" 2 ["values"] (sp_are_radices K))
    (h_size_of : Has P w K mg base "size_of" 2 ["radices"] (sp_size_of K))
    (h_last_in_order : Has P w K mg base "last_in_order" 4 ["radices"] (sp_last_in_order K))
    {t_OUTSIDE : Tok} (o_OUTSIDE : mg "OUTSIDE" = some (.int (-22) t_OUTSIDE)) :
    FnOk P w K mg base CX0 5 f fd ["radices"] (sp_last_element K) := by
  obtain ⟨f_are_radices, d_are_radices, G_are_radices, g_are_radices, k_are_radices, b_are_radices⟩ := h_are_radices.ex
  obtain ⟨f_size_of, d_size_of, G_size_of, g_size_of, k_size_of, b_size_of⟩ := h_size_of.ex
  obtain ⟨f_last_in_order, d_last_in_order, G_last_in_order, g_last_in_order, k_last_in_order, b_last_in_order⟩ := h_last_in_order.ex
  refine F.ok sc_last_element (fun vs H Q E h => ?_) (fun cdv A outer s H vs Q E hr h => ?_)
  · obtain ⟨a, l, rfl, _⟩ := h
    rfl
  · obtain ⟨a, l, rfl, hS, h7, q⟩ := h
    refine ⟨_, (pss_cons (ps_if (pt_not (pt_val (pe_call G_are_radices (hr.mono (by decide)) (by rfl) g_are_radices k_are_radices b_are_radices .nil pass0 (pa_cons (pv 0) pa_nil)))) (pss_one (ps_ret (pe_lst (pa_cons (pe_glob (v := .int (-22)) rfl o_OUTSIDE ⟨_, rfl⟩) pa_nil)))) pss_nil) (pss_one (ps_ret (pe_op op_cat (pe_lst (pa_cons (pe_call G_size_of (hr.mono (by decide)) (by rfl) g_size_of k_size_of b_size_of .nil pass0 (pa_cons (pv 0) pa_nil)) pa_nil)) (pe_call G_last_in_order (hr.mono (by decide)) (by rfl) g_last_in_order k_last_in_order b_last_in_order .nil pass0 (pa_cons (pv 0) pa_nil)))))), ?_⟩
    refine ⟨_, rfl, a, l, rfl, hS, fun b hb => ⟨_, rfl, ite2 (fun h1 => ?_) (fun h1 => ?_)⟩⟩
    · have n : ¬ Good l := fun z => by
        rw [hb.mpr z] at h1
        cases h1
      rw [due4_bad n] at q
      exact ⟨one_le, fun p hp => q _ p upd_same⟩
    · have g : Good l := hb.mp (by
        cases b with
        | true => rfl
        | false => exact absurd rfl h1)
      rw [due4_some g] at q
      refine ⟨_, rfl, a, l, rfl, hS, g, one_le, fun p0 h0 => ?_⟩
      refine ⟨_, rfl, a, l, rfl, (same_new h0).seq hS, g, fun H2 p2 sm nn e2 => ?_⟩
      refine ⟨p0, p2, _, _, rfl, rfl, sm _ _ upd_same, e2, ?_, fun p3 h3 => q _ p3 (upd_same.trans ?_)⟩
      · rw [List.length_map, elementAt_length]
        exact small (show 1 + l.length ≤ 1000 by omega)
      · rw [List.map_cons, map_ints]
        rfl
end
/-! ### what the top has written -/
theorem all_mk {P : Program} {w : World} {K : PySem.W.Frag} {h : Heap} {mg : Str → Option Value} {fa f1 f2 f3 f4 f5 f6 f7 f8 f9 : Addr} (X : K.In h) (G : h.Ns mainGlobals mg) (hfa : mg "last_element" = some (.ref fa))
    {od1 an1 od2 an2 od3 an3 od4 an4 od5 an5 od6 an6 od7 an7 od8 an8 od9 an9 : Option Addr} {sl1 sl2 sl3 sl4 sl5 sl6 sl7 sl8 sl9 : Array (Option Value)}
    {oc1 kV1 dc1 pm1 cd1 ct1 oc2 kV2 dc2 pm2 cd2 ct2 oc3 kV3 dc3 pm3 cd3 ct3 oc4 kV4 dc4 pm4 cd4 ct4 oc5 kV5 dc5 pm5 cd5 ct5 oc6 kV6 dc6 pm6 cd6 ct6 oc7 kV7 dc7 pm7 cd7 ct7 oc8 kV8 dc8 pm8 cd8 ct8 oc9 kV9 dc9 pm9 cd9 ct9 : Value}
    (a1 : PySem.W.nsIn K mainGlobals "is_radix" = some (some (.ref f1)))
    (l1 : K.lookup f1 = some ⟨oc1, od1, .func (PySem.W.fnOf "is_radix" "is_radix" (defArgs s_is_radix) (defBody s_is_radix) (defScope s_is_radix) .none kV1 dc1 pm1 an1 cd1 ct1), sl1⟩)
    (c1 : PySem.W.codeIn K cd1 "is_radix" = true) (k1 : PySem.W.keepIn K (.ref f1) = true)
    (a2 : PySem.W.nsIn K mainGlobals "are_radices" = some (some (.ref f2)))
    (l2 : K.lookup f2 = some ⟨oc2, od2, .func (PySem.W.fnOf "are_radices" "are_radices" (defArgs s_are_radices) (defBody s_are_radices) (defScope s_are_radices) .none kV2 dc2 pm2 an2 cd2 ct2), sl2⟩)
    (c2 : PySem.W.codeIn K cd2 "are_radices" = true) (k2 : PySem.W.keepIn K (.ref f2) = true)
    (a3 : PySem.W.nsIn K mainGlobals "size_from" = some (some (.ref f3)))
    (l3 : K.lookup f3 = some ⟨oc3, od3, .func (PySem.W.fnOf "size_from" "size_from" (defArgs s_size_from) (defBody s_size_from) (defScope s_size_from) .none kV3 dc3 pm3 an3 cd3 ct3), sl3⟩)
    (c3 : PySem.W.codeIn K cd3 "size_from" = true) (k3 : PySem.W.keepIn K (.ref f3) = true)
    (a4 : PySem.W.nsIn K mainGlobals "size_of" = some (some (.ref f4)))
    (l4 : K.lookup f4 = some ⟨oc4, od4, .func (PySem.W.fnOf "size_of" "size_of" (defArgs s_size_of) (defBody s_size_of) (defScope s_size_of) .none kV4 dc4 pm4 an4 cd4 ct4), sl4⟩)
    (c4 : PySem.W.codeIn K cd4 "size_of" = true) (k4 : PySem.W.keepIn K (.ref f4) = true)
    (a5 : PySem.W.nsIn K mainGlobals "size_behind" = some (some (.ref f5)))
    (l5 : K.lookup f5 = some ⟨oc5, od5, .func (PySem.W.fnOf "size_behind" "size_behind" (defArgs s_size_behind) (defBody s_size_behind) (defScope s_size_behind) .none kV5 dc5 pm5 an5 cd5 ct5), sl5⟩)
    (c5 : PySem.W.codeIn K cd5 "size_behind" = true) (k5 : PySem.W.keepIn K (.ref f5) = true)
    (a6 : PySem.W.nsIn K mainGlobals "turned" = some (some (.ref f6)))
    (l6 : K.lookup f6 = some ⟨oc6, od6, .func (PySem.W.fnOf "turned" "turned" (defArgs s_turned) (defBody s_turned) (defScope s_turned) .none kV6 dc6 pm6 an6 cd6 ct6), sl6⟩)
    (c6 : PySem.W.codeIn K cd6 "turned" = true) (k6 : PySem.W.keepIn K (.ref f6) = true)
    (a7 : PySem.W.nsIn K mainGlobals "element_in_order" = some (some (.ref f7)))
    (l7 : K.lookup f7 = some ⟨oc7, od7, .func (PySem.W.fnOf "element_in_order" "element_in_order" (defArgs s_element_in_order) (defBody s_element_in_order) (defScope s_element_in_order) .none kV7 dc7 pm7 an7 cd7 ct7), sl7⟩)
    (c7 : PySem.W.codeIn K cd7 "element_in_order" = true) (k7 : PySem.W.keepIn K (.ref f7) = true)
    (a8 : PySem.W.nsIn K mainGlobals "last_in_order" = some (some (.ref f8)))
    (l8 : K.lookup f8 = some ⟨oc8, od8, .func (PySem.W.fnOf "last_in_order" "last_in_order" (defArgs s_last_in_order) (defBody s_last_in_order) (defScope s_last_in_order) .none kV8 dc8 pm8 an8 cd8 ct8), sl8⟩)
    (c8 : PySem.W.codeIn K cd8 "last_in_order" = true) (k8 : PySem.W.keepIn K (.ref f8) = true)
    (a9 : PySem.W.nsIn K mainGlobals "last_element" = some (some (.ref f9)))
    (l9 : K.lookup f9 = some ⟨oc9, od9, .func (PySem.W.fnOf "last_element" "last_element" (defArgs s_last_element) (defBody s_last_element) (defScope s_last_element) .none kV9 dc9 pm9 an9 cd9 ct9), sl9⟩)
    (c9 : PySem.W.codeIn K cd9 "last_element" = true) (k9 : PySem.W.keepIn K (.ref f9) = true)
    {t_MOST_RADICES : Tok} (o_MOST_RADICES : PySem.W.nsIn K mainGlobals "MOST_RADICES" = some (some (.int 5 t_MOST_RADICES)))
    {t_MOST_RADIX : Tok} (o_MOST_RADIX : PySem.W.nsIn K mainGlobals "MOST_RADIX" = some (some (.int 6 t_MOST_RADIX)))
    {t_OUTSIDE : Tok} (o_OUTSIDE : PySem.W.nsIn K mainGlobals "OUTSIDE" = some (some (.int (-22) t_OUTSIDE)))
    (m_len : PySem.W.nsIn K mainGlobals "len" = some none)
    (m_range : PySem.W.nsIn K mainGlobals "range" = some none)
    : ∃ fd : FuncData, (∀ (s : Shared) (us : List Value), us.length = (["radices"] : List Str).length → BindsTo s fd ⟨us, []⟩ ((["radices"] : List Str).zip us)) ∧
      ∀ base : Heap, K.In base → base.Ns mainGlobals mg → FnOk P w K mg base CX0 5 fa fd ["radices"] (sp_last_element K) := by
  have e := hfa.symm.trans (PySem.W.mg_of X G a9)
  cases e
  have F1 := fun_mk (st := s_is_radix) l1 c1 k1
  have F2 := fun_mk (st := s_are_radices) l2 c2 k2
  have F3 := fun_mk (st := s_size_from) l3 c3 k3
  have F4 := fun_mk (st := s_size_of) l4 c4 k4
  have F5 := fun_mk (st := s_size_behind) l5 c5 k5
  have F6 := fun_mk (st := s_turned) l6 c6 k6
  have F7 := fun_mk (st := s_element_in_order) l7 c7 k7
  have F8 := fun_mk (st := s_last_in_order) l8 c8 k8
  have F9 := fun_mk (st := s_last_element) l9 c9 k9
  have p_MOST_RADICES := PySem.W.mg_of X G o_MOST_RADICES
  have p_MOST_RADIX := PySem.W.mg_of X G o_MOST_RADIX
  have p_OUTSIDE := PySem.W.mg_of X G o_OUTSIDE
  have q_len := PySem.W.mg_none_of X G m_len
  have q_range := PySem.W.mg_none_of X G m_range
  refine ⟨PySem.W.fnOf "last_element" "last_element" (defArgs s_last_element) (defBody s_last_element) (defScope s_last_element) .none kV9 dc9 pm9 an9 cd9 ct9, fun s us hu => match us, hu with | [_], _ => .of_eq rfl, fun base _ _ => ?_⟩
  have B1 := F1.binds (ps := ["value"]) fun _ _ _ _ _ _ us hl => match us, hl with | [_], _ => rfl
  have H_is_radix : Has P w K mg base "is_radix" 1 ["value"] (sp_is_radix K) := ⟨_, _, ok_is_radix F1 p_MOST_RADIX, PySem.W.mg_of X G a1, k1, B1⟩
  have B2 := F2.binds (ps := ["values"]) fun _ _ _ _ _ _ us hl => match us, hl with | [_], _ => rfl
  have H_are_radices : Has P w K mg base "are_radices" 2 ["values"] (sp_are_radices K) := ⟨_, _, ok_are_radices F2 H_is_radix p_MOST_RADICES q_len, PySem.W.mg_of X G a2, k2, B2⟩
  have B3 := F3.binds (ps := ["radices", "position"]) fun _ _ _ _ _ _ us hl => match us, hl with | [_, _], _ => rfl
  have H_size_from : Has P w K mg base "size_from" 1 ["radices", "position"] (sp_size_from K) := ⟨_, _, ok_size_from F3 q_range q_len, PySem.W.mg_of X G a3, k3, B3⟩
  have B4 := F4.binds (ps := ["radices"]) fun _ _ _ _ _ _ us hl => match us, hl with | [_], _ => rfl
  have H_size_of : Has P w K mg base "size_of" 2 ["radices"] (sp_size_of K) := ⟨_, _, ok_size_of F4 H_size_from, PySem.W.mg_of X G a4, k4, B4⟩
  have B5 := F5.binds (ps := ["radices", "position"]) fun _ _ _ _ _ _ us hl => match us, hl with | [_, _], _ => rfl
  have H_size_behind : Has P w K mg base "size_behind" 2 ["radices", "position"] (sp_size_behind K) := ⟨_, _, ok_size_behind F5 H_size_from, PySem.W.mg_of X G a5, k5, B5⟩
  have B6 := F6.binds (ps := ["index", "size", "digit"]) fun _ _ _ _ _ _ us hl => match us, hl with | [_, _, _], _ => rfl
  have H_turned : Has P w K mg base "turned" 1 ["index", "size", "digit"] (sp_turned K) := ⟨_, _, ok_turned F6, PySem.W.mg_of X G a6, k6, B6⟩
  have B7 := F7.binds (ps := ["radices", "index"]) fun _ _ _ _ _ _ us hl => match us, hl with | [_, _], _ => rfl
  have H_element_in_order : Has P w K mg base "element_in_order" 3 ["radices", "index"] (sp_element_in_order K) := ⟨_, _, ok_element_in_order F7 H_size_behind H_turned q_range q_len, PySem.W.mg_of X G a7, k7, B7⟩
  have B8 := F8.binds (ps := ["radices"]) fun _ _ _ _ _ _ us hl => match us, hl with | [_], _ => rfl
  have H_last_in_order : Has P w K mg base "last_in_order" 4 ["radices"] (sp_last_in_order K) := ⟨_, _, ok_last_in_order F8 H_element_in_order H_size_of, PySem.W.mg_of X G a8, k8, B8⟩
  exact ok_last_element F9 H_are_radices H_size_of H_last_in_order p_OUTSIDE
end Sd
open PySem PySem.W PyProof.Rows
set_option maxRecDepth 100000 in
set_option maxHeartbeats 8000000 in
theorem PySem.Challenge.cw_stepdigits_s04_last_element_holds : PySem.Challenge.rw_stepdigits_s04_last_element.Holds := by
  w_on; k_headS; (case hw => exact ⟨[.list []], by decide +kernel, by decide +kernel⟩)
  k_fillS
  refine L2.walk_specK (r := PySem.Challenge.rw_stepdigits_s04_last_element) (k := 5) (CX := L2.CX0) (ps := ["radices"]) (sp := Sd.sp_last_element) (by decide +kernel) rfl rfl ⟨rfl, by decide, by decide⟩ (fun w h Y => PySem.W.kIn_of Y) ?F ?S (fun _ _ _ _ z => z)
  case F =>
    intro w mg fa h Y KX G hmg
    refine' Sd.all_mk KX G hmg ?a1 ?l1 ?c1 ?k1 ?a2 ?l2 ?c2 ?k2 ?a3 ?l3 ?c3 ?k3 ?a4 ?l4 ?c4 ?k4 ?a5 ?l5 ?c5 ?k5 ?a6 ?l6 ?c6 ?k6 ?a7 ?l7 ?c7 ?k7 ?a8 ?l8 ?c8 ?k8 ?a9 ?l9 ?c9 ?k9 ?o_MOST_RADICES ?o_MOST_RADIX ?o_OUTSIDE ?m_len ?m_range
    (case a1 => k_is); (case l1 => k_is); (case c1 => k_is); (case k1 => k_is)
    (case a2 => k_is); (case l2 => k_is); (case c2 => k_is); (case k2 => k_is)
    (case a3 => k_is); (case l3 => k_is); (case c3 => k_is); (case k3 => k_is)
    (case a4 => k_is); (case l4 => k_is); (case c4 => k_is); (case k4 => k_is)
    (case a5 => k_is); (case l5 => k_is); (case c5 => k_is); (case k5 => k_is)
    (case a6 => k_is); (case l6 => k_is); (case c6 => k_is); (case k6 => k_is)
    (case a7 => k_is); (case l7 => k_is); (case c7 => k_is); (case k7 => k_is)
    (case a8 => k_is); (case l8 => k_is); (case c8 => k_is); (case k8 => k_is)
    (case a9 => k_is); (case l9 => k_is); (case c9 => k_is); (case k9 => k_is)
    (case o_MOST_RADICES => k_is)
    (case o_MOST_RADIX => k_is)
    (case o_OUTSIDE => k_is)
    (case m_len => k_is)
    (case m_range => k_is)
  case S =>
    intro K H xs a hO hwi hask hx
    obtain ⟨m, u⟩ := a
    have w2 : ((PySem.W.Codec.inLen 0 7 m && m.all (PySem.W.Codec.inInt 0 4294967295)) && true) = true := hwi
    rw [Bool.and_true] at w2
    obtain ⟨l, rfl, h7⟩ := Sd.in_list w2
    cases hx with
    | cons h1 h2 =>
      cases h2
      cases h1 with
      | lst hs ha =>
        have e := L2.ints_dw (Sd.asInts l) _ ha
        subst e
        rw [Sd.map_ints] at hs
        exact ⟨_, l, rfl, hs, h7, fun H' p hp => .lst (L2.SqL.of hp) (L2.dw_ints _)⟩
#print axioms PySem.Challenge.cw_stepdigits_s04_last_element_holds
