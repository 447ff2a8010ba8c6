import PyProof.Rows.All
import Wide.All
import OpenK.AllK
import Wide.FinOn
import PyProof.EqAt
import PyProof.EqKinds
import PyProof.TupleCall
import Open.SpecLaws
import KE.OsGo
import HandS.ForSpec
import HandS.Comp
import HandS.NoneIn
import HandS.Conv
import HandS.SortInts
import HandS.Codes
import PySem.Challenge.RW_calledshores_s01_answers
set_option Elab.async false
set_option linter.all false
set_option maxRecDepth 100000
set_option maxHeartbeats 4000000
/-! # CaMath: the plain mathematics of the callers: no program in sight -/
namespace CM
open Km448

/-! ### lists that rise -/
theorem sorted_ext : ∀ {l1 l2 : List Nat}, l1.Pairwise (· < ·) → l2.Pairwise (· < ·) → (∀ x, x ∈ l1 ↔ x ∈ l2) → l1 = l2
  | [], [], _, _, _ => rfl
  | [], b :: l2, _, _, h => absurd ((h b).mpr List.mem_cons_self) (by simp)
  | a :: l1, [], _, _, h => absurd ((h a).mp List.mem_cons_self) (by simp)
  | a :: l1, b :: l2, h1, h2, h => by
    obtain ⟨a1, p1⟩ := List.pairwise_cons.mp h1
    obtain ⟨b1, p2⟩ := List.pairwise_cons.mp h2
    have e : a = b := by
      rcases List.mem_cons.mp ((h a).mp List.mem_cons_self) with e | e
      · exact e
      · rcases List.mem_cons.mp ((h b).mpr List.mem_cons_self) with e' | e'
        · exact e'.symm
        · have q1 := b1 a e
          have q2 := a1 b e'
          omega
    subst e
    refine congrArg _ (sorted_ext p1 p2 fun x => ⟨fun hx => ?_, fun hx => ?_⟩)
    · rcases List.mem_cons.mp ((h x).mp (List.mem_cons_of_mem _ hx)) with e | e
      · have := a1 x hx; omega
      · exact e
    · rcases List.mem_cons.mp ((h x).mpr (List.mem_cons_of_mem _ hx)) with e | e
      · have := b1 x hx; omega
      · exact e
theorem range_rises (n : Nat) : (List.range n).Pairwise (· < ·) := List.pairwise_lt_range
/-- one item more -/
theorem take_more {α : Type} : ∀ {l : List α} {i : Nat} {x : α}, l[i]? = some x → l.take (i + 1) = l.take i ++ [x]
  | [], _, _, h => by simp at h
  | a :: _, 0, x, h => by
    have e : a = x := Option.some.inj h
    subst e
    rfl
  | a :: l, i + 1, x, h => by
    have ih := take_more (l := l) (i := i) (x := x) h
    show a :: l.take (i + 1) = a :: l.take i ++ [x]
    rw [ih]
    rfl
theorem headD_mem : ∀ {l : List Nat} {d : Nat}, l.headD d = d ∨ l.headD d ∈ l
  | [], _ => .inl rfl
  | a :: l, _ => .inr List.mem_cons_self

/-! ### contents -/
def contentI (k x y : Int) : Bool := decide (1 ≤ k) && (decide (k ≤ 9) && (decide (x ≤ 1000000) && decide (y ≤ 1000000)))
theorem content_eq (k x y : Nat) : contentI k x y = okWhat ⟨k, x, y⟩ := by
  unfold contentI okWhat MOST
  dsimp only
  have e1 : decide (1 ≤ (k : Int)) = decide (1 ≤ k) := decide_eq_decide.mpr (by omega)
  have e2 : decide ((k : Int) ≤ 9) = decide (k ≤ 9) := decide_eq_decide.mpr (by omega)
  have e3 : decide ((x : Int) ≤ 1000000) = decide (x ≤ 1000000) := decide_eq_decide.mpr (by omega)
  have e4 : decide ((y : Int) ≤ 1000000) = decide (y ≤ 1000000) := decide_eq_decide.mpr (by omega)
  rw [e1, e2, e3, e4]
/-- is_call's answer -/
def isCallI (w k i a x y : Int) : Bool := decide (w = 1) && (decide (k ≤ 3) && (decide (i < 30) && contentI a x y))
theorem isCall_eq (w k i a x y : Nat) : isCallI w k i a x y = (goodCall [w, k, i, a, x, y]).isSome := by
  unfold isCallI
  rw [content_eq]
  by_cases hw : w = 1
  · subst hw
    have e : goodCall [1, k, i, a, x, y] = if k < CALLERS ∧ i < CALLS ∧ okWhat ⟨a, x, y⟩ = true then some ⟨k, i, ⟨a, x, y⟩⟩ else none := rfl
    rw [e]
    by_cases c : k < CALLERS ∧ i < CALLS ∧ okWhat ⟨a, x, y⟩ = true
    · rw [if_pos c]
      obtain ⟨c1, c2, c3⟩ := c
      unfold CALLERS at c1
      unfold CALLS at c2
      rw [c3, decide_eq_true (show (k : Int) ≤ 3 by omega), decide_eq_true (show (i : Int) < 30 by omega)]
      rfl
    · rw [if_neg c]
      unfold CALLERS CALLS at c
      have : (decide ((k : Int) ≤ 3) && (decide ((i : Int) < 30) && okWhat ⟨a, x, y⟩)) = false := by
        cases h : okWhat ⟨a, x, y⟩ with
        | false => simp
        | true =>
          rw [h] at c
          by_cases c1 : k < 4
          · have c2 : ¬ i < 30 := fun c2 => c ⟨c1, c2, rfl⟩
            rw [decide_eq_false (show ¬ (i : Int) < 30 by omega)]
            simp
          · rw [decide_eq_false (show ¬ (k : Int) ≤ 3 by omega)]
            simp
      rw [this]
      simp
  · have : goodCall [w, k, i, a, x, y] = none := by
      unfold goodCall
      split
      · rename_i h
        injection h with h1
        exact absurd h1 hw
      · rfl
    rw [this, decide_eq_false (show ¬ (w : Int) = 1 by omega)]
    rfl
theorem goodCall_some {w k i a x y : Nat} {h : Heard} (e : goodCall [w, k, i, a, x, y] = some h) : w = 1 ∧ k < 4 ∧ i < 30 ∧ h = ⟨k, i, ⟨a, x, y⟩⟩ := by
  unfold goodCall at e
  split at e
  · rename_i h1
    injection h1 with h1 h2
    injection h2 with h2 h3
    injection h3 with h3 h4
    injection h4 with h4 h5
    injection h5 with h5 h6
    injection h6 with h6 h7
    subst h1 h2 h3 h4 h5 h6
    split at e
    · rename_i c
      injection e with e
      exact ⟨rfl, c.1, c.2.1, e.symm⟩
    · cases e
  · cases e

/-! ### a caller -/
structure WF (c : Caller) : Prop where
  len : c.known.length = c.said.length
  most : c.said.length ≤ 30
  last : c.last ≤ 30
def lastI (c : Caller) : Int := if c.last < 30 then (c.last : Int) else -1
theorem wf0 (me : Nat) : WF (caller0 me) := ⟨rfl, Nat.zero_le _, Nat.le_refl 30⟩
theorem mem_open {c : Caller} {i : Nat} : i ∈ c.open_ ↔ i < c.said.length ∧ c.knows i = false := by
  unfold Caller.open_
  rw [List.mem_filter, List.mem_range]
  simp
theorem open_rises (c : Caller) : c.open_.Pairwise (· < ·) := (range_rises _).filter _
theorem open_length (c : Caller) : c.open_.length ≤ c.said.length := by
  unfold Caller.open_
  exact Nat.le_trans (List.length_filter_le _ _) (by rw [List.length_range]; exact Nat.le_refl _)
theorem knows_at {c : Caller} (W : WF c) {i : Nat} (h : i < c.said.length) : c.known[i]? = some (c.knows i) := by
  unfold Caller.knows
  have h' : i < c.known.length := by rw [W.len]; exact h
  rw [List.getD_eq_getElem?_getD, List.getElem?_eq_getElem h']
  rfl
theorem first_le {c : Caller} {i : Nat} (h : i ∈ c.open_) : c.first ≤ i := by
  unfold Caller.first
  have r := open_rises c
  cases e : c.open_ with
  | nil => rw [e] at h; cases h
  | cons a l =>
    rw [e] at h r
    show a ≤ i
    rcases List.mem_cons.mp h with e | e
    · omega
    · have := (List.pairwise_cons.mp r).1 i e
      omega
theorem first_len (c : Caller) : c.first ≤ c.said.length := by
  unfold Caller.first
  rcases headD_mem (l := c.open_) (d := c.said.length) with e | e
  · exact Nat.le_of_eq e
  · exact Nat.le_of_lt (mem_open.mp e).1
/-- min([n] + some) -/
theorem min_first {c : Caller} {m : Int} (h : m ∈ Km448Neutral.nums (c.said.length :: c.open_)) (hl : ∀ y, y ∈ Km448Neutral.nums (c.said.length :: c.open_) → m ≤ y) : m = (c.first : Int) := by
  unfold Km448Neutral.nums at h hl
  obtain ⟨j, hj, rfl⟩ := List.mem_map.mp h
  have up : (c.first : Int) ≤ (j : Int) := by
    rcases List.mem_cons.mp hj with e | e
    · subst e
      have := first_len c
      omega
    · have := first_le e
      omega
  have mem : c.first ∈ c.said.length :: c.open_ := by
    unfold Caller.first
    rcases headD_mem (l := c.open_) (d := c.said.length) with e | e
    · rw [e]; exact List.mem_cons_self
    · exact List.mem_cons_of_mem _ e
  have := hl _ (List.mem_map.mpr ⟨_, mem, rfl⟩)
  omega
def mayC (c : Caller) : Bool := decide (c.said.length < 30) && decide (c.said.length < c.first + 8)
theorem mayC_iff (c : Caller) : (CALLS ≤ c.said.length ∨ c.first + WINDOW ≤ c.said.length) ↔ mayC c = false := by
  unfold mayC CALLS WINDOW
  by_cases a : c.said.length < 30
  · by_cases b : c.said.length < c.first + 8
    · rw [decide_eq_true a, decide_eq_true b]
      simp
      omega
    · rw [decide_eq_true a, decide_eq_false b]
      simp
      omega
  · rw [decide_eq_false a]
    simp
    omega

/-! ### told next -/
theorem find_head {p : Nat → Bool} : ∀ l : List Nat, l.find? p = (l.filter p).head?
  | [] => rfl
  | a :: l => by
    rw [List.find?_cons, List.filter_cons]
    cases h : p a with
    | true => rfl
    | false => exact find_head l
/-- (later + some)[0] -/
theorem next_eq {c : Caller} : c.next = (c.open_.filter (fun i : Nat => decide (lastI c < (i : Int))) ++ c.open_).head? ∨ (c.open_ = [] ∧ c.next = none) := by
  unfold Caller.next
  by_cases hl : c.last < 30
  · left
    have e : (fun i : Nat => decide (c.last < i) && decide (c.last < CALLS)) = fun i : Nat => decide (lastI c < (i : Int)) := by
      funext i
      unfold lastI CALLS
      rw [if_pos hl, decide_eq_true hl, Bool.and_true]
      exact decide_eq_decide.mpr (by omega)
    rw [find_head, e]
    cases h : c.open_.filter fun i : Nat => decide (lastI c < (i : Int)) with
    | nil => rfl
    | cons a l => rfl
  · have e : (fun i : Nat => decide (c.last < i) && decide (c.last < CALLS)) = fun _ => false := by
      funext i
      unfold CALLS
      rw [decide_eq_false hl, Bool.and_false]
    have e2 : (fun i : Nat => decide (lastI c < (i : Int))) = fun _ => true := by
      funext i
      unfold lastI
      rw [if_neg hl]
      exact decide_eq_true (by omega)
    rw [e, e2]
    cases h : c.open_ with
    | nil => right; exact ⟨rfl, rfl⟩
    | cons a l =>
      left
      have q : (a :: l).find? (fun _ : Nat => false) = none := List.find?_eq_none.mpr (by simp)
      rw [q]
      rfl
theorem next_mem {c : Caller} {i : Nat} (h : c.next = some i) : i ∈ c.open_ := by
  unfold Caller.next at h
  cases e : c.open_.find? fun i => decide (c.last < i) && decide (c.last < CALLS) with
  | some j =>
    rw [e] at h
    cases h
    exact List.mem_of_find?_eq_some e
  | none =>
    rw [e] at h
    exact List.mem_of_mem_head? (by simpa using h)
theorem next_none {c : Caller} : c.next = none ↔ c.open_ = [] := by
  constructor
  · intro h
    rcases next_eq (c := c) with e | e
    · rw [h] at e
      cases h2 : c.open_ with
      | nil => rfl
      | cons a l =>
        rw [h2] at e
        cases h3 : (a :: l).filter fun i : Nat => decide (lastI c < (i : Int)) with
        | nil => rw [h3] at e; cases e
        | cons b r => rw [h3] at e; cases e
    · exact e.1
  · intro h
    unfold Caller.next
    rw [h]
    rfl

/-! ### what an answer tells -/
def toldN (n b : Nat) : List Nat := List.range n ++ ((List.range 8).filter fun j => b.testBit j).map fun j => n + 1 + j
def tells (n b i : Nat) : Bool := decide (i < n) || (decide (n + 1 ≤ i) && (decide (i < n + 1 + 8) && b.testBit (i - (n + 1))))
theorem mem_toldN {n b i : Nat} : i ∈ toldN n b ↔ tells n b i = true := by
  unfold toldN tells
  rw [List.mem_append, List.mem_range, List.mem_map]
  simp only [Bool.or_eq_true, Bool.and_eq_true, decide_eq_true_eq, List.mem_filter, List.mem_range]
  constructor
  · rintro (h | ⟨j, ⟨h1, h2⟩, rfl⟩)
    · exact .inl h
    · refine .inr ⟨by omega, by omega, ?_⟩
      rw [show n + 1 + j - (n + 1) = j by omega]
      exact h2
  · rintro (h | ⟨h1, h2, h3⟩)
    · exact .inl h
    · exact .inr ⟨i - (n + 1), ⟨by omega, h3⟩, by omega⟩
theorem toldN_rises (n b : Nat) : (toldN n b).Pairwise (· < ·) := by
  unfold toldN
  rw [List.pairwise_append]
  refine ⟨range_rises n, ?_, fun x hx y hy => ?_⟩
  · rw [List.pairwise_map]
    exact ((range_rises 8).filter _).imp fun h => by omega
  · obtain ⟨j, _, rfl⟩ := List.mem_map.mp hy
    have := List.mem_range.mp hx
    omega
theorem toldN_length (n b : Nat) : (toldN n b).length ≤ n + 8 := by
  unfold toldN
  rw [List.length_append, List.length_map, List.length_range]
  have := List.length_filter_le (fun j => b.testBit j) (List.range 8)
  rw [List.length_range] at this
  omega
/-- is_good's answer -/
def goodI (c : Caller) (w k n b o z : Nat) : Bool :=
  decide (w = 2) && (decide (k = c.me) && (decide (o = 0) && (decide (z = 0) && (decide (n ≤ c.said.length) && (decide (b < 256) && ((toldN n b).filter fun i => decide (c.said.length ≤ i)).isEmpty)))))
theorem good_eq (c : Caller) (w k n b o z : Nat) : c.good [w, k, n, b, o, z] = goodI c w k n b o z := by
  unfold goodI
  by_cases h : w = 2 ∧ o = 0 ∧ z = 0
  · obtain ⟨rfl, rfl, rfl⟩ := h
    have e : c.good [2, k, n, b, 0, 0] = (k == c.me && (decide (n ≤ c.said.length) && (decide (b < 2 ^ WINDOW) && (List.range WINDOW).all fun j => !(b.testBit j) || decide (n + 1 + j < c.said.length)))) := rfl
    rw [e]
    have e1 : (k == c.me) = decide (k = c.me) := by
      by_cases q : k = c.me
      · rw [decide_eq_true q]; simp [q]
      · rw [decide_eq_false q]; simp [q]
    have e2 : decide (b < 2 ^ WINDOW) = decide (b < 256) := rfl
    rw [e1, e2]
    by_cases hn : n ≤ c.said.length
    · have e3 : ((List.range WINDOW).all fun j => !(b.testBit j) || decide (n + 1 + j < c.said.length)) = ((toldN n b).filter fun i => decide (c.said.length ≤ i)).isEmpty := by
        rw [Bool.eq_iff_iff, List.all_eq_true, List.isEmpty_iff, List.filter_eq_nil_iff]
        constructor
        · intro q i hi
          rw [mem_toldN] at hi
          unfold tells at hi
          simp only [Bool.or_eq_true, Bool.and_eq_true, decide_eq_true_eq] at hi ⊢
          rcases hi with hi | ⟨h1, h2, h3⟩
          · omega
          · have := q (i - (n + 1)) (List.mem_range.mpr (by unfold WINDOW; omega))
            rw [h3] at this
            simp at this
            omega
        · intro q j hj
          have hj := List.mem_range.mp hj
          unfold WINDOW at hj
          cases hb : b.testBit j with
          | false => rfl
          | true =>
            have := q (n + 1 + j) (mem_toldN.mpr (by
              unfold tells
              simp only [Bool.or_eq_true, Bool.and_eq_true, decide_eq_true_eq]
              exact .inr ⟨by omega, by omega, by rw [show n + 1 + j - (n + 1) = j by omega]; exact hb⟩))
            simp at this ⊢
            omega
      rw [e3]
      simp
    · rw [decide_eq_false hn]
      simp
  · have e : c.good [w, k, n, b, o, z] = false := by
      unfold Caller.good
      split
      · rename_i h1
        injection h1 with h1 h2
        injection h2 with h2 h3
        injection h3 with h3 h4
        injection h4 with h4 h5
        injection h5 with h5 h6
        injection h6 with h6 h7
        exact absurd ⟨h1, h5, h6⟩ h
      · rfl
    rw [e]
    by_cases h1 : w = 2
    · by_cases h2 : o = 0
      · have h3 : ¬ z = 0 := fun h3 => h ⟨h1, h2, h3⟩
        rw [decide_eq_false h3]
        simp
      · rw [decide_eq_false h2]
        simp
    · rw [decide_eq_false h1]
      simp
/-- the open ones of which an answer tells -/
def newlyN (c : Caller) (n b : Nat) : List Nat := (toldN n b).filter fun i => !c.knows i
theorem newly_mem {c : Caller} {n b i : Nat} : i ∈ newlyN c n b ↔ tells n b i = true ∧ c.knows i = false := by
  unfold newlyN
  rw [List.mem_filter, mem_toldN]
  simp
/-- a good answer tells of no other than called ones -/
theorem told_lt {c : Caller} {w k n b o z i : Nat} (g : c.good [w, k, n, b, o, z] = true) (h : tells n b i = true) : i < c.said.length := by
  rw [good_eq] at g
  unfold goodI at g
  simp only [Bool.and_eq_true, decide_eq_true_eq, List.isEmpty_iff, List.filter_eq_nil_iff] at g
  have := g.2.2.2.2.2.2 i (mem_toldN.mpr h)
  omega
theorem good_bounds {c : Caller} {w k n b o z : Nat} (g : c.good [w, k, n, b, o, z] = true) : n ≤ c.said.length ∧ b < 256 := by
  rw [good_eq] at g
  unfold goodI at g
  simp only [Bool.and_eq_true, decide_eq_true_eq] at g
  exact ⟨g.2.2.2.2.1, g.2.2.2.2.2.1⟩
theorem hears_knows {c : Caller} {w k n b o z i : Nat} (h : i < c.said.length) : (c.hears [w, k, n, b, o, z]).knows i = (c.knows i || tells n b i) := by
  unfold Caller.knows Caller.hears
  dsimp only
  rw [List.getD_eq_getElem?_getD, List.getElem?_map, List.getElem?_range h]
  rfl
theorem hears_said {c : Caller} {m : List Nat} : (c.hears m).said = c.said := rfl
theorem hears_open {c : Caller} {w k n b o z : Nat} : (c.hears [w, k, n, b, o, z]).open_ = c.open_.filter fun i => !tells n b i := by
  refine sorted_ext (open_rises _) ((open_rises _).filter _) fun i => ?_
  rw [mem_open, List.mem_filter, mem_open, hears_said]
  constructor
  · rintro ⟨h1, h2⟩
    rw [hears_knows h1] at h2
    simp at h2
    exact ⟨⟨h1, h2.1⟩, by simp [h2.2]⟩
  · rintro ⟨⟨h1, h2⟩, h3⟩
    refine ⟨h1, ?_⟩
    rw [hears_knows h1, h2]
    simpa using h3
theorem newly_open {c : Caller} {w k n b o z : Nat} (g : c.good [w, k, n, b, o, z] = true) : newlyN c n b = c.open_.filter fun i => tells n b i := by
  refine sorted_ext ((toldN_rises n b).filter _) ((open_rises _).filter _) fun i => ?_
  rw [List.mem_filter, mem_open]
  constructor
  · intro h
    have := newly_mem.mp h
    exact ⟨⟨told_lt g this.1, this.2⟩, this.1⟩
  · rintro ⟨⟨_, h2⟩, h3⟩
    exact newly_mem.mpr ⟨h3, h2⟩
theorem length_split {p : Nat → Bool} : ∀ l : List Nat, (l.filter p).length + (l.filter fun i => !p i).length = l.length
  | [] => rfl
  | a :: l => by
    have ih := length_split (p := p) l
    rw [List.filter_cons, List.filter_cons]
    cases h : p a with
    | true => simp; omega
    | false => simp; omega
theorem newly_length {c : Caller} {w k n b o z : Nat} (g : c.good [w, k, n, b, o, z] = true) : c.open_.length - (c.hears [w, k, n, b, o, z]).open_.length = (newlyN c n b).length := by
  rw [newly_open g, hears_open]
  have := length_split (p := fun i => tells n b i) c.open_
  omega
/-- self.heard[number] = True for all of them -/
def setAll (l : List Bool) (is : List Nat) : List Bool := is.foldl (fun l i => l.set i true) l
theorem setAll_length : ∀ (is : List Nat) (l : List Bool), (setAll l is).length = l.length
  | [], _ => rfl
  | i :: r, l => by
    show (setAll (l.set i true) r).length = l.length
    rw [setAll_length r, List.length_set]
theorem setAll_get : ∀ (is : List Nat) (l : List Bool) (j : Nat), j < l.length → (setAll l is)[j]? = some (l.getD j false || decide (j ∈ is))
  | [], l, j, h => by
    show l[j]? = _
    rw [List.getD_eq_getElem?_getD, List.getElem?_eq_getElem h]
    simp
  | i :: r, l, j, h => by
    show (setAll (l.set i true) r)[j]? = _
    rw [setAll_get r _ j (by rw [List.length_set]; exact h)]
    rw [List.getD_eq_getElem?_getD, List.getD_eq_getElem?_getD]
    by_cases e : i = j
    · subst e
      rw [List.getElem?_set_self h]
      simp
    · rw [List.getElem?_set_ne e]
      have e' : ¬ j = i := fun q => e q.symm
      simp [e']
theorem hears_known {c : Caller} (W : WF c) {w k n b o z : Nat} : (c.hears [w, k, n, b, o, z]).known = setAll c.known (newlyN c n b) := by
  refine List.ext_getElem? fun j => ?_
  by_cases h : j < c.said.length
  · have h' : j < c.known.length := by rw [W.len]; exact h
    rw [setAll_get _ _ _ h']
    have e : (c.hears [w, k, n, b, o, z]).known[j]? = some (c.knows j || tells n b j) := by
      unfold Caller.hears
      dsimp only
      rw [List.getElem?_map, List.getElem?_range h]
      rfl
    rw [e]
    refine congrArg some ?_
    show (c.knows j || tells n b j) = (c.knows j || decide (j ∈ newlyN c n b))
    cases h1 : c.knows j with
    | true => rfl
    | false =>
      cases h2 : tells n b j with
      | true => rw [decide_eq_true (newly_mem.mpr ⟨h2, h1⟩)]
      | false => rw [decide_eq_false (fun q => by have := (newly_mem.mp q).1; rw [h2] at this; cases this)]
  · have e1 : (c.hears [w, k, n, b, o, z]).known.length = c.said.length := by
      unfold Caller.hears
      dsimp only
      rw [List.length_map, List.length_range]
    rw [List.getElem?_eq_none (by omega), List.getElem?_eq_none (by rw [setAll_length, W.len]; omega)]
/-- what a caller becomes stands well -/
theorem wf_does {c : Caller} (W : WF c) (x : Call) : WF (cDoes c x).1 := by
  cases x with
  | cStart me =>
    unfold cDoes
    dsimp only
    split
    · exact W
    · exact wf0 me
  | cSay k x y =>
    unfold cDoes
    dsimp only
    split
    · exact W
    · split
      · exact W
      · rename_i h
        unfold CALLS at h
        refine ⟨?_, ?_, W.last⟩
        · show (c.known ++ [false]).length = (c.said ++ [_]).length
          rw [List.length_append, List.length_append, W.len]
          rfl
        · show (c.said ++ [_]).length ≤ 30
          rw [List.length_append, List.length_singleton]
          omega
  | cTell =>
    unfold cDoes
    dsimp only
    split
    · exact W
    · rename_i i e
      refine ⟨W.len, W.most, ?_⟩
      have := (mem_open.mp (next_mem e)).1
      have := W.most
      show i ≤ 30
      omega
  | cHear m =>
    unfold cDoes
    dsimp only
    split
    · exact W
    · refine ⟨?_, W.most, W.last⟩
      show (List.map _ (List.range c.said.length)).length = c.said.length
      rw [List.length_map, List.length_range]
  | _ => exact W
end CM

/-! # ShMath: the plain mathematics of the shore -/
namespace CM
open Km448

theorem isSome_find {α : Type} {p : α → Bool} : ∀ l : List α, (l.find? p).isSome = l.any p
  | [] => rfl
  | a :: l => by
    rw [List.find?_cons, List.any_cons]
    cases h : p a with
    | true => rfl
    | false => rw [isSome_find l]; simp
structure WFS (s : Shore) : Prop where
  keys : (s.log.map fun h => (h.who, h.number)).Nodup
  nums : ∀ h ∈ s.log, h.who < 4 ∧ h.number < 30
theorem wfs0 : WFS shore0 := ⟨List.nodup_nil, fun _ h => by cases h⟩
theorem has_iff {s : Shore} {k i : Nat} : s.has k i = true ↔ ∃ h ∈ s.log, h.who = k ∧ h.number = i := by
  unfold Shore.has Shore.at_
  rw [Option.isSome_map, isSome_find, List.any_eq_true]
  simp
theorem at_none {s : Shore} {k i : Nat} (h : s.at_ k i = none) : s.has k i = false := by
  unfold Shore.has
  rw [h]
  rfl
theorem at_some {s : Shore} {k i : Nat} {w : What} (h : s.at_ k i = some w) : s.has k i = true := by
  unfold Shore.has
  rw [h]
  rfl
/-- the numbers of caller k's that are kept -/
def hasL (s : Shore) (k : Nat) : List Nat := (List.range 30).filter fun i => s.has k i
theorem hasL_rises (s : Shore) (k : Nat) : (hasL s k).Pairwise (· < ·) := (range_rises _).filter _
theorem has_lt {s : Shore} (W : WFS s) {k i : Nat} (h : s.has k i = true) : i < 30 := by
  obtain ⟨x, hx, _, rfl⟩ := has_iff.mp h
  exact (W.nums x hx).2
theorem mem_hasL {s : Shore} (W : WFS s) {k i : Nat} : i ∈ hasL s k ↔ s.has k i = true := by
  unfold hasL
  rw [List.mem_filter, List.mem_range]
  exact ⟨fun h => h.2, fun h => ⟨has_lt W h, h⟩⟩
/-- caller k's numbers as they came -/
def ofL (s : Shore) (k : Nat) : List Nat := (s.log.filter fun h => h.who == k).map fun h => h.number
theorem mem_ofL {s : Shore} {k i : Nat} : i ∈ ofL s k ↔ s.has k i = true := by
  unfold ofL
  rw [List.mem_map, has_iff]
  constructor
  · rintro ⟨h, h1, rfl⟩
    obtain ⟨h2, h3⟩ := List.mem_filter.mp h1
    exact ⟨h, h2, by simpa using h3, rfl⟩
  · rintro ⟨h, h1, h2, rfl⟩
    exact ⟨h, List.mem_filter.mpr ⟨h1, by simpa using h2⟩, rfl⟩
theorem nodup_ofL_of : ∀ {l : List Heard} {k : Nat}, (l.map fun h => (h.who, h.number)).Nodup → ((l.filter fun h => h.who == k).map fun h => h.number).Nodup
  | [], _, _ => List.nodup_nil
  | a :: l, k, h => by
    rw [List.map_cons, List.nodup_cons] at h
    have ih := nodup_ofL_of (l := l) (k := k) h.2
    rw [List.filter_cons]
    split
    · rename_i e
      have e : a.who = k := by simpa using e
      rw [List.map_cons, List.nodup_cons]
      refine ⟨fun q => ?_, ih⟩
      obtain ⟨b, hb, eb⟩ := List.mem_map.mp q
      obtain ⟨hb1, hb2⟩ := List.mem_filter.mp hb
      have hb2 : b.who = k := by simpa using hb2
      exact h.1 (List.mem_map.mpr ⟨b, hb1, by rw [hb2, eb, e]⟩)
    · exact ih
theorem rises_of_le : ∀ {l : List Int}, l.Pairwise (· ≤ ·) → l.Nodup → l.Pairwise (· < ·)
  | [], _, _ => List.Pairwise.nil
  | a :: l, h, n => by
    rw [List.pairwise_cons] at h ⊢
    rw [List.nodup_cons] at n
    refine ⟨fun b hb => ?_, rises_of_le h.2 n.2⟩
    have := h.1 b hb
    have : a ≠ b := fun e => n.1 (e ▸ hb)
    omega
theorem nums_map (l : List Nat) : Km448Neutral.nums l = l.map fun (x : Nat) => (x : Int) := rfl
theorem toNat_nums (l : List Nat) : (Km448Neutral.nums l).map Int.toNat = l := by
  rw [nums_map, List.map_map]
  induction l with
  | nil => rfl
  | cons a l ih => rw [List.map_cons, ih]; rfl
/-- sorted(..) of caller k's numbers -/
theorem sorted_hasL {s : Shore} (W : WFS s) {k : Nat} {ns : List Int} (p : ns.Perm (Km448Neutral.nums (ofL s k))) (r : ns.Pairwise (· ≤ ·)) : ns = Km448Neutral.nums (hasL s k) := by
  have nd : (ofL s k).Nodup := nodup_ofL_of W.keys
  have inj : Function.Injective (fun (x : Nat) => (x : Int)) := fun a b h => Int.ofNat.inj h
  have nd2 : ns.Nodup := p.nodup_iff.mpr (by
    rw [nums_map]
    exact List.Pairwise.map _ (fun a b h q => h (inj q)) nd)
  have r2 := rises_of_le r nd2
  -- all are natural
  have mem : ∀ x, x ∈ ns ↔ ∃ i, s.has k i = true ∧ x = (i : Int) := fun x => by
    rw [p.mem_iff, nums_map, List.mem_map]
    exact ⟨fun ⟨i, h, e⟩ => ⟨i, mem_ofL.mp h, e.symm⟩, fun ⟨i, h, e⟩ => ⟨i, mem_ofL.mpr h, e.symm⟩⟩
  have e1 : ns = Km448Neutral.nums (ns.map Int.toNat) := by
    rw [nums_map, List.map_map]
    have : ∀ x ∈ ns, ((fun (x : Nat) => (x : Int)) ∘ Int.toNat) x = x := fun x hx => by
      obtain ⟨i, _, rfl⟩ := (mem x).mp hx
      rfl
    rw [List.map_congr_left this]
    simp
  have e2 : ns.map Int.toNat = hasL s k := by
    refine sorted_ext ?_ (hasL_rises s k) fun i => ?_
    · rw [List.pairwise_map]
      refine r2.imp_of_mem fun {a b} ha hb h => ?_
      obtain ⟨i, _, rfl⟩ := (mem a).mp ha
      obtain ⟨j, _, rfl⟩ := (mem b).mp hb
      simp only [Int.toNat_natCast]
      omega
    · rw [mem_hasL W, List.mem_map]
      constructor
      · rintro ⟨x, hx, rfl⟩
        obtain ⟨i, hi, rfl⟩ := (mem x).mp hx
        exact hi
      · intro h
        exact ⟨(i : Int), (mem _).mpr ⟨i, h, rfl⟩, rfl⟩
  rw [e2] at e1
  exact e1
theorem ofL_length {s : Shore} (W : WFS s) (k : Nat) : (s.log.filter fun h => h.who == k).length = (hasL s k).length := by
  have e : (ofL s k).length = (s.log.filter fun h => h.who == k).length := by
    unfold ofL
    rw [List.length_map]
  rw [← e]
  exact ((List.perm_ext_iff_of_nodup (nodup_ofL_of W.keys) ((hasL_rises s k).imp fun h => Nat.ne_of_lt h)).mpr fun i => by
    rw [mem_hasL W]
    exact mem_ofL).length_eq
/-! ### all there -/
theorem upto_le (s : Shore) (k : Nat) : s.upto k ≤ 30 := by
  unfold Shore.upto CALLS
  cases e : (List.range 30).find? fun i => !s.has k i with
  | none => exact Nat.le_refl _
  | some i =>
    have := List.mem_range.mp (List.mem_of_find?_eq_some e)
    show i ≤ 30
    omega
theorem find_range {p : Nat → Bool} {n w : Nat} (hw : w < n) (h0 : p w = true) (h1 : ∀ i, i < w → p i = false) : (List.range n).find? p = some w := by
  rw [List.find?_range_eq_some]
  refine ⟨h0, List.mem_range.mpr hw, fun j hj => ?_⟩
  simp [h1 j hj]
/-- the while's end -/
theorem upto_is {s : Shore} (W : WFS s) {k w : Nat} (h0 : s.has k w = false) (h1 : ∀ i, i < w → s.has k i = true) : s.upto k = w := by
  unfold Shore.upto CALLS
  by_cases hw : w < 30
  · rw [find_range hw (by rw [h0]; rfl) (fun i hi => by rw [h1 i hi]; rfl)]
    rfl
  · have hw : w = 30 := by
      by_cases q : w = 30
      · exact q
      · have := has_lt W (h1 30 (by omega))
        omega
    subst hw
    have : (List.range 30).find? (fun i => !s.has k i) = none := List.find?_eq_none.mpr fun i hi => by
      rw [h1 i (List.mem_range.mp hi)]
      simp
    rw [this]
    rfl
theorem bits_from : ∀ (l : List Nat) (w : Nat), l.foldl (fun w k => w + 2 ^ k) w = w + bits l
  | [], w => by unfold bits; simp
  | a :: l, w => by
    unfold bits
    rw [List.foldl_cons, List.foldl_cons, bits_from l, bits_from l]
    omega
theorem bits_cons (a : Nat) (l : List Nat) : bits (a :: l) = 2 ^ a + bits l := by
  unfold bits
  rw [List.foldl_cons, bits_from]
  unfold bits
  omega
theorem bits_append (l r : List Nat) : bits (l ++ r) = bits l + bits r := by
  unfold bits
  rw [List.foldl_append, bits_from]
  rfl
theorem bits_more {l : List Nat} {i j : Nat} (h : l[i]? = some j) : bits (l.take (i + 1)) = bits (l.take i) + 2 ^ j := by
  rw [take_more h, bits_append, bits_cons]
  unfold bits
  simp
theorem fold_if {p : Nat → Bool} : ∀ (l : List Nat) (w : Nat), l.foldl (fun w j => if p j = true then w + 2 ^ j else w) w = w + bits (l.filter p)
  | [], w => by unfold bits; simp
  | a :: l, w => by
    rw [List.foldl_cons, fold_if l, List.filter_cons]
    cases h : p a with
    | true =>
      rw [if_pos rfl, if_pos rfl, bits_cons]
      omega
    | false => simp
theorem above_is {s : Shore} (W : WFS s) (k : Nat) : s.above k = bits (((hasL s k).filter fun n => decide (s.upto k < n) && decide (n ≤ s.upto k + 8)).map fun n => n - s.upto k - 1) := by
  unfold Shore.above
  have e := fold_if (p := fun j => s.has k (s.upto k + 1 + j)) (List.range WINDOW) 0
  rw [Nat.zero_add] at e
  rw [e]
  refine congrArg bits (sorted_ext ((range_rises _).filter _) ?_ fun j => ?_)
  · rw [List.pairwise_map]
    refine ((hasL_rises s k).filter _).imp_of_mem fun {a b} ha hb h => ?_
    have := (List.mem_filter.mp ha).2
    simp at this
    omega
  · rw [List.mem_filter, List.mem_range, List.mem_map]
    unfold WINDOW
    constructor
    · rintro ⟨h1, h2⟩
      refine ⟨s.upto k + 1 + j, List.mem_filter.mpr ⟨(mem_hasL W).mpr h2, ?_⟩, by omega⟩
      simp
      omega
    · rintro ⟨n, hn, rfl⟩
      obtain ⟨h1, h2⟩ := List.mem_filter.mp hn
      simp at h2
      refine ⟨by omega, ?_⟩
      rw [show s.upto k + 1 + (n - s.upto k - 1) = n by omega]
      exact (mem_hasL W).mp h1
/-! ### gaps -/
def topL (s : Shore) (k : Nat) : Nat := (s.log.filter fun h => h.who == k).foldl (fun n h => max n (h.number + 1)) 0
theorem fold_max : ∀ (l : List Heard) (n : Nat), n ≤ l.foldl (fun n h => max n (h.number + 1)) n ∧ (∀ h ∈ l, h.number + 1 ≤ l.foldl (fun n h => max n (h.number + 1)) n) ∧
    (l.foldl (fun n h => max n (h.number + 1)) n = n ∨ ∃ h ∈ l, l.foldl (fun n h => max n (h.number + 1)) n = h.number + 1)
  | [], n => ⟨Nat.le_refl _, (fun _ h => nomatch h), .inl rfl⟩
  | a :: l, n => by
    rw [List.foldl_cons]
    obtain ⟨h1, h2, h3⟩ := fold_max l (max n (a.number + 1))
    refine ⟨by omega, fun h hh => ?_, ?_⟩
    · rcases List.mem_cons.mp hh with rfl | hh
      · omega
      · exact h2 h hh
    · rcases h3 with h3 | ⟨h, hh, h3⟩
      · rw [h3]
        by_cases c : n ≤ a.number + 1
        · exact .inr ⟨a, List.mem_cons_self, by omega⟩
        · exact .inl (by omega)
      · exact .inr ⟨h, List.mem_cons_of_mem _ hh, h3⟩
/-- max([-1] + some) -/
theorem max_top {s : Shore} (W : WFS s) {k : Nat} {m : Int} (h : m ∈ (-1 : Int) :: Km448Neutral.nums (hasL s k)) (hl : ∀ y, y ∈ (-1 : Int) :: Km448Neutral.nums (hasL s k) → y ≤ m) : m = (topL s k : Int) - 1 := by
  obtain ⟨h1, h2, h3⟩ := fold_max (s.log.filter fun h => h.who == k) 0
  have e : topL s k = (s.log.filter fun h => h.who == k).foldl (fun n h => max n (h.number + 1)) 0 := rfl
  rw [← e] at h1 h2 h3
  have mem : ∀ x ∈ s.log, x.who = k → ((x.number : Nat) : Int) ∈ (-1 : Int) :: Km448Neutral.nums (hasL s k) := fun x hx hk =>
    List.mem_cons_of_mem _ (List.mem_map.mpr ⟨x.number, (mem_hasL W).mpr (has_iff.mpr ⟨x, hx, hk, rfl⟩), rfl⟩)
  have low : (topL s k : Int) - 1 ≤ m := by
    rcases h3 with h3 | ⟨x, hx, h3⟩
    · have := hl (-1) List.mem_cons_self
      omega
    · obtain ⟨hx1, hx2⟩ := List.mem_filter.mp hx
      have := hl _ (mem x hx1 (by simpa using hx2))
      omega
  rcases List.mem_cons.mp h with h | h
  · omega
  · obtain ⟨i, hi, rfl⟩ := List.mem_map.mp h
    obtain ⟨x, hx1, hx2, rfl⟩ := has_iff.mp ((mem_hasL W).mp hi)
    have := h2 x (List.mem_filter.mpr ⟨hx1, by simpa using hx2⟩)
    omega
def missL (s : Shore) (k : Nat) : List Nat := (List.range (topL s k)).filter fun i => !s.has k i
theorem top_le {s : Shore} (W : WFS s) (k : Nat) : topL s k ≤ 30 := by
  obtain ⟨h1, h2, h3⟩ := fold_max (s.log.filter fun h => h.who == k) 0
  have e : topL s k = (s.log.filter fun h => h.who == k).foldl (fun n h => max n (h.number + 1)) 0 := rfl
  rw [← e] at h1 h2 h3
  rcases h3 with h3 | ⟨x, hx, h3⟩
  · omega
  · have := (W.nums x (List.mem_filter.mp hx).1).2
    omega
theorem has_top {s : Shore} {k i : Nat} (h : s.has k i = true) : i < topL s k := by
  obtain ⟨h1, h2, h3⟩ := fold_max (s.log.filter fun h => h.who == k) 0
  obtain ⟨x, hx, hk, rfl⟩ := has_iff.mp h
  exact h2 x (List.mem_filter.mpr ⟨hx, by simpa using hk⟩)
/-- missing -/
theorem miss_is {s : Shore} (W : WFS s) (k : Nat) : (List.range 30).filter (fun n : Nat => decide ((n : Int) < (topL s k : Int) - 1) && !decide (n ∈ hasL s k)) = missL s k := by
  have t := top_le W k
  refine sorted_ext ((range_rises _).filter _) ((range_rises _).filter _) fun i => ?_
  unfold missL
  rw [List.mem_filter, List.mem_filter, List.mem_range, List.mem_range]
  simp only [Bool.and_eq_true, decide_eq_true_eq, Bool.not_eq_true', decide_eq_false_iff_not, mem_hasL W]
  constructor
  · rintro ⟨_, h2, h3⟩
    exact ⟨by omega, by simpa using h3⟩
  · rintro ⟨h1, h2⟩
    refine ⟨by omega, ?_, by simp [h2]⟩
    -- the last itself is kept
    obtain ⟨g1, g2, g3⟩ := fold_max (s.log.filter fun h => h.who == k) 0
    have e : topL s k = (s.log.filter fun h => h.who == k).foldl (fun n h => max n (h.number + 1)) 0 := rfl
    rw [← e] at g1 g2 g3
    rcases g3 with g3 | ⟨x, hx, g3⟩
    · omega
    · obtain ⟨hx1, hx2⟩ := List.mem_filter.mp hx
      have hh : s.has k x.number = true := has_iff.mpr ⟨x, hx1, by simpa using hx2, rfl⟩
      have : i ≠ x.number := fun e => by rw [e, hh] at h2; cases h2
      omega
theorem miss_length {s : Shore} (W : WFS s) (k : Nat) : topL s k - (s.log.filter fun h => h.who == k).length = (missL s k).length := by
  rw [ofL_length W]
  have e : hasL s k = (List.range (topL s k)).filter fun i => s.has k i := by
    refine sorted_ext (hasL_rises s k) ((range_rises _).filter _) fun i => ?_
    rw [mem_hasL W, List.mem_filter, List.mem_range]
    exact ⟨fun h => ⟨has_top h, h⟩, fun h => h.2⟩
  rw [e]
  have := length_split (p := fun i => s.has k i) (List.range (topL s k))
  rw [List.length_range] at this
  unfold missL
  omega
/-! ### what the shore becomes stands well -/
theorem hears_log {s : Shore} {h : Heard} (n : s.has h.who h.number = false) : s.hears h = { s with log := s.log ++ [h] } := by
  unfold Shore.hears
  rw [n]
  rfl
theorem hears_again {s : Shore} {h : Heard} (n : s.has h.who h.number = true) : s.hears h = { s with again := min MOST (s.again + 1) } := by
  unfold Shore.hears
  rw [n]
  rfl
theorem wfs_add {s : Shore} (W : WFS s) {h : Heard} (n : s.has h.who h.number = false) (h1 : h.who < 4) (h2 : h.number < 30) : WFS { s with log := s.log ++ [h] } := by
  refine ⟨?_, fun x hx => ?_⟩
  · show ((s.log ++ [h]).map fun h => (h.who, h.number)).Nodup
    rw [List.map_append, List.nodup_append]
    refine ⟨W.keys, by simp, fun a ha b hb e => ?_⟩
    have hb : b = (h.who, h.number) := by simpa using hb
    subst e
    obtain ⟨x, hx, ex⟩ := List.mem_map.mp ha
    rw [hb] at ex
    injection ex with e1 e2
    have : s.has h.who h.number = true := has_iff.mpr ⟨x, hx, e1, e2⟩
    rw [n] at this
    cases this
  · rcases List.mem_append.mp hx with hx | hx
    · exact W.nums x hx
    · have : x = h := by simpa using hx
      subst this
      exact ⟨h1, h2⟩
theorem goodCall_bounds {m : List Nat} {h : Heard} (e : goodCall m = some h) : h.who < 4 ∧ h.number < 30 := by
  unfold goodCall at e
  split at e
  · split at e
    · rename_i c
      injection e with e
      subst e
      exact ⟨c.1, c.2.1⟩
    · cases e
  · cases e
theorem wfs_does {s : Shore} (W : WFS s) (x : Call) : WFS (sDoes s x).1 := by
  cases x with
  | sStart => exact wfs0
  | sHear m =>
    unfold sDoes
    dsimp only
    split
    · exact W
    · rename_i h e
      have b := goodCall_bounds e
      split
      · rename_i w hw
        split
        · show WFS (s.hears h)
          rw [hears_again (at_some hw)]
          exact ⟨W.keys, W.nums⟩
        · exact W
      · rename_i hw
        show WFS (s.hears h)
        rw [hears_log (at_none hw)]
        exact wfs_add W (at_none hw) b.1 b.2
  | _ => exact W
theorem log_does (s : Shore) (x : Call) : (sDoes s x).1.log.length ≤ s.log.length + 1 := by
  cases x with
  | sStart => exact Nat.zero_le _
  | sHear m =>
    unfold sDoes
    dsimp only
    split
    · exact Nat.le_succ _
    · rename_i h e
      split
      · split
        · show (s.hears h).log.length ≤ _
          unfold Shore.hears
          split
          · exact Nat.le_succ _
          · show (s.log ++ [h]).length ≤ _
            rw [List.length_append]
            exact Nat.le_refl _
        · exact Nat.le_succ _
      · show (s.hears h).log.length ≤ _
        unfold Shore.hears
        split
        · exact Nat.le_succ _
        · show (s.log ++ [h]).length ≤ _
          rw [List.length_append]
          exact Nat.le_refl _
  | _ => exact Nat.le_succ _
end CM

/-! # FlMath: the list of calls as the specification reads it, call by call -/
namespace CM
open Km448 PyKm448
open Km448Neutral (nums)

def NUMB : List Nat := [1, 3, 0, 0, 1, 0, 1, 0, 0, 0, 0, 1, 1, 2, 1, 1, 0]
/-- which call it is -/
def theCall (w : Nat) (ns row : List Nat) : Call := match w with
  | 0 => .cStart (ns.getD 0 0)
  | 1 => .cSay (ns.getD 0 0) (ns.getD 1 0) (ns.getD 2 0)
  | 2 => .cTell
  | 3 => .cHear row
  | 4 => .cKnown (ns.getD 0 0)
  | 5 => .cOpen
  | 6 => .cSaid (ns.getD 0 0)
  | 7 => .cWould row
  | 8 => .cState
  | 9 => .sStart
  | 10 => .sHear row
  | 11 => .sAnswer (ns.getD 0 0)
  | 12 => .sGet (ns.getD 0 0)
  | 13 => .sFind (ns.getD 0 0) (ns.getD 1 0)
  | 14 => .sOf (ns.getD 0 0)
  | 15 => .sGaps (ns.getD 0 0)
  | _ => .sState
def hasRow (w : Nat) : Bool := w == 3 || (w == 7 || w == 10)

theorem whole_id (c : List (List Int)) : whole c = c := by
  unfold whole
  split <;> rfl
theorem map_whole (cs : List (List (List Int))) : cs.map whole = cs := by
  rw [List.map_congr_left (fun c _ => whole_id c)]
  simp
theorem shape_cases {p : Int} {n k : Nat} (h : shape p = some (n, k)) : ∃ w : Nat, w ≤ 16 ∧ p = (w : Int) ∧ n = NUMB.getD w 0 + 1 ∧ k = if hasRow w = true then 1 else 0 := by
  by_cases hp : 0 ≤ p ∧ p ≤ 16
  · obtain ⟨w, rfl⟩ : ∃ w : Nat, p = (w : Int) := ⟨p.toNat, by omega⟩
    have hw : w ≤ 16 := by omega
    refine ⟨w, hw, rfl, ?_⟩
    have : w = 0 ∨ w = 1 ∨ w = 2 ∨ w = 3 ∨ w = 4 ∨ w = 5 ∨ w = 6 ∨ w = 7 ∨ w = 8 ∨ w = 9 ∨ w = 10 ∨ w = 11 ∨ w = 12 ∨ w = 13 ∨ w = 14 ∨ w = 15 ∨ w = 16 := by omega
    rcases this with rfl | rfl | rfl | rfl | rfl | rfl | rfl | rfl | rfl | rfl | rfl | rfl | rfl | rfl | rfl | rfl | rfl <;>
      (injection h with h; injection h with h1 h2; exact ⟨h1.symm, h2.symm⟩)
  · exfalso
    unfold shape at h
    repeat rw [if_neg (by omega)] at h
    cases h
theorem call_0 {p : Int} {r : List Int} {n : Nat} {c : List (List Int)} {t : List Int} (hs : shape p = some (n, 0)) (h : PyFlat.call shape (p :: r) = some (c, t)) : n ≤ r.length ∧ c = [p :: r.take n] ∧ t = r.drop n := by
  unfold PyFlat.call at h
  dsimp only at h
  rw [hs] at h
  dsimp only at h
  split at h
  · cases h
  · rename_i hl
    unfold PyFlat.rows at h
    injection h with h
    injection h with h1 h2
    exact ⟨by omega, h1.symm, h2.symm⟩
theorem call_1 {p : Int} {r : List Int} {n : Nat} {c : List (List Int)} {t : List Int} (hs : shape p = some (n, 1)) (h : PyFlat.call shape (p :: r) = some (c, t)) :
    n ≤ r.length ∧ ∃ q r2, r.drop n = q :: r2 ∧ 0 ≤ q ∧ q.toNat ≤ r2.length ∧ c = [p :: r.take n, r2.take q.toNat] ∧ t = r2.drop q.toNat := by
  unfold PyFlat.call at h
  dsimp only at h
  rw [hs] at h
  dsimp only at h
  split at h
  · cases h
  · rename_i hl
    refine ⟨by omega, ?_⟩
    unfold PyFlat.rows at h
    cases e : r.drop n with
    | nil => rw [e] at h; cases h
    | cons q r2 =>
      rw [e] at h
      unfold PyFlat.row at h
      dsimp only at h
      by_cases hq : 0 ≤ q ∧ q.toNat ≤ r2.length
      · rw [if_pos hq] at h
        unfold PyFlat.rows at h
        dsimp only at h
        injection h with h
        injection h with h1 h2
        exact ⟨q, r2, rfl, hq.1, hq.2, h1.symm, h2.symm⟩
      · rw [if_neg hq] at h
        cases h
theorem within_iff {lo hi z : Int} : PyInside.within lo hi z = true ↔ lo ≤ z ∧ z ≤ hi := by
  unfold PyInside.within
  simp
/-- a list of numbers from 0 on -/
theorem to_nums : ∀ {l : List Int}, (∀ z ∈ l, 0 ≤ z) → l = nums (l.map Int.toNat)
  | [], _ => rfl
  | a :: l, h => by
    show a :: l = ((a.toNat : Nat) : Int) :: nums (l.map Int.toNat)
    rw [← to_nums fun z hz => h z (List.mem_cons_of_mem _ hz)]
    have := h a List.mem_cons_self
    rw [Int.toNat_of_nonneg this]
theorem each_nat : ∀ {b : List (Int × Int)} {xs : List Int}, PyInside.each b xs = true → (∀ q ∈ b, 0 ≤ q.1) → b.length = xs.length → ∀ x ∈ xs, 0 ≤ x
  | [], [], _, _, _ => fun _ h => nomatch h
  | (lo, hi) :: b, x :: xs, h, hb, hl => by
    unfold PyInside.each at h
    rw [Bool.and_eq_true, within_iff] at h
    intro y hy
    have q := hb (lo, hi) List.mem_cons_self
    rcases List.mem_cons.mp hy with rfl | hy
    · exact Int.le_trans q h.1.1
    · exact each_nat h.2 (fun q hq => hb q (List.mem_cons_of_mem _ hq)) (by simpa using hl) y hy
  | [], _ :: _, _, _, hl => by simp at hl
  | _ :: _, [], _, _, hl => by simp at hl
theorem bound_cases (w : Nat) (h : w ≤ 16) : ∃ hi b, (bound (w : Int)).1 = (0, hi) :: b ∧ (∀ q ∈ (bound (w : Int)).1, 0 ≤ q.1) ∧ b.length = NUMB.getD w 0 ∧ hi ≤ 2 ∧ (9 ≤ w → hi = 0) ∧
    (bound (w : Int)).2 = if hasRow w = true then [(0, 4294967295, 6, 6)] else [] := by
  have : w = 0 ∨ w = 1 ∨ w = 2 ∨ w = 3 ∨ w = 4 ∨ w = 5 ∨ w = 6 ∨ w = 7 ∨ w = 8 ∨ w = 9 ∨ w = 10 ∨ w = 11 ∨ w = 12 ∨ w = 13 ∨ w = 14 ∨ w = 15 ∨ w = 16 := by omega
  rcases this with rfl | rfl | rfl | rfl | rfl | rfl | rfl | rfl | rfl | rfl | rfl | rfl | rfl | rfl | rfl | rfl | rfl <;>
    exact ⟨_, _, rfl, by decide, rfl, by decide, by decide, rfl⟩
/-- a call, as it lies in the list -/
structure View (l : List Int) (c : List (List Int)) (t : List Int) (w k : Nat) (ns row : List Nat) : Prop where
  hw : w ≤ 16
  hk : k ≤ 2
  hk9 : 9 ≤ w → k = 0
  hn : ns.length = NUMB.getD w 0
  lay : (hasRow w = false ∧ row = [] ∧ l = nums (w :: k :: ns) ++ t ∧ c = [nums (w :: k :: ns)]) ∨
    (hasRow w = true ∧ row.length = 6 ∧ l = nums (w :: k :: ns) ++ (6 :: nums row ++ t) ∧ c = [nums (w :: k :: ns), nums row])
theorem call_view {p : Int} {r : List Int} {c : List (List Int)} {t : List Int} (h : PyFlat.call shape (p :: r) = some (c, t)) (hb : PyInside.call bound c = true) : ∃ w k ns row, View (p :: r) c t w k ns row := by
  have hs : ∃ n k, shape p = some (n, k) := by
    unfold PyFlat.call at h
    dsimp only at h
    cases e : shape p with
    | none => rw [e] at h; cases h
    | some q => exact ⟨q.1, q.2, rfl⟩
  obtain ⟨n, kk, hs⟩ := hs
  obtain ⟨w, hw, rfl, hn, hkk⟩ := shape_cases hs
  obtain ⟨hi, b, hb1, hb2, hb3, hb4, hb5, hb6⟩ := bound_cases w hw
  -- the numbers behind the word
  have num : ∀ {xs : List Int}, PyInside.each (bound (w : Int)).1 xs = true → xs.length = n → ∃ (k : Nat) (ns : List Nat), xs = nums (k :: ns) ∧ k ≤ 2 ∧ (9 ≤ w → k = 0) ∧ ns.length = NUMB.getD w 0 := fun {xs} he hl => by
    have hl' : (bound (w : Int)).1.length = xs.length := by rw [hb1, List.length_cons, hb3, hl, hn]
    have pos := each_nat he hb2 hl'
    cases xs with
    | nil => rw [hn] at hl; cases hl
    | cons z zs =>
      rw [hb1] at he
      unfold PyInside.each at he
      rw [Bool.and_eq_true, within_iff] at he
      refine ⟨z.toNat, zs.map Int.toNat, ?_, ?_, fun q => ?_, ?_⟩
      · have e := to_nums pos
        rw [List.map_cons] at e
        exact e
      · have := he.1.2
        omega
      · have := he.1.2
        have := hb5 q
        omega
      · rw [List.length_map]
        have : zs.length + 1 = n := hl
        omega
  cases hr : hasRow w with
  | false =>
    rw [hr] at hkk
    have hkk : kk = 0 := hkk
    subst hkk
    obtain ⟨h1, h2, h3⟩ := call_0 hs h
    subst h2 h3
    unfold PyInside.call at hb
    dsimp only at hb
    rw [Bool.and_eq_true] at hb
    obtain ⟨k, ns, e, g1, g2, g3⟩ := num hb.1 (by rw [List.length_take]; omega)
    refine ⟨w, k, ns, [], hw, g1, g2, g3, .inl ⟨hr, rfl, ?_, ?_⟩⟩
    · have : r = nums (k :: ns) ++ r.drop n := by rw [← e, List.take_append_drop]
      show (w : Int) :: r = (w : Int) :: (nums (k :: ns) ++ r.drop n)
      rw [← this]
    · show [(w : Int) :: r.take n] = [(w : Int) :: nums (k :: ns)]
      rw [e]
  | true =>
    rw [hr] at hkk hb6
    have hkk : kk = 1 := hkk
    subst hkk
    obtain ⟨h1, q, r2, h2, h3, h4, h5, h6⟩ := call_1 hs h
    subst h5 h6
    unfold PyInside.call at hb
    dsimp only at hb
    rw [Bool.and_eq_true] at hb
    obtain ⟨k, ns, e, g1, g2, g3⟩ := num hb.1 (by rw [List.length_take]; omega)
    have hl := hb.2
    rw [hb6] at hl
    rw [if_pos rfl] at hl
    unfold PyInside.lists at hl
    simp only [Bool.and_eq_true, decide_eq_true_eq] at hl
    obtain ⟨⟨⟨l1, l2⟩, l3⟩, _⟩ := hl
    have lq : (r2.take q.toNat).length = 6 := by omega
    have q6 : q = 6 := by
      rw [List.length_take] at lq
      omega
    have pos : ∀ z ∈ r2.take q.toNat, 0 ≤ z := fun z hz => (within_iff.mp (List.all_eq_true.mp l3 z hz)).1
    have er := to_nums pos
    refine ⟨w, k, ns, (r2.take q.toNat).map Int.toNat, hw, g1, g2, g3, .inr ⟨hr, by rw [List.length_map]; exact lq, ?_, ?_⟩⟩
    · have e1 : r = nums (k :: ns) ++ r.drop n := by rw [← e, List.take_append_drop]
      rw [← er]
      show (w : Int) :: r = (w : Int) :: (nums (k :: ns) ++ (6 :: (r2.take q.toNat ++ r2.drop q.toNat)))
      rw [List.take_append_drop, ← q6, ← h2, ← e1]
    · rw [← er]
      show [(w : Int) :: r.take n, r2.take q.toNat] = [(w : Int) :: nums (k :: ns), r2.take q.toNat]
      rw [e]
theorem calls_cons {f : Nat} {p : Int} {r : List Int} {cs : List (List (List Int))} (h : PyFlat.calls shape f (p :: r) = some cs) : ∃ f' c t cs', PyFlat.call shape (p :: r) = some (c, t) ∧ PyFlat.calls shape f' t = some cs' ∧ cs = c :: cs' := by
  cases f with
  | zero => unfold PyFlat.calls at h; cases h
  | succ f =>
    unfold PyFlat.calls at h
    cases e : PyFlat.call shape (p :: r) with
    | none => rw [e] at h; cases h
    | some q =>
      obtain ⟨c, t⟩ := q
      rw [e] at h
      dsimp only at h
      cases e2 : PyFlat.calls shape f t with
      | none => rw [e2] at h; cases h
      | some cs' =>
        rw [e2] at h
        injection h with h
        exact ⟨f, c, t, cs', rfl, e2, h.symm⟩
/-! ### the specification's step at such a call -/
theorem nats_nums (l : List Nat) : Km448Neutral.nats (nums l) = l := toNat_nums l
theorem len0 {l : List Nat} (h : l.length = 0) : l = [] := List.length_eq_zero_iff.mp h
theorem len1 {l : List Nat} (h : l.length = 1) : ∃ a, l = [a] := List.length_eq_one_iff.mp h
theorem len2 {l : List Nat} (h : l.length = 2) : ∃ a b, l = [a, b] := by
  match l, h with
  | [a, b], _ => exact ⟨a, b, rfl⟩
theorem len3 {l : List Nat} (h : l.length = 3) : ∃ a b c, l = [a, b, c] := by
  match l, h with
  | [a, b, c], _ => exact ⟨a, b, c, rfl⟩
theorem step_is {l : List Int} {c : List (List Int)} {t : List Int} {w k : Nat} {ns row : List Nat} (v : View l c t w k ns row) (S : Km448Neutral.S) :
    Km448Neutral.step S c = if w < 9 then Km448Neutral.step0 S k (theCall w ns row) else Km448Neutral.step1 S k (theCall w ns row) := by
  obtain ⟨hw, _, _, hn, lay⟩ := v
  have : w = 0 ∨ w = 1 ∨ w = 2 ∨ w = 3 ∨ w = 4 ∨ w = 5 ∨ w = 6 ∨ w = 7 ∨ w = 8 ∨ w = 9 ∨ w = 10 ∨ w = 11 ∨ w = 12 ∨ w = 13 ∨ w = 14 ∨ w = 15 ∨ w = 16 := by omega
  rcases this with rfl | rfl | rfl | rfl | rfl | rfl | rfl | rfl | rfl | rfl | rfl | rfl | rfl | rfl | rfl | rfl | rfl
  all_goals
    rcases lay with ⟨hr, rfl, _, rfl⟩ | ⟨hr, _, _, rfl⟩
    all_goals first
      | (exfalso; revert hr; decide)
      | (obtain rfl := len0 hn; rfl)
      | (obtain rfl := len0 hn
         unfold Km448Neutral.step
         have e : Km448Neutral.nats (nums row) = row := nats_nums row
         first
          | (show Km448Neutral.step0 S k (.cHear (Km448Neutral.nats (nums row))) = _; rw [e]; rfl)
          | (show Km448Neutral.step0 S k (.cWould (Km448Neutral.nats (nums row))) = _; rw [e]; rfl)
          | (show Km448Neutral.step1 S k (.sHear (Km448Neutral.nats (nums row))) = _; rw [e]; rfl))
      | (obtain ⟨a, rfl⟩ := len1 hn; rfl)
      | (obtain ⟨a, b, rfl⟩ := len2 hn; rfl)
      | (obtain ⟨a, b, d, rfl⟩ := len3 hn; rfl)
end CM

/-! # GoMath: how far the list of calls is gone through, and what the specification still has to say -/
namespace CM
open Km448 PyKm448
open Km448Neutral (nums)

/-- the desk's state: a caller for each number, a shore -/
abbrev MS := Nat → Caller
def put (m : MS) (k : Nat) (c : Caller) : MS := fun j => if j = k then c else m j
theorem put_same {m : MS} {k : Nat} {c : Caller} : put m k c k = c := if_pos rfl
theorem put_ne {m : MS} {k j : Nat} {c : Caller} (h : j ≠ k) : put m k c j = m j := if_neg h
/-- what the specification's state says of the desk's -/
structure Rel (S : Km448Neutral.S) (m : MS) (s : Shore) : Prop where
  cal : S.1.length = 3
  sho : S.2.length = 1
  fc : ∀ (k : Nat) (a : Caller), S.1[k]? = some (some a) → a = m k
  fs : ∀ (k : Nat) (a : Shore), S.2[k]? = some (some a) → a = s
theorem rel_start (m : MS) (s : Shore) : Rel Km448Neutral.start m s := by
  refine ⟨rfl, rfl, fun k a h => ?_, fun k a h => ?_⟩
  · have hk : k < 3 := by
      have := List.getElem?_eq_some_iff.mp h
      exact this.1
    have : k = 0 ∨ k = 1 ∨ k = 2 := by omega
    rcases this with rfl | rfl | rfl <;> cases h
  · have hk : k < 1 := by
      have := List.getElem?_eq_some_iff.mp h
      exact this.1
    have : k = 0 := by omega
    subst this
    cases h
theorem rel_put {S : Km448Neutral.S} {m : MS} {s : Shore} (R : Rel S m s) {k : Nat} (c : Caller) : Rel (S.1.set k (some c), S.2) (put m k c) s := by
  refine ⟨by rw [List.length_set]; exact R.cal, R.sho, fun j a h => ?_, R.fs⟩
  by_cases e : j = k
  · subst e
    rw [put_same]
    have hl : j < S.1.length := by
      have := (List.getElem?_eq_some_iff.mp h).1
      rwa [List.length_set] at this
    rw [List.getElem?_set_self hl] at h
    injection h with h
    injection h with h
    exact h.symm
  · rw [put_ne e]
    rw [List.getElem?_set_ne (fun q => e q.symm)] at h
    exact R.fc j a h
theorem put_id {m : MS} {k : Nat} : put m k (m k) = m := by
  funext j
  unfold put
  split
  · rename_i e
    rw [e]
  · rfl
theorem rel_shore {S : Km448Neutral.S} {m : MS} {s : Shore} (R : Rel S m s) {k : Nat} (hk : k < 1) (z : Shore) : Rel (S.1, S.2.set k (some z)) m z := by
  refine ⟨R.cal, by rw [List.length_set]; exact R.sho, R.fc, fun j a h => ?_⟩
  have hl : j < 1 := by
    have := (List.getElem?_eq_some_iff.mp h).1
    rw [List.length_set, R.sho] at this
    exact this
  have e : j = k := by omega
  subst e
  rw [List.getElem?_set_self (by rw [R.sho]; exact hl)] at h
  injection h with h
  injection h with h
  exact h.symm
theorem getD_some {α : Type} {l : List (Option α)} {k : Nat} {a : α} (h : l.getD k none = some a) : l[k]? = some (some a) := by
  rw [List.getD_eq_getElem?_getD] at h
  cases e : l[k]? with
  | none => rw [e] at h; cases h
  | some o => rw [e] at h; exact congrArg some h
theorem told_start (me : Nat) (c : Caller) : cDoes c (.cStart me) = if 4 ≤ me then (c, only (-22)) else (caller0 me, only 0) := rfl
theorem isStart_c {w : Nat} {ns row : List Nat} (hw : w < 9) (h : isStart (theCall w ns row) = true) : w = 0 := by
  have : w = 0 ∨ w = 1 ∨ w = 2 ∨ w = 3 ∨ w = 4 ∨ w = 5 ∨ w = 6 ∨ w = 7 ∨ w = 8 := by omega
  rcases this with rfl | rfl | rfl | rfl | rfl | rfl | rfl | rfl | rfl <;> first | rfl | (cases h)
theorem isStart_s {w : Nat} {ns row : List Nat} (hw : 9 ≤ w) (hw2 : w ≤ 16) (h : isStart (theCall w ns row) = true) : w = 9 := by
  have : w = 9 ∨ w = 10 ∨ w = 11 ∨ w = 12 ∨ w = 13 ∨ w = 14 ∨ w = 15 ∨ w = 16 := by omega
  rcases this with rfl | rfl | rfl | rfl | rfl | rfl | rfl | rfl <;> first | rfl | (cases h)
theorem rel_c {S : Km448Neutral.S} {m : MS} {s : Shore} (R : Rel S m s) {w k : Nat} {ns row : List Nat} (hw : w < 9) (ne : (Km448Neutral.step0 S k (theCall w ns row)).2 ≠ []) :
    (Km448Neutral.step0 S k (theCall w ns row)).2 = Km448Neutral.told (cDoes (m k) (theCall w ns row)).2 ∧ Rel (Km448Neutral.step0 S k (theCall w ns row)).1 (put m k (cDoes (m k) (theCall w ns row)).1) s := by
  generalize hx : theCall w ns row = x at ne ⊢
  unfold Km448Neutral.step0 at ne ⊢
  by_cases hk : 3 ≤ k
  · rw [if_pos hk] at ne
    exact absurd rfl ne
  · rw [if_neg hk] at ne ⊢
    cases e : S.1.getD k none with
    | some a =>
      dsimp only
      have ea := R.fc k a (getD_some e)
      subst ea
      exact ⟨rfl, rel_put R _⟩
    | none =>
      rw [e] at ne
      dsimp only at ne ⊢
      by_cases hs : isStart x = true
      · rw [if_pos hs] at ne ⊢
        have w0 : w = 0 := isStart_c hw (by rw [hx]; exact hs)
        subst w0
        have hx : .cStart (ns.getD 0 0) = x := hx
        subst hx
        rw [told_start, told_start]
        by_cases h4 : 4 ≤ ns.getD 0 0
        · rw [if_pos h4, if_pos h4]
          refine ⟨rfl, ?_⟩
          show Rel S (put m k (m k)) s
          rw [put_id]
          exact R
        · rw [if_neg h4, if_neg h4]
          exact ⟨rfl, rel_put R _⟩
      · rw [if_neg hs] at ne
        exact absurd rfl ne
theorem rel_s {S : Km448Neutral.S} {m : MS} {s : Shore} (R : Rel S m s) {w k : Nat} {ns row : List Nat} (hw : 9 ≤ w) (hw2 : w ≤ 16) (ne : (Km448Neutral.step1 S k (theCall w ns row)).2 ≠ []) :
    (Km448Neutral.step1 S k (theCall w ns row)).2 = Km448Neutral.told (sDoes s (theCall w ns row)).2 ∧ Rel (Km448Neutral.step1 S k (theCall w ns row)).1 m (sDoes s (theCall w ns row)).1 := by
  generalize hx : theCall w ns row = x at ne ⊢
  unfold Km448Neutral.step1 at ne ⊢
  by_cases hk : 1 ≤ k
  · rw [if_pos hk] at ne
    exact absurd rfl ne
  · rw [if_neg hk] at ne ⊢
    cases e : S.2.getD k none with
    | some a =>
      dsimp only
      have ea := R.fs k a (getD_some e)
      subst ea
      exact ⟨rfl, rel_shore R (by omega) _⟩
    | none =>
      rw [e] at ne
      dsimp only at ne ⊢
      by_cases hs : isStart x = true
      · rw [if_pos hs] at ne ⊢
        have w0 : w = 9 := isStart_s hw hw2 (by rw [hx]; exact hs)
        subst w0
        have hx : Call.sStart = x := hx
        subst hx
        exact ⟨rfl, rel_shore R (by omega) _⟩
      · rw [if_neg hs] at ne
        exact absurd rfl ne
/-- what a call makes of the desk, and its answer -/
def after (w k : Nat) (x : Call) (m : MS) (s : Shore) : MS × Shore := if w < 9 then (put m k (cDoes (m k) x).1, s) else (m, (sDoes s x).1)
def reply (w k : Nat) (x : Call) (m : MS) (s : Shore) : Ans := if w < 9 then (cDoes (m k) x).2 else (sDoes s x).2
theorem rel_step {l : List Int} {c : List (List Int)} {t : List Int} {w k : Nat} {ns row : List Nat} (v : View l c t w k ns row) {S : Km448Neutral.S} {m : MS} {s : Shore} (R : Rel S m s) (ne : (Km448Neutral.step S c).2 ≠ []) :
    (Km448Neutral.step S c).2 = Km448Neutral.told (reply w k (theCall w ns row) m s) ∧ Rel (Km448Neutral.step S c).1 (after w k (theCall w ns row) m s).1 (after w k (theCall w ns row) m s).2 := by
  rw [step_is v] at ne ⊢
  unfold reply after
  by_cases h : w < 9
  · rw [if_pos h] at ne
    rw [if_pos h, if_pos h, if_pos h]
    exact rel_c R h ne
  · rw [if_neg h] at ne
    rw [if_neg h, if_neg h, if_neg h]
    exact rel_s R (by omega) v.hw ne

/-! ### gone through as far as a place -/
structure Go (l : List Int) (at_ : Nat) (found : List Int) (m : MS) (s : Shore) (n : Nat) : Prop where
  ex : ∃ (S : Km448Neutral.S) (f : Nat) (cs : List (List (List Int))), PyFlat.calls shape f (l.drop at_) = some cs ∧ cs.length = n ∧ PyInside.calls bound cs = true ∧ Km448Neutral.may S cs = true ∧
    Rel S m s ∧ found ++ PyFlat.told (PyFlat.played Km448Neutral.step S cs) = PyKm448.answers l
theorem go_start {l : List Int} (h : PyKm448.answers_asked l = true) (m : MS) (s : Shore) : (∃ n, n ≤ 1000 ∧ Go l 0 [] m s n) ∧ (PyKm448.answers l).length ≤ 10000000 := by
  unfold PyKm448.answers_asked at h
  cases e : PyFlat.calls shape l.length l with
  | none => rw [e] at h; cases h
  | some raw =>
    rw [e] at h
    dsimp only at h
    simp only [Bool.and_eq_true] at h
    obtain ⟨⟨⟨⟨h1, h2⟩, h3⟩, h4⟩, h5⟩ := h
    rw [map_whole] at h4
    unfold Km448Neutral.asked at h4
    simp only [Bool.and_eq_true, decide_eq_true_eq] at h4
    refine ⟨⟨raw.length, h4.2.1, ⟨Km448Neutral.start, l.length, raw, e, rfl, h3, h4.2.2.2, rel_start m s, ?_⟩⟩, ?_⟩
    · unfold PyKm448.answers PyKm448.calls
      rw [e]
      dsimp only
      rw [map_whole]
      rfl
    · unfold PyFlat.short at h5
      simpa using h5
theorem go_bound {l : List Int} {at_ : Nat} {found : List Int} {m : MS} {s : Shore} {n : Nat} (G : Go l at_ found m s n) : found.length ≤ (PyKm448.answers l).length := by
  obtain ⟨S, f, cs, _, _, _, _, _, h⟩ := G.ex
  rw [← h, List.length_append]
  omega
theorem go_end {l : List Int} {at_ : Nat} {found : List Int} {m : MS} {s : Shore} {n : Nat} (G : Go l at_ found m s n) (h : l.length ≤ at_) : found = PyKm448.answers l := by
  obtain ⟨S, f, cs, h1, _, _, _, _, h2⟩ := G.ex
  rw [List.drop_eq_nil_iff.mpr h] at h1
  have : cs = [] := by
    unfold PyFlat.calls at h1
    injection h1 with h1
    exact h1.symm
  subst this
  rw [← h2]
  show found = found ++ []
  rw [List.append_nil]
/-- one call more -/
theorem go_step {l : List Int} {at_ : Nat} {found : List Int} {m : MS} {s : Shore} {n : Nat} (G : Go l at_ found m s n) (h : at_ < l.length) :
    ∃ (w k : Nat) (ns row : List Nat) (c : List (List Int)) (t : List Int) (n' : Nat), n = n' + 1 ∧ View (l.drop at_) c t w k ns row ∧
      Go l (at_ + (2 + ns.length + (if hasRow w = true then 7 else 0))) (found ++ ((Km448Neutral.told (reply w k (theCall w ns row) m s)).length : Int) :: Km448Neutral.told (reply w k (theCall w ns row) m s))
        (after w k (theCall w ns row) m s).1 (after w k (theCall w ns row) m s).2 n' := by
  obtain ⟨S, f, cs, h1, h2, h3, h4, R, h5⟩ := G.ex
  have hd : ∃ p r, l.drop at_ = p :: r := by
    cases e : l.drop at_ with
    | nil =>
      have := List.drop_eq_nil_iff.mp e
      omega
    | cons p r => exact ⟨p, r, rfl⟩
  obtain ⟨p, r, hd⟩ := hd
  rw [hd] at h1
  obtain ⟨f', c, t, cs', c1, c2, rfl⟩ := calls_cons h1
  unfold PyInside.calls at h3
  rw [List.all_cons, Bool.and_eq_true] at h3
  obtain ⟨w, k, ns, row, v⟩ := call_view c1 h3.1
  unfold Km448Neutral.may at h4
  rw [Bool.and_eq_true] at h4
  have ne : (Km448Neutral.step S c).2 ≠ [] := fun e => by
    have := h4.1
    rw [e] at this
    cases this
  obtain ⟨e1, R'⟩ := rel_step v R ne
  refine ⟨w, k, ns, row, c, t, cs'.length, by rw [← h2]; rfl, by rw [hd]; exact v, ⟨(Km448Neutral.step S c).1, f', cs', ?_, rfl, h3.2, h4.2, R', ?_⟩⟩
  · have ht : l.drop (at_ + (2 + ns.length + (if hasRow w = true then 7 else 0))) = t := by
      rw [← List.drop_drop, hd]
      rcases v.lay with ⟨hr, _, e, _⟩ | ⟨hr, hl, e, _⟩
      · rw [hr, e]
        show List.drop (2 + ns.length + 0) ((w : Int) :: (k : Int) :: (nums ns ++ t)) = t
        rw [show 2 + ns.length + 0 = ns.length + 1 + 1 by omega, List.drop_succ_cons, List.drop_succ_cons]
        have : (nums ns).length = ns.length := List.length_map ..
        rw [← this, List.drop_left]
      · rw [hr, e]
        show List.drop (2 + ns.length + 7) ((w : Int) :: (k : Int) :: (nums ns ++ (6 :: nums row ++ t))) = t
        rw [show 2 + ns.length + 7 = (ns.length + 7) + 1 + 1 by omega, List.drop_succ_cons, List.drop_succ_cons]
        have e1 : (nums ns ++ (6 :: nums row)).length = ns.length + 7 := by
          rw [List.length_append, List.length_cons]
          have e2 : (nums ns).length = ns.length := List.length_map ..
          have e3 : (nums row).length = row.length := List.length_map ..
          omega
        rw [show nums ns ++ (6 :: nums row ++ t) = (nums ns ++ (6 :: nums row)) ++ t by simp, ← e1, List.drop_left]
    rw [ht]
    exact c2
  · rw [← h5]
    show _ = found ++ ((((Km448Neutral.step S c).2.length : Int) :: (Km448Neutral.step S c).2) ++ PyFlat.told (PyFlat.played Km448Neutral.step (Km448Neutral.step S c).1 cs'))
    rw [← e1]
    simp
end CM

/-! # HLow: the error Refused with its one field (the block of skel/42, turned to this class) -/
namespace PySem
namespace LowX
open PySem.W PySem.Calls PyProof.Rows PySem.HandSPX
/-! ### the text of __init__ -/
def iA (p1 p2 : Pos) : Arguments := { posonlyargs := [], args := [{ arg := "self", annotation := none, pos := p1 }, { arg := "answer", annotation := none, pos := p2 }], vararg := none, kwonlyargs := [], kw_defaults := [], kwarg := none, defaults := [] }
def iB (q1 q2 q3 q4 : Pos) : List Stmt := [.Assign [.Attribute (.Name "self" q1) "answer" q2] (.Name "answer" q3) q4]
def iS : Scope := { kind := .function, names := [(PySem.Str.ofString "self", .local), (PySem.Str.ofString "answer", .local)], isGenerator := false, isCoroutine := false, more := [] }
/-- what the written part says of Low, at C, and of its __init__, at fI -/
structure LowTxt (K : Frag) (mg : Str → Option Value) (C fI : Addr) : Prop where
  gC : mg "Refused" = some (.ref C)
  cls : ∃ nm q N bs bm sn sub ab col dd k0 k1 k2 k3 k5, K.lookup C = some (excClassObj nm q C N bs bm true sn sub ab col dd k0 k1 k2 k3 k5 "ValueError.__new__") ∧ refsVE bm = true
  sa : findIn K (.ref C) "__setattr__" = some (some (.builtin "object.__setattr__"))
  ga : findIn K (.ref C) "__getattribute__" = some (some (.builtin "BaseException.__getattribute__"))
  gg : findIn K (.ref C) "__getattr__" = some none
  noN : findIn K (.ref C) "answer" = some none
  iC : findIn K (.ref C) "__init__" = some (some (.ref fI))
  tC : typeIn K (.ref fI) = some (.type "function")
  kC : keepIn K (.ref C) = true
  exC : subIn K (.ref C) (.type "BaseException") = some true
  tyC : typeIn K (.ref C) = some (.type "type")
  hdC : hasDictIn K C = true
  te : exmOne K (.ref C) (.ref C) = some true
  fn : ∃ (oc : Value) (od : Option Addr) (doc pm : Value) (an : Option Addr) (cdv ct : Value) (osl : Array (Option Value)) (p1 p2 q1 q2 q3 q4 : Pos),
    K.lookup fI = some ⟨oc, od, .func (fnOf "__init__" "Refused.__init__" (iA p1 p2) (iB q1 q2 q3 q4) iS .none .none doc pm an cdv ct), osl⟩ ∧ codeIn K cdv "Refused.__init__" = true
theorem one_size (v : Value) : [v].length ≤ sizeLine := by
  rw [sizeLine_eq]
  exact (by decide : 1 ≤ 16777216)
theorem kept_but {K : Frag} {h h' : Heap} {x : Addr} (X : K.In h) (hx : K.lookup x = none) (k : ∀ b o, b ≠ x → h.get? b = some o → h'.get? b = some o) : K.In h' := fun a o e =>
  k a o (fun z => by rw [z, hx] at e; cases e) (X a o e)
theorem ldC {M : Model} {s : Shared} {name : Str} {scope : Scope} {L a : Addr} {cd : Value} {m : Str → Option Value} {x : Str} {pos : Pos} {v : Value} {Q : Value → Shared → Prop} {A : Around} {E : Value → Shared → Prop} (hn : s.heap.Ns L m) (hv : m x = some v) (h : Q v s)
    (hk : scope.kind = .function := by rfl) (hl : (envOfC name scope L a cd).kindOf x = some .local := by rfl) (hd : (x == ("__debug__" : Str)) = false := by decide) :
    wpAny M A (eval (.Name x pos) (envOfC name scope L a cd)) Q E s := wpAny_Name (wpAny_loadName_local hk hl hn hv h) hd
/-- what __init__ leaves of a fresh exception at x -/
structure InitEnd (h h' : Heap) (x C dx t1 : Addr) (v : Value) : Prop where
  keep : ∀ b o, b ≠ x → h.get? b = some o → h'.get? b = some o
  obj : h'.get? x = some { cls := .ref C, dict := some dx, data := .fields #[.ref t1, .none, .none, .none, .bool false, .none] }
  dbig : h.objs.size ≤ dx
  dne : dx ≠ x
  ns : h'.Ns1 dx (fun y => if y = "answer" then some v else none)
/-- a made Low -/
structure OwnMade (h h' : Heap) (e C d : Addr) (v : Value) : Prop where
  keep : ∀ b o, h.get? b = some o → h'.get? b = some o
  new : h.objs.size ≤ e
  obj : ∃ oe vs, h'.get? e = some oe ∧ oe.cls = .ref C ∧ oe.dict = some d ∧ oe.data = .fields vs ∧ vs[1]? = some .none
  dbig : h.objs.size ≤ d
  dne : d ≠ e
  ns : h'.Ns1 d (fun y => if y = "answer" then some v else none)
section
variable {prog : Program} {w : World} {A : Around} {E : Value → Shared → Prop} {R : Result → Shared → Prop} {s : Shared} {K : Frag} {mg : Str → Option Value} {C fI : Addr}
theorem low_init (T : LowTxt K mg C fI) {x t0 : Addr} {v : Value} (X : K.In s.heap) (hlim : s.heap.NoLimit) (hx : s.heap.get? x = some (excO C t0)) (hnx : K.lookup x = none) (hroom : A.depth < recursionLimit)
    (hq : ∀ h' tk dx, InitEnd s.heap h' x C dx t0 v → R (.ok (.ret .none)) { s with heap := h', toks := tk }) :
    codeAny (model prog w) A (.call (.ref fI) ⟨[.ref x, v], []⟩) R s := by
  obtain ⟨oc, od, doc, pm, an, cdv, ct, osl, p1, p2, q1, q2, q3, q4, ho, hcd⟩ := T.fn
  obtain ⟨nm, q, N, bs, bm, sn, sub, ab, col, dd, k0, k1, k2, k3, k5, hC, hbm⟩ := T.cls
  have hcl : clsIn K C = some { name := nm, bases := bs, mro := .ref C :: bm, ns := N, qualname := q, hasDict := true, slotNames := sn, subclasses := sub, abstract := ab, collection := col, hasDel := false } := by unfold clsIn; rw [hC] <;> rfl
  refine Att.call_fn (binds := [("self", .ref x), ("answer", v)]) X hlim ho hcd hroom (BindsTo.of_eq (by first | rfl | with_unfolding_all rfl)) (by first | rfl | decide | with_unfolding_all rfl) (fun s₁ IC => ?_) rfl rfl rfl
  obtain ⟨h₁, tk₁, rfl⟩ := IC.toInCall.same
  have k : ∀ b o, s.heap.get? b = some o → h₁.get? b = some o := IC.toInCall.keep
  have hn := IC.toInCall.ns
  have hxL : s.heap.objs.size ≠ x := Nat.ne_of_gt (Heap.lt_size hx)
  have X₁ : K.In h₁ := X.keeps k
  have hx₁ := k _ _ hx
  -- self.by = by
  show wpAny _ _ (execs _ _) _ _ _
  refine wpAny_execs_cons (plainObj_wpAny_Assign_Attribute ?_)
  refine ldC (v := v) hn (by first | rfl | with_unfolding_all rfl | kernel_rfl) (ldC (v := .ref x) hn (by first | rfl | with_unfolding_all rfl | kernel_rfl) ?_)
  refine set_plain X₁ (ox := excO C t0) (od := none) ⟨hx₁, rfl, rfl, trivial⟩ T.sa ?_
  refine exc_osa X₁ hx₁ hcl (show refsVE (.ref C :: bm) = true from hbm) rfl T.noN (fun h₃ tk₃ dx k₃ dn dne hx₃ hn₃ => ?_)
  show wpAny _ _ (execs _ _) _ _ _
  have z : s.heap.objs.size < h₁.objs.size := hn.lt
  exact wpAny_execs_nil (hq h₃ tk₃ dx ⟨fun b o hb e => k₃ b o hb (k b o e), hx₃, Nat.le_of_lt (Nat.lt_of_lt_of_le z dn), dne, hn₃⟩)
theorem low_made (T : LowTxt K mg C fI) {v : Value} (X : K.In s.heap) (hlim : s.heap.NoLimit) (hroom : A.depth + 1 < recursionLimit)
    (hq : ∀ h' tk e d, OwnMade s.heap h' e C d v → R (.ok (.ret (.ref e))) { s with heap := h', toks := tk }) :
    codeAny (model prog w) A (.call (.ref C) ⟨[v], []⟩) R s := by
  obtain ⟨nm, q, N, bs, bm, sn, sub, ab, col, dd, k0, k1, k2, k3, k5, hC, hbm⟩ := T.cls
  obtain ⟨hp, g, dr, tk, os⟩ := s
  have k : ∀ b o, hp.get? b = some o → ((hp.push (kdv_tup [v])).push (excO C hp.objs.size)).get? b = some o := fun b o e => Heap.get?_push_of_some _ (Heap.get?_push_of_some _ e)
  have hget : ((hp.push (kdv_tup [v])).push (excO C hp.objs.size)).get? (hp.objs.size + 1) = some (excO C hp.objs.size) := by heap_get
  have hnx : K.lookup (hp.objs.size + 1) = none := by
    cases e : K.lookup (hp.objs.size + 1) with
    | none => rfl
    | some o =>
      have z : hp.get? (hp.objs.size + 1) = some o := X _ _ e
      exact absurd (Nat.lt_of_succ_lt (Heap.lt_size z)) (Nat.lt_irrefl _)
  refine call_own F.excBase_ValueError (fun X => refsVE_contains X bm hbm) (X _ _ hC) (looks_findIn X T.iC) (fun self => bind_fn X self T.tC) (one_size v) ?_
  refine low_init (s := ⟨(hp.push (kdv_tup [v])).push (excO C hp.objs.size), g, dr, tk, os⟩) T (X.keeps k) (hlim.keeps k) hget hnx ?_ fun h' tk' dx ⟨k', hx, dn, dne, hns⟩ => ?_
  · show A.depth + 1 < recursionLimit
    exact hroom
  · have old : ∀ b o, hp.get? b = some o → h'.get? b = some o := fun b o e => k' b o (Nat.ne_of_lt (Nat.lt_succ_of_lt (Heap.lt_size e))) (k b o e)
    have z : hp.objs.size + 1 + 1 ≤ dx := by
      first
        | (simpa only [Heap.size_push] using dn)
        | exact dn
        | (have q := dn; rw [Heap.size_push, Heap.size_push] at q; exact q)
    exact ⟨rfl, hq h' tk' (hp.objs.size + 1) dx ⟨old, Nat.le_succ _, ⟨_, _, hx, rfl, rfl, rfl, rfl⟩, Nat.le_trans (Nat.le_trans (Nat.le_succ _) (Nat.le_succ _)) z, dne, hns⟩⟩
end
end LowX
end PySem
namespace L2
open PySem PySem.Spec PyProof.Rows
theorem relO_low {v : V} {v' : Value} (r : RelV v v') (f : Str) : RelO (List.lookup f [(("answer" : Str), v)]) (if f = "answer" then some v' else none) := by
  by_cases hw : f = "answer"
  · subst hw
    rw [if_pos rfl]
    have q : List.lookup ("answer" : Str) [(("answer" : Str), v)] = some v := by simp [List.lookup]
    rw [q]
    exact r
  · rw [if_neg hw]
    have qw : (f == ("answer" : Str)) = false := by simpa using hw
    have q2 : List.lookup f [(("answer" : Str), v)] = none := by simp [List.lookup, qw]
    rw [q2]
    trivial
section
variable {X : Cx} {C fI : Addr}
/-- Low(e) -/
def tMkLow (C : Addr) (ta : TA) : St → Hp → XK → Prop := fun σ H Q => ta σ H fun vs H1 => ∃ v, vs = [v] ∧ ∀ d, H1 d = none → Q (.ref C) (some d) (upd H1 d (.xd [(("answer" : Str), v)]))
theorem pmk_low {a : Expr} {ta : TA} {p pos : Pos} {k : Nat} (T : PySem.LowX.LowTxt X.K X.mg C fI) (hr : Room k X.A) (ha : PA X [a] ta) (hg : Gl X "Refused" := by rfl)
    (he : starEach (a :: []) X.env = (false, eval a X.env) :: starEach [] X.env := by rfl) (hpl : (backTo pos (starEach [] X.env)).any (·.1) = false := by rfl) :
    PMk X (.Call (.Name "Refused" p) [a] [] pos) (tMkLow C ta) := by
  intro pins s σ H Q I h
  refine wpAny_Call_Name_kw (ld_glob I hg T.gC ?_)
  refine PySem.W.callWith_K (h₀ := X.base) I.ok.mod.kin T.kC (thn (ha.run pos pins s σ H _ I h) fun us s1 hh => ?_) he hpl
  obtain ⟨vs, H1, I1, r1, v, ev, q1⟩ := hh
  subst ev
  refine ⟨I1.kIn, ?_⟩
  cases r1 with
  | cons rv rn =>
    rename_i v' us'
    cases rn
    show wpAny _ _ (call (.ref C) [v']) _ _ _
    have hlim := I1.nolimit
    obtain ⟨hp, g, dr, tk, os⟩ := s1
    refine wpAny_call (PySem.LowX.low_made T I1.kIn hlim (by have := hr.dp; omega) fun h' tk' e d M => ?_)
    show MkP X pins σ Q (.ref e) ⟨h', g, dr, tk', os⟩
    obtain ⟨oe, fv, hoe, hc, hd, hdat, h1⟩ := M.obj
    have hns := M.ns
    obtain ⟨G', g1, g2⟩ := restrict h' fun b => decide (b ≠ e)
    have gk : ∀ b, b ≠ e → G'.get? b = h'.get? b := fun b hb => g1 b (decide_eq_true hb)
    have ge : G'.get? e = none := g2 e (by simp)
    have old : ∀ b o, hp.get? b = some o → G'.get? b = some o := fun b o q => (gk b (Nat.ne_of_lt (Nat.lt_of_lt_of_le (Heap.lt_size q) M.new))).trans (M.keep b o q)
    have ob : ObjOk X.prog X.w (upd H1 d (.xd [(("answer" : Str), v)])) G' d (.xd [(("answer" : Str), v)]) :=
      ⟨_, hns.at (fun o q => (gk d M.dne).trans q), fun f => relO_low rv f⟩
    have J : Inv X pins σ (upd H1 d (.xd [(("answer" : Str), v)])) ⟨G', g, dr, tk', os⟩ := I1.laid (t' := tk') old M.dbig ob
    refine ⟨e, oe, fv, ⟨G', g, dr, tk', os⟩, _, .ref C, some d, rfl, J, fun b o q => ?_, ge, hoe, ⟨hc, hd⟩, hdat, h1, ?_, rfl, I1.bare, raises_own T.exC T.tyC, q1 d (I1.hok.fresh M.dbig)⟩
    · by_cases hb : b = e
      · have q' : G'.get? b = some o := q
        rw [hb, ge] at q'; cases q'
      · exact (gk b hb).symm.trans q
    · rw [upd_ne (Ne.symm M.dne)]
      exact I1.hok.fresh M.new
/-- raise Low(e) -/
def tRaiseLow (C : Addr) (W : WX) (ta : TA) : TS := fun _ σ H => tMkLow C ta σ H fun cls d H' => W cls d σ H'
theorem ps_raiseLow {a : Expr} {ta : TA} {W : WX} {p pos pos2 : Pos} {k : Nat} (hc : X.calm = true) (T : PySem.LowX.LowTxt X.K X.mg C fI) (hr : Room k X.A) (tk : Takes X W) (ha : PA X [a] ta) (hg : Gl X "Refused" := by rfl)
    (he : starEach (a :: []) X.env = (false, eval a X.env) :: starEach [] X.env := by rfl) (hpl : (backTo pos (starEach [] X.env)).any (·.1) = false := by rfl) :
    PS X (.Raise (some (.Call (.Name "Refused" p) [a] [] pos)) none pos2) (tRaiseLow C W ta) := ps_raise hc tk (pmk_low T hr ha hg he hpl)
/-- low.by, low the exception that the suite holds (at a; its class cls, its dict d) -/
def tByLow (C : Addr) (a : Addr) (cls : Value) (d : Option Addr) (te : TE) : TE := fun σ H Q => te σ H fun x H1 => x = .ref a ∧ cls = .ref C ∧ ∃ (dd : Addr) (v : V), d = some dd ∧ H1 dd = some (.xd [(("answer" : Str), v)]) ∧ Q v H1
theorem pe_byLow {a : Addr} {oe : Obj} {cls : Value} {d : Option Addr} {pn : List (Addr × Obj)} {e : Expr} {te : TE} {pos : Pos} (T : PySem.LowX.LowTxt X.K X.mg C fI) (hz : Zc cls d oe) (hf : ∃ vs, oe.data = .fields vs) (he : PE (X.suite a ((a, oe) :: pn)) e te)
    (hb : attributeBase e "answer" X.env (eval e X.env) = eval e X.env := by rfl) :
    PE (X.suite a ((a, oe) :: pn)) (.Attribute e "answer" pos) (tByLow C a cls d te) := by
  refine ⟨fun pins s σ H Q I h => ?_⟩
  refine attr_of hb (thn (he.run pins s σ H _ I h) fun u s1 hh => ?_)
  obtain ⟨x, H1, I1, rx, ex, ec, dd, v, ed, ea, q⟩ := hh
  subst ex
  obtain rfl : u = Value.ref a := rx
  subst ec
  subst ed
  obtain ⟨ha, _⟩ := I1.pin (a, oe) (List.mem_append_left _ List.mem_cons_self)
  obtain ⟨vs, hd⟩ := hf
  have hx : ObjOk X.prog X.w H1 s1.heap dd (.xd [(("answer" : Str), v)]) := I1.hok dd _ ea
  obtain ⟨mA, hns, hr⟩ := hx
  obtain ⟨od, ho, hl⟩ := lookIn_ns hns
  have l : List.lookup ("answer" : Str) [(("answer" : Str), v)] = some v := by simp [List.lookup]
  obtain ⟨u, hu, ru⟩ := RelO.some_of (v := v) (o := mA "answer") (by rw [← l]; exact hr "answer")
  have J : PySem.W.InstAt s1.heap a oe C (some od) := ⟨ha, hz.1, by unfold PySem.W.notCls; rw [hd] <;> rfl, by rw [hz.2]; exact ho⟩
  exact HandSPX.exc_get I1.kIn J T.ga T.gg T.exC (PySem.W.findObj_own T.hdC T.noN rfl (by rw [hl, hu])) (handed_of ru) ⟨v, H1, I1.tok _, ru, q⟩
end
end L2

namespace L2
open PySem PySem.Spec PyProof.Rows
/-- an if whose test is known -/
theorem if_true_of {c : Bool} {A B : Prop} (hc : c = true) (h : A) : if c = true then A else B := by
  rw [if_pos hc]
  exact h
theorem if_false_of {c : Bool} {A B : Prop} (hc : c = false) (h : B) : if c = true then A else B := by
  rw [hc, if_neg Bool.false_ne_true]
  exact h
end L2

/-! # HRep: the text by places, how a caller and a shore lie in the heap, what the top has written -/
namespace CA
open PySem PySem.Spec PyProof.Rows L2
open Km448Neutral (nums)
open Km448 (Caller Shore What Heard)
open CM

/-! ### the text -/
def top (i : Nat) : Stmt := PySem.Challenge.pw_calledshores_s01_answers.main.body.getD i (.Pass ⟨0, 0, 0, 0⟩)
abbrev sNeed : Stmt := top 16
abbrev sContent : Stmt := top 17
abbrev sIsCall : Stmt := top 18
abbrev sToldBy : Stmt := top 19
abbrev sBitsOf : Stmt := top 20
abbrev sC (j : Nat) : Stmt := inClass (top 22) j
abbrev sS (j : Nat) : Stmt := inClass (top 24) j
abbrev sOfCaller : Stmt := top 31
abbrev sOfShore : Stmt := top 32
abbrev sD (j : Nat) : Stmt := inClass (top 33) j
abbrev sAnswers : Stmt := top 34

/-! ### heaps -/
/-- all that was tracked is as it was, but at L -/
def Chg (L : List Addr) (H H' : Hp) : Prop := ∀ b o, H b = some o → b ∉ L → H' b = some o
theorem Chg.of_same {L : List Addr} {H H' : Hp} (s : Same H H') : Chg L H H' := fun b o e _ => s b o e
theorem same_upd {H : Hp} {p : Addr} {o : HO} (h : H p = none) : Same H (upd H p o) := fun b u e => by
  rw [upd_ne (ne_of_none e h)]
  exact e
theorem same_upd_of {H H' : Hp} {p : Addr} {o : HO} (s : Same H H') (h : H' p = none) : Same H (upd H' p o) := s.trans (same_upd h)
theorem chg_upd {L : List Addr} {H H' : Hp} {p : Addr} {o : HO} (c : Chg L H H') (h : p ∈ L ∨ H p = none) : Chg L H (upd H' p o) := fun b u e hb => by
  have : b ≠ p := by
    rintro rfl
    rcases h with h | h
    · exact hb h
    · rw [h] at e; cases e
  rw [upd_ne this]
  exact c b u e hb
theorem Chg.trans {L : List Addr} {H H' H'' : Hp} (a : Chg L H H') (b : Chg L H' H'') : Chg L H H'' := fun x o e h => b x o (a x o e h) h
theorem SqL.here {K : PySem.W.Frag} {H : Hp} {a : Addr} {xs : List V} (h : H a = some (.lst xs)) : SqL K H a xs := .inl (.inl h)
theorem SqT.here {K : PySem.W.Frag} {H : Hp} {a : Addr} {xs : List V} (h : H a = some (.tup xs)) : SqT K H a xs := .inl (.inl h)
theorem same_seqT {K : PySem.W.Frag} {H H' : Hp} {a : Addr} {xs : List V} (e : Same H H') (h : SqT K H a xs) : SqT K H' a xs := by
  rcases h with (h | ⟨o, h⟩) | h
  · exact .inl (.inl (e _ _ h))
  · exact .inl (.inr ⟨o, e _ _ h⟩)
  · exact .inr h

theorem ltLine {n : Nat} (h : n < 16777216) : n < sizeLine := by
  rw [sizeLine_eq]
  exact h
theorem leLine {n : Nat} (h : n ≤ 16777216) : n ≤ sizeLine := by
  rw [sizeLine_eq]
  exact h
/-! ### numbers as values -/
def vis (l : List Nat) : List V := (nums l).map V.int
theorem vis_length (l : List Nat) : (vis l).length = l.length := by
  unfold vis Km448Neutral.nums
  rw [List.length_map, List.length_map]
theorem vis_append (l r : List Nat) : vis (l ++ r) = vis l ++ vis r := by
  unfold vis Km448Neutral.nums
  rw [List.map_append, List.map_append]
theorem vis_get {l : List Nat} {i : Nat} {x : V} (h : (vis l)[i]? = some x) : ∃ n, l[i]? = some n ∧ x = .int (n : Int) := by
  unfold vis Km448Neutral.nums at h
  rw [List.getElem?_map, List.getElem?_map] at h
  cases e : l[i]? with
  | none => rw [e] at h; cases h
  | some n =>
    rw [e] at h
    exact ⟨n, rfl, (Option.some.inj h).symm⟩
theorem vis_at {l : List Nat} {i n : Nat} (h : l[i]? = some n) : (vis l)[i]? = some (.int (n : Int)) := by
  unfold vis Km448Neutral.nums
  rw [List.getElem?_map, List.getElem?_map, h]
  rfl

/-! ### lists of tuples -/
def Rows (H : Hp) (xs : List V) (rs : List (List V)) : Prop := xs.length = rs.length ∧ ∀ (i : Nat) (r : List V), rs[i]? = some r → ∃ t : Addr, xs[i]? = some (.ref t) ∧ H t = some (.tup r)
theorem rows_nil {H : Hp} : Rows H [] [] := ⟨rfl, fun i r h => by simp at h⟩
theorem Rows.keep {H H' : Hp} {xs : List V} {rs : List (List V)} (R : Rows H xs rs) (k : ∀ t r, H t = some (.tup r) → H' t = some (.tup r)) : Rows H' xs rs :=
  ⟨R.1, fun i r h => by
    obtain ⟨t, h1, h2⟩ := R.2 i r h
    exact ⟨t, h1, k t r h2⟩⟩
theorem Rows.push {H : Hp} {xs : List V} {rs : List (List V)} (R : Rows H xs rs) {t : Addr} {r : List V} (h : H t = some (.tup r)) : Rows H (xs ++ [.ref t]) (rs ++ [r]) := by
  refine ⟨by rw [List.length_append, List.length_append, R.1]; rfl, fun i q hq => ?_⟩
  by_cases c : i < rs.length
  · rw [List.getElem?_append_left c] at hq
    obtain ⟨u, h1, h2⟩ := R.2 i q hq
    exact ⟨u, by rw [List.getElem?_append_left (by rw [R.1]; exact c)]; exact h1, h2⟩
  · rw [List.getElem?_append_right (by omega)] at hq
    have hi : i - rs.length = 0 := by
      have := (List.getElem?_eq_some_iff.mp hq).1
      have e : ([r] : List (List V)).length = 1 := rfl
      omega
    rw [hi] at hq
    have e : r = q := Option.some.inj hq
    subst e
    refine ⟨t, ?_, h⟩
    rw [List.getElem?_append_right (by rw [R.1]; omega), R.1, hi]
    rfl

/-! ### a caller in the heap -/
structure Ad where
  a : Addr
  lc : Addr
  lh : Addr
def Ad.own (A : Ad) : List Addr := [A.a, A.lc, A.lh]
def cF (c : Caller) (A : Ad) : List (Str × V) := [("me", .int (c.me : Int)), ("calls", .ref A.lc), ("heard", .ref A.lh), ("last", .int (lastI c)), ("tellings", .int (c.told : Int))]
def wRow (w : What) : List V := [.int (w.kind : Int), .int (w.x : Int), .int (w.y : Int)]
structure CAt (C : Addr) (H : Hp) (A : Ad) (c : Caller) : Prop where
  ins : ∃ dx, H A.a = some (.ins C dx (cF c A))
  cls : ∃ xs, H A.lc = some (.lst xs) ∧ Rows H xs (c.said.map wRow)
  hrd : H A.lh = some (.lst (c.known.map V.bl))
  ne : A.lc ≠ A.lh
theorem CAt.same {C : Addr} {H H' : Hp} {A : Ad} {c : Caller} (J : CAt C H A c) (s : Same H H') : CAt C H' A c := by
  obtain ⟨⟨dx, h1⟩, ⟨xs, h2, h3⟩, h4, h5⟩ := J
  exact ⟨⟨dx, s _ _ h1⟩, ⟨xs, s _ _ h2, h3.keep fun t r e => s _ _ e⟩, s _ _ h4, h5⟩
theorem lk_here {k : Str} {v : V} {r : List (Str × V)} : List.lookup k ((k, v) :: r) = some v := by
  have e : (k == k) = true := beq_self_eq_true k
  simp only [List.lookup, e]
theorem lk_past {k g : Str} {v : V} {r : List (Str × V)} (h : (k == g) = false) : List.lookup k ((g, v) :: r) = List.lookup k r := by
  simp only [List.lookup, h]
theorem put_here {f : Str} {v x : V} {r : List (Str × V)} : putF f v ((f, x) :: r) = (f, v) :: r := if_pos rfl
theorem put_past {f g : Str} {v x : V} {r : List (Str × V)} (h : ¬ g = f) : putF f v ((g, x) :: r) = (g, x) :: putF f v r := if_neg h
theorem cF_me (c : Caller) (A : Ad) : (cF c A).lookup ("me" : Str) = some (.int (c.me : Int)) := by rfl
theorem cF_calls (c : Caller) (A : Ad) : (cF c A).lookup ("calls" : Str) = some (.ref A.lc) := by rfl
theorem cF_heard (c : Caller) (A : Ad) : (cF c A).lookup ("heard" : Str) = some (.ref A.lh) := by rfl
theorem cF_last (c : Caller) (A : Ad) : (cF c A).lookup ("last" : Str) = some (.int (lastI c)) := by rfl
theorem cF_tellings (c : Caller) (A : Ad) : (cF c A).lookup ("tellings" : Str) = some (.int (c.told : Int)) := by rfl
theorem cF_m (c : Caller) (A : Ad) : (cF c A).lookup ("all_open" : Str) = none := by rfl

/-! ### a shore in the heap -/
structure Sd where
  a : Addr
  lk : Addr
def Sd.own (B : Sd) : List Addr := [B.a, B.lk]
def sF (s : Shore) (B : Sd) : List (Str × V) := [("kept", .ref B.lk), ("again", .int (s.again : Int))]
def hRow (h : Heard) : List V := [.int (h.who : Int), .int (h.number : Int), .int (h.what.kind : Int), .int (h.what.x : Int), .int (h.what.y : Int)]
structure SAt (C : Addr) (H : Hp) (B : Sd) (s : Shore) : Prop where
  ins : ∃ dx, H B.a = some (.ins C dx (sF s B))
  kep : ∃ xs, H B.lk = some (.lst xs) ∧ Rows H xs (s.log.map hRow)
theorem SAt.same {C : Addr} {H H' : Hp} {B : Sd} {s : Shore} (J : SAt C H B s) (z : Same H H') : SAt C H' B s := by
  obtain ⟨⟨dx, h1⟩, ⟨xs, h2, h3⟩⟩ := J
  exact ⟨⟨dx, z _ _ h1⟩, ⟨xs, z _ _ h2, h3.keep fun t r e => z _ _ e⟩⟩
theorem sF_kept (s : Shore) (B : Sd) : (sF s B).lookup ("kept" : Str) = some (.ref B.lk) := by rfl
theorem sF_again (s : Shore) (B : Sd) : (sF s B).lookup ("again" : Str) = some (.int (s.again : Int)) := by rfl

/-! ### what the top has written -/
def NUMBV : List V := (NUMB.map fun (x : Nat) => (x : Int)).map V.int
structure Txt (K : PySem.W.Frag) (mg : Str → Option Value) (CR CC CS CD fRI fNeed fCon fIsC fTold fBits fOfC fOfS aNUM aROW : Addr) : Prop where
  low : PySem.LowX.LowTxt K mg CR fRI
  clC : Cls K CC
  clS : Cls K CS
  clD : Cls K CD
  nMe : NoAttr K CC "me"
  nCalls : NoAttr K CC "calls"
  nHeard : NoAttr K CC "heard"
  nLast : NoAttr K CC "last"
  nTell : NoAttr K CC "tellings"
  nKept : NoAttr K CS "kept"
  nAgain : NoAttr K CS "again"
  nCallers : NoAttr K CD "callers"
  nShore : NoAttr K CD "shore"
  gCALL : ∃ t, mg "CALL" = some (.int 1 t)
  gANSWER : ∃ t, mg "ANSWER" = some (.int 2 t)
  gMCALLER : ∃ t, mg "MOST_CALLER" = some (.int 3 t)
  gMCALLS : ∃ t, mg "MOST_CALLS" = some (.int 30 t)
  gMKIND : ∃ t, mg "MOST_KIND" = some (.int 9 t)
  gMNUM : ∃ t, mg "MOST_NUMBER" = some (.int 1000000 t)
  gBEHIND : ∃ t, mg "BEHIND" = some (.int 8 t)
  gBITS : ∃ t, mg "BITS" = some (.int 256 t)
  gNOCALL : ∃ t, mg "NO_CALL" = some (.int (-2) t)
  gNONE : ∃ t, mg "NONE" = some (.int (-6) t)
  gNOTSO : ∃ t, mg "NOT_SO" = some (.int (-22) t)
  gFULL : ∃ t, mg "FULL" = some (.int (-28) t)
  gNOMSG : ∃ t, mg "NO_MESSAGE" = some (.int (-71) t)
  gOTHER : ∃ t, mg "OTHERWISE" = some (.int (-74) t)
  gCALLERS : ∃ t, mg "CALLERS" = some (.int 3 t)
  gCA : ∃ t, mg "CA_START" = some (.int 0 t)
  gSH : ∃ t, mg "SH_START" = some (.int 9 t)
  gNUMBERS : mg "NUMBERS" = some (.ref aNUM)
  sNUMBERS : ∀ H, SqT K H aNUM NUMBV
  gROW : mg "WITH_ROW" = some (.ref aROW)
  sROW : ∀ H, SqT K H aROW [.int 3, .int 7, .int 10]
  gNeed : mg "need" = some (.ref fNeed)
  kNeed : PySem.W.keepIn K (.ref fNeed) = true
  gCon : mg "is_content" = some (.ref fCon)
  kCon : PySem.W.keepIn K (.ref fCon) = true
  gIsC : mg "is_call" = some (.ref fIsC)
  kIsC : PySem.W.keepIn K (.ref fIsC) = true
  gTold : mg "told_by" = some (.ref fTold)
  kTold : PySem.W.keepIn K (.ref fTold) = true
  gBits : mg "bits_of" = some (.ref fBits)
  kBits : PySem.W.keepIn K (.ref fBits) = true
  gOfC : mg "of_caller" = some (.ref fOfC)
  kOfC : PySem.W.keepIn K (.ref fOfC) = true
  gOfS : mg "of_shore" = some (.ref fOfS)
  kOfS : PySem.W.keepIn K (.ref fOfS) = true
  gCC : mg "Caller" = some (.ref CC)
  gCS : mg "Shore" = some (.ref CS)
  gCD : mg "Desk" = some (.ref CD)
  len : mg "len" = none
  range : mg "range" = none
  list : mg "list" = none
  tuple : mg "tuple" = none
  min : mg "min" = none
  max : mg "max" = none
  sorted : mg "sorted" = none
  int : mg "int" = none
theorem pe_gi {X : Cx} {x : Str} {n : Int} {pos : Pos} (h : ∃ t, X.mg x = some (.int n t)) (hg : Gl X x := by rfl) (hdb : (x == ("__debug__" : Str)) = false := by decide) : PE X (.Name x pos) (tC (.int n)) := by
  obtain ⟨t, e⟩ := h
  exact pe_glob hg e ⟨t, rfl⟩ hdb
theorem pe_gr {X : Cx} {x : Str} {a : Addr} {pos : Pos} (h : X.mg x = some (.ref a)) (hg : Gl X x := by rfl) (hdb : (x == ("__debug__" : Str)) = false := by decide) : PE X (.Name x pos) (tC (.ref a)) := pe_glob hg h rfl hdb
/-- a def that may be called: it keeps its promise, its arguments bind -/
def Can (P : Program) (w : World) (K : PySem.W.Frag) (mg : Str → Option Value) (base : Heap) (CX : CXT) (k : Nat) (f : Addr) (ps : List Str) (sp : Sp) : Prop :=
  ∃ fd, FnOk P w K mg base CX k f fd ps sp ∧ Binds K fd ps []
end CA

/-! # HMsg: need, is_content, is_call, told_by, bits_of -/
namespace CA
open PySem PySem.Spec PyProof.Rows L2
open Km448Neutral (nums)
open Km448 (Caller Shore What Heard)
open CM

def spNeed (CR : Addr) : Sp := fun vs H Q E => ∃ (b : Bool) (n : Int), vs = [.bl b, .int n] ∧ (b = true → Q .non H) ∧
  (b = false → ∀ (d : Addr) (H' : Hp), Same H H' → H' d = some (.xd [(("answer" : Str), .int n)]) → E (.ref CR) (some d) H')
def spCon : Sp := fun vs H Q _ => ∃ k x y : Int, vs = [.int k, .int x, .int y] ∧ Q (.bl (contentI k x y)) H
def spIsC (K : PySem.W.Frag) : Sp := fun vs H Q _ => ∃ (p : Addr) (w k i a x y : Int), vs = [.ref p] ∧ SqL K H p [.int w, .int k, .int i, .int a, .int x, .int y] ∧ Q (.bl (isCallI w k i a x y)) H
def spTold : Sp := fun vs H Q _ => ∃ n b : Nat, vs = [.int (n : Int), .int (b : Int)] ∧ n ≤ 1000 ∧ ∀ p : Addr, H p = none → Q (.ref p) (upd H p (.lst (vis (toldN n b))))
def spBits (K : PySem.W.Frag) : Sp := fun vs H Q _ => ∃ (p : Addr) (l : List Nat), vs = [.ref p] ∧ SqL K H p (vis l) ∧ (∀ i ∈ l, i ≤ 1000) ∧ Q (.int ((Km448.bits l : Nat) : Int)) H

section
variable {P : Program} {w : World} {K : PySem.W.Frag} {mg : Str → Option Value} {base : Heap} {CR CC CS CD fRI fNeed fCon fIsC fTold fBits fOfC fOfS aNUM aROW : Addr}

theorem scNeed : FnScope ["truth", "answer"] ["truth", "answer"] (defScope sNeed) := ⟨rfl, rfl, rfl, by decide +kernel, rfl, by decide +kernel, by decide +kernel⟩
theorem ok_need {f : Addr} {fd : FuncData} (F : Fun K "need" "need" sNeed f fd) (T : Txt K mg CR CC CS CD fRI fNeed fCon fIsC fTold fBits fOfC fOfS aNUM aROW) : FnOk P w K mg base (L2.CX P w) 3 f fd ["truth", "answer"] (spNeed CR) := by
  refine F.okX scNeed (fun vs H Q E h => ?_) (fun cdv A outer s H vs Q E hr h => ⟨_, pss_one (ps_if (pt_not (pt_val (pv 0))) (pss_one (ps_raiseLow rfl T.low hr (takes_of rfl rfl rfl rfl) (by exact (pa_cons (pv 1) pa_nil)))) pss_nil), ?_⟩)
  · obtain ⟨b, n, rfl, _⟩ := h
    rfl
  · obtain ⟨b, n, rfl, h1, h2⟩ := h
    refine ⟨_, rfl, _, rfl, ?_⟩
    cases b with
    | true => exact iteF (h1 rfl)
    | false => exact iteT ⟨_, rfl, _, rfl, fun d hd => h2 rfl d _ (same_upd hd) upd_same⟩

theorem scCon : FnScope ["kind", "x", "y"] ["kind", "x", "y"] (defScope sContent) := ⟨rfl, rfl, rfl, by decide +kernel, rfl, by decide +kernel, by decide +kernel⟩
theorem ok_con {f : Addr} {fd : FuncData} (F : Fun K "is_content" "is_content" sContent f fd) (T : Txt K mg CR CC CS CD fRI fNeed fCon fIsC fTold fBits fOfC fOfS aNUM aROW) : FnOk P w K mg base CX0 1 f fd ["kind", "x", "y"] spCon := by
  refine F.ok scCon (fun vs H Q E h => ?_) (fun cdv A outer s H vs Q E hr h => ⟨_, pss_one (ps_ret (pe_and (pe_cmpR op_le pe_int (pv 0) (nomark _)) (pe_and (pe_cmpR op_le (pv 0) (pe_gi T.gMKIND) (nomark _))
    (pe_and (pe_cmpR op_le (pv 1) (pe_gi T.gMNUM) (nomark _)) (pe_one (pe_cmpR op_le (pv 2) (pe_gi T.gMNUM) (nomark _))))))), ?_⟩)
  · obtain ⟨k, x, y, rfl, _⟩ := h
    rfl
  · obtain ⟨k, x, y, rfl, h⟩ := h
    unfold contentI at h
    refine ⟨_, rfl, _, _, rfl, rfl, _, rfl, ?_⟩
    cases c1 : decide (1 ≤ k) with
    | false =>
      rw [c1] at h
      exact iteF h
    | true =>
      rw [c1] at h
      refine iteT ⟨_, rfl, _, _, rfl, rfl, _, rfl, ?_⟩
      cases c2 : decide (k ≤ 9) with
      | false =>
        rw [c2] at h
        exact iteF h
      | true =>
        rw [c2] at h
        refine iteT ⟨_, rfl, _, _, rfl, rfl, _, rfl, ?_⟩
        cases c3 : decide (x ≤ 1000000) with
        | false =>
          rw [c3] at h
          exact iteF h
        | true =>
          rw [c3] at h
          exact iteT ⟨_, rfl, _, _, rfl, rfl, h⟩

theorem dv (i j : Int) : decide (V.int i = V.int j) = decide (i = j) := by
  by_cases h : i = j
  · subst h
    rw [decide_eq_true rfl, decide_eq_true rfl]
  · rw [decide_eq_false h, decide_eq_false (fun e => h (V.int.inj e))]
theorem bit_test (b j : Nat) : decide (V.int (Builtin.bitAnd ((b : Int) / 2 ^ ((j : Int)).toNat) 1) = V.int 1) = b.testBit j := by
  rw [dv, Int.toNat_natCast]
  have e1 : (b : Int) / 2 ^ j = ((b / 2 ^ j : Nat) : Int) := by
    rw [Int.natCast_ediv]
    congr 1
  have e2 : Builtin.bitAnd ((b / 2 ^ j : Nat) : Int) 1 = ((b / 2 ^ j % 2 : Nat) : Int) := by
    have : Builtin.bitAnd ((b / 2 ^ j : Nat) : Int) 1 = (((((b / 2 ^ j : Nat) : Int).toNat &&& (1 : Int).toNat) : Nat) : Int) := by
      have hx : (0 : Int) ≤ ((b / 2 ^ j : Nat) : Int) := Int.natCast_nonneg _
      unfold Builtin.bitAnd
      rw [decide_eq_true hx]
      rfl
    rw [this, Int.toNat_natCast]
    have : (1 : Int).toNat = 1 := rfl
    rw [this, Nat.and_one_is_mod]
  rw [e1, e2, Nat.testBit_eq_decide_div_mod_eq]
  exact decide_eq_decide.mpr (by omega)

/-! ### is_call. Slots: message, word, caller, number, kind, x, y -/
theorem scIsC : FnScope ["message", "word", "caller", "number", "kind", "x", "y"] ["message"] (defScope sIsCall) := ⟨rfl, rfl, rfl, by decide +kernel, rfl, by decide +kernel, by decide +kernel⟩
theorem ok_isc {f : Addr} {fd : FuncData} (F : Fun K "is_call" "is_call" sIsCall f fd) (T : Txt K mg CR CC CS CD fRI fNeed fCon fIsC fTold fBits fOfC fOfS aNUM aROW) (GC : Can P w K mg base CX0 1 fCon ["kind", "x", "y"] spCon) :
    FnOk P w K mg base CX0 2 f fd ["message"] (spIsC K) := by
  obtain ⟨fdC, GC, bC⟩ := GC
  refine F.ok scIsC (fun vs H Q E h => ?_) (fun cdv A outer s H vs Q E hr h => ⟨_, pss_cons (ps_asg (pv 0) (pg_unl rfl (pgs_cons (pg_name (i := 1) scIsC.nd rfl (Or.inl rfl)) (pgs_cons (pg_name (i := 2) scIsC.nd rfl (Or.inl rfl)) (pgs_cons (pg_name (i := 3) scIsC.nd rfl (Or.inl rfl))
      (pgs_cons (pg_name (i := 4) scIsC.nd rfl (Or.inl rfl)) (pgs_cons (pg_name (i := 5) scIsC.nd rfl (Or.inl rfl)) (pgs_cons (pg_name (i := 6) scIsC.nd rfl (Or.inl rfl)) pgs_nil))))))))
    (pss_one (ps_ret (pe_and (pe_cmpR op_eq (pv 1) (pe_gi T.gCALL) (nomark _)) (pe_and (pe_cmpR op_le (pv 2) (pe_gi T.gMCALLER) (nomark _)) (pe_and (pe_cmpR op_lt (pv 3) (pe_gi T.gMCALLS) (nomark _))
      (pe_one (pe_call GC hr rfl T.gCon T.kCon bC .nil pass0 (pa_cons (pv 4) (pa_cons (pv 5) (pa_cons (pv 6) pa_nil)))))))))), ?_⟩)
  · obtain ⟨p, w', k, i, a, x, y, rfl, _⟩ := h
    rfl
  · obtain ⟨p, w', k, i, a, x, y, rfl, hS, h⟩ := h
    refine ⟨_, rfl, p, _, rfl, hS, rfl, _, _, rfl, _, _, rfl, _, _, rfl, _, _, rfl, _, _, rfl, _, _, rfl, rfl, ?_⟩
    unfold isCallI at h
    refine ⟨_, rfl, rfl, _, rfl, ?_⟩
    rw [dv]
    cases c1 : decide (w' = 1) with
    | false =>
      rw [c1] at h
      exact iteF h
    | true =>
      rw [c1] at h
      refine iteT ⟨_, rfl, _, _, rfl, rfl, _, rfl, ?_⟩
      cases c2 : decide (k ≤ 3) with
      | false =>
        rw [c2] at h
        exact iteF h
      | true =>
        rw [c2] at h
        refine iteT ⟨_, rfl, _, _, rfl, rfl, _, rfl, ?_⟩
        cases c3 : decide (i < 30) with
        | false =>
          rw [c3] at h
          exact iteF h
        | true =>
          rw [c3] at h
          exact iteT ⟨_, rfl, _, rfl, _, rfl, _, _, _, rfl, h⟩

/-! ### bits_of. Slots: numbers, found, number -/
theorem scBits : FnScope ["numbers", "found", "number"] ["numbers"] (defScope sBitsOf) := ⟨rfl, rfl, rfl, by decide +kernel, rfl, by decide +kernel, by decide +kernel⟩
theorem ok_bits {f : Addr} {fd : FuncData} (F : Fun K "bits_of" "bits_of" sBitsOf f fd) : FnOk P w K mg base CX0 1 f fd ["numbers"] (spBits K) := by
  refine F.ok scBits (fun vs H Q E h => ?_) (fun cdv A outer s H vs Q E hr h => ⟨_, pss_cons (ps_set (i := 1) scBits.nd rfl (Or.inl rfl) pe_int)
    (pss_cons (ps_for PassesOwn.never rfl (pi_list (pv 0)) (pg_name (i := 2) scBits.nd rfl (Or.inl rfl)) (pss_one (ps_aug (i := 1) scBits.nd rfl (Or.inl rfl) (pe_op op_shl pe_int (pv 2)) ip_add)))
    (pss_one (ps_ret (pv 1)))), ?_⟩)
  · obtain ⟨p, l, rfl, _⟩ := h
    rfl
  · obtain ⟨p, l, rfl, hS, hl, h⟩ := h
    refine ⟨_, rfl, p, rfl, ⟨_, hS⟩, for_list (K := K) (a := p) (xs := vis l) (fun i σ H' => ∃ v : Option V, σ = [some (.ref p), some (.int ((Km448.bits (l.take i) : Nat) : Int)), v] ∧ H' = H)
      ⟨none, rfl, rfl⟩ (fun i σ H' _ ⟨_, _, e⟩ => by rw [e]; exact hS) ?_ ?_⟩
    · rintro i y σ H' hi ⟨v, rfl, rfl⟩
      obtain ⟨n, hn, rfl⟩ := vis_get hi
      have := hl n (List.mem_of_getElem? hn)
      refine ⟨_, rfl, _, rfl, _, _, rfl, rfl, ⟨by omega, by omega, by decide⟩, _, _, rfl, rfl, ?_⟩
      have e : ((Km448.bits (l.take (i + 1)) : Nat) : Int) = ((Km448.bits (l.take i) : Nat) : Int) + 1 * 2 ^ ((n : Int)).toNat := by
        rw [bits_more hn, Int.toNat_natCast, Int.one_mul, Int.natCast_add]
        congr 1
      refine ⟨some (.int (n : Int)), ?_, rfl⟩
      rw [e]
      rfl
    · rintro σ H' ⟨v, rfl, rfl⟩
      rw [vis_length, List.take_length]
      exact ⟨_, rfl, h⟩

/-! ### told_by. Slots: whole, bits, found, k -/
theorem rgV_nat (n : Nat) : rgV 0 (n : Int) = vis (List.range n) := by
  unfold rgV vis Km448Neutral.nums
  rw [show ((n : Int) - 0).toNat = n by omega, List.map_map]
  exact List.map_congr_left fun i _ => by
    show V.int (0 + (i : Int)) = V.int (i : Int)
    rw [Int.zero_add]
def toldK (n b k : Nat) : List Nat := List.range n ++ ((List.range k).filter fun j => b.testBit j).map fun j => n + 1 + j
theorem toldK_more (n b k : Nat) : toldK n b (k + 1) = if b.testBit k = true then toldK n b k ++ [n + 1 + k] else toldK n b k := by
  unfold toldK
  rw [List.range_succ, List.filter_append]
  cases h : b.testBit k with
  | true =>
    rw [if_pos rfl, List.filter_cons, h]
    simp
  | false =>
    rw [List.filter_cons, h]
    simp
theorem toldK_length (n b k : Nat) : (toldK n b k).length ≤ n + k := by
  unfold toldK
  rw [List.length_append, List.length_map, List.length_range]
  have := List.length_filter_le (fun j => b.testBit j) (List.range k)
  rw [List.length_range] at this
  omega
theorem scTold : FnScope ["whole", "bits", "found", "k"] ["whole", "bits"] (defScope sToldBy) := ⟨rfl, rfl, rfl, by decide +kernel, rfl, by decide +kernel, by decide +kernel⟩
theorem ok_told {f : Addr} {fd : FuncData} (F : Fun K "told_by" "told_by" sToldBy f fd) (T : Txt K mg CR CC CS CD fRI fNeed fCon fIsC fTold fBits fOfC fOfS aNUM aROW) : FnOk P w K mg base CX0 1 f fd ["whole", "bits"] spTold := by
  refine F.ok scTold (fun vs H Q E h => ?_) (fun cdv A outer s H vs Q E hr h => ⟨_, pss_cons (ps_set (i := 2) scTold.nd rfl (Or.inl rfl) (pe_listRg rfl rfl T.list (prg_1 rfl T.range (pv 0))))
    (pss_cons (ps_for PassesOwn.never rfl (pi_range1 rfl T.range (pa_cons (pe_gi T.gBEHIND) pa_nil)) (pg_name (i := 3) scTold.nd rfl (Or.inl rfl))
      (pss_one (ps_if (pt_cmpR op_eq (pe_op op_and (pe_op op_shr (pv 1) (pv 3)) pe_int) pe_int (nomark _))
        (pss_one (ps_expr (pe_bm PySem.F.plainAttrs_list PySem.F.slot_list_append PySem.F.type_list_append mt_append (pv 2) (pa_cons (pe_op op_add (pe_op op_add (pv 0) pe_int) (pv 3)) pa_nil)))) pss_nil)))
    (pss_one (ps_ret (pv 2)))), ?_⟩)
  · obtain ⟨n, b, rfl, _⟩ := h
    rfl
  · obtain ⟨n, b, rfl, hn, h⟩ := h
    refine ⟨_, rfl, _, rfl, ⟨by omega, by omega, by omega, by omega, by omega⟩, fun p hp => ?_⟩
    rw [rgV_nat]
    refine ⟨8, rfl, by decide, by decide, for_range (n := 8) (fun i σ H' => ∃ v : Option V, σ = [some (.int (n : Int)), some (.int (b : Int)), some (.ref p), v] ∧ H' = upd H p (.lst (vis (toldK n b i))))
      ⟨none, rfl, ?_⟩ ?_ ?_⟩
    · unfold toldK
      simp
    · rintro i σ H' hi ⟨v, rfl, rfl⟩
      rw [show (0 : Int) + (i : Int) = (i : Int) by omega]
      refine ⟨_, rfl, _, rfl, _, _, rfl, rfl, by omega, _, _, rfl, rfl, rfl, _, rfl, ?_⟩
      rw [bit_test]
      cases hb : b.testBit i with
      | false =>
        refine iteF ⟨_, rfl, ?_⟩
        rw [toldK_more, hb]
        rfl
      | true =>
        refine iteT ⟨_, rfl, .inl ⟨rfl, _, SqL.here upd_same⟩, _, rfl, _, _, rfl, rfl, _, rfl, _, _, rfl, rfl, p, _, _, rfl, rfl, upd_same, ?_, _, rfl, ?_⟩
        · rw [vis_length]
          have := toldK_length n b i
          exact ltLine (by omega)
        · rw [upd_upd, toldK_more, hb, if_pos rfl, vis_append]
          rfl
    · rintro σ H' ⟨v, rfl, rfl⟩
      exact ⟨_, rfl, h p hp⟩
end
end CA

/-! # HCal1: a caller's __init__, all_open, may_call, say -/
namespace CA
open PySem PySem.Spec PyProof.Rows L2
open Km448Neutral (nums)
open Km448 (Caller Shore What Heard)
open CM

/-- how a caller's call ends -/
structure CEnd (CR C : Addr) (H : Hp) (A : Ad) (c : Caller) (x : Km448.Call) (Q : VK) (E : XK) : Prop where
  no : (Km448.cDoes c x).2.value < 0 → ∀ (d : Addr) (H' : Hp), Same H H' → H' d = some (.xd [(("answer" : Str), .int (Km448.cDoes c x).2.value)]) → E (.ref CR) (some d) H'
  yes : 0 ≤ (Km448.cDoes c x).2.value → ∀ (p : Addr) (H' : Hp), H p = none → H' p = some (.lst ((Km448Neutral.told (Km448.cDoes c x).2).map V.int)) → CAt C H' A (Km448.cDoes c x).1 → Chg A.own H H' → Q (.ref p) H'

def spCInit (C : Addr) : Sp := fun vs H Q _ => ∃ (p dx : Addr) (me : Nat), vs = [.ref p, .int (me : Int)] ∧ H p = some (.ins C dx []) ∧
  ∀ (H' : Hp) (A : Ad), A.a = p → CAt C H' A (Km448.caller0 me) → H A.lc = none → H A.lh = none → (∀ b o, H b = some o → b ≠ p → H' b = some o) → Q .non H'
def spAll (C : Addr) : Sp := fun vs H Q _ => ∃ (A : Ad) (c : Caller), vs = [.ref A.a] ∧ CAt C H A c ∧ WF c ∧ ∀ p : Addr, H p = none → Q (.ref p) (upd H p (.lst (vis c.open_)))
def spMay (C : Addr) : Sp := fun vs H Q _ => ∃ (A : Ad) (c : Caller), vs = [.ref A.a] ∧ CAt C H A c ∧ WF c ∧ ∀ H' : Hp, Same H H' → Q (.bl (mayC c)) H'
def spSay (CR C : Addr) : Sp := fun vs H Q E => ∃ (A : Ad) (c : Caller) (k x y : Nat), vs = [.ref A.a, .int (k : Int), .int (x : Int), .int (y : Int)] ∧ CAt C H A c ∧ WF c ∧ CEnd CR C H A c (.cSay k x y) Q E

theorem upd_get {H : Hp} {a b : Addr} {u : HO} {o : Option HO} (h : b ≠ a) (e : H b = o) : upd H a u b = o := (upd_ne h).trans e
theorem ne_new {H : Hp} {a b : Addr} {o : HO} (h : H a = some o) (n : H b = none) : a ≠ b := ne_of_none h n

section
variable {P : Program} {w : World} {K : PySem.W.Frag} {mg : Str → Option Value} {base : Heap} {CR CC CS CD fRI fNeed fCon fIsC fTold fBits fOfC fOfS aNUM aROW : Addr}

/-! ### __init__. Slots: self, me -/
theorem scCInit : FnScope ["self", "me"] ["self", "me"] (defScope (sC 0)) := ⟨rfl, rfl, rfl, by decide +kernel, rfl, by decide +kernel, by decide +kernel⟩
theorem ok_cinit {f : Addr} {fd : FuncData} (F : Fun K "__init__" "Caller.__init__" (sC 0) f fd) (T : Txt K mg CR CC CS CD fRI fNeed fCon fIsC fTold fBits fOfC fOfS aNUM aROW) : FnOk P w K mg base CX0 1 f fd ["self", "me"] (spCInit CC) := by
  refine F.ok scCInit (fun vs H Q E h => ?_) (fun cdv A outer s H vs Q E hr h => ⟨_, pss_cons (ps_fld (pv 0) (pv 1) rfl) (pss_cons (ps_fld (pv 0) (pe_lst pa_nil) rfl) (pss_cons (ps_fld (pv 0) (pe_lst pa_nil) rfl)
    (pss_cons (ps_fld (pv 0) (pe_un un_neg pe_int) rfl) (pss_one (ps_fld (pv 0) pe_int rfl))))), ?_⟩)
  · obtain ⟨p, dx, me, rfl, _⟩ := h
    rfl
  · obtain ⟨p, dx, me, rfl, hp, h⟩ := h
    refine ⟨_, rfl, _, rfl, p, CC, dx, [], rfl, hp, T.clC, T.nMe, (by show 0 < 1000; decide), ?_⟩
    refine ⟨Nat.zero_le _, fun l1 n1 => ?_⟩
    have p1 : p ≠ l1 := ne_new upd_same n1
    have z1 : H l1 = none := by rw [upd_ne (Ne.symm p1)] at n1; exact n1
    refine ⟨_, rfl, p, CC, dx, _, rfl, upd_get p1 upd_same, T.clC, T.nCalls, (by show 1 < 1000; decide), ?_⟩
    refine ⟨Nat.zero_le _, fun l2 n2 => ?_⟩
    have p2 : p ≠ l2 := ne_new upd_same n2
    rw [upd_ne (Ne.symm p2)] at n2
    have l12 : l1 ≠ l2 := ne_new upd_same n2
    rw [upd_ne (Ne.symm l12), upd_ne (Ne.symm p2)] at n2
    refine ⟨_, rfl, p, CC, dx, _, rfl, upd_get p2 upd_same, T.clC, T.nHeard, (by show 2 < 1000; decide), ?_⟩
    refine ⟨_, rfl, _, rfl, p, CC, dx, _, rfl, upd_same, T.clC, T.nLast, (by show 3 < 1000; decide), ?_⟩
    refine ⟨_, rfl, p, CC, dx, _, rfl, upd_same, T.clC, T.nTell, (by show 4 < 1000; decide), ?_⟩
    refine h _ ⟨p, l1, l2⟩ rfl ⟨⟨dx, upd_same⟩, ⟨[], ?_, rows_nil⟩, ?_, l12⟩ z1 n2 fun b o e hb => ?_
    · show upd _ p _ l1 = _
      rw [upd_ne (Ne.symm p1), upd_ne (Ne.symm p1), upd_ne (Ne.symm p1), upd_ne l12, upd_ne (Ne.symm p1)]
      exact upd_same
    · show upd _ p _ l2 = _
      rw [upd_ne (Ne.symm p2), upd_ne (Ne.symm p2), upd_ne (Ne.symm p2)]
      exact upd_same
    · have b1 : b ≠ l1 := ne_new e z1
      have b2 : b ≠ l2 := ne_new e n2
      rw [upd_ne hb, upd_ne hb, upd_ne hb, upd_ne b2, upd_ne hb, upd_ne b1, upd_ne hb]
      exact e

/-! ### all_open. Slots: self; the comprehension's own: number -/
theorem open_more (c : Caller) (i : Nat) : (List.range (i + 1)).filter (fun j => !c.knows j) = if c.knows i = true then (List.range i).filter (fun j => !c.knows j) else (List.range i).filter (fun j => !c.knows j) ++ [i] := by
  rw [List.range_succ, List.filter_append]
  cases h : c.knows i with
  | true =>
    rw [if_pos rfl, List.filter_cons, h]
    simp
  | false =>
    rw [List.filter_cons, h]
    simp
theorem filter_range_le (p : Nat → Bool) (i : Nat) : ((List.range i).filter p).length ≤ i := by
  have := List.length_filter_le p (List.range i)
  rw [List.length_range] at this
  exact this
theorem scAll : FnScope ["self", "number"] ["self"] (defScope (sC 1)) := ⟨rfl, rfl, rfl, by decide +kernel, rfl, by decide +kernel, by decide +kernel⟩
theorem ok_all {f : Addr} {fd : FuncData} (F : Fun K "all_open" "Caller.all_open" (sC 1) f fd) (T : Txt K mg CR CC CS CD fRI fNeed fCon fIsC fTold fBits fOfC fOfS aNUM aROW) : FnOk P w K mg base CX0 1 f fd ["self"] (spAll CC) := by
  refine F.ok scAll (fun vs H Q E h => ?_) (fun cdv A outer s H vs Q E hr h => ⟨_, pss_one (ps_ret (pe_lc (own := [("number", 1)]) (g := gName 1) (tt := tNot (tB (tOp (rIxL K) (tFld K (tVar 0) "heard") (tVar 1)))) (te := tVar 1) rfl scAll.nd
      (pi_range1 rfl T.range (pa_cons (pe_callB call_len_seq (by rfl) T.len PySem.boot_len (pa_cons (pe_fld (pv 0) rfl) pa_nil)) pa_nil))
      (blkOk_by (own := [("number", 1)]) (N := ["self", "number"]) (sc := defScope (sC 1)) (by decide +kernel)) (fun _ _ _ _ _ => pg_name (i := 1) scAll.nd rfl (Or.inl rfl))
      (fun _ _ _ _ _ => by exact (pts_one (pt_not (pt_val (pe_ix ix_list (pe_fld (pv 0) rfl) (pv 1) (fun _ _ => rfl)))))) (fun _ _ _ _ _ => by exact (pv 1)))), ?_⟩)
  · obtain ⟨A, c, rfl, _⟩ := h
    rfl
  · obtain ⟨A, c, rfl, ⟨⟨dx, hI⟩, ⟨xs, hL, hR⟩, hK, hne⟩, W, h⟩ := h
    have hx : xs.length = c.said.length := by rw [hR.1, List.length_map]
    have := W.most
    refine ⟨_, rfl, A.a, CC, dx, _, _, rfl, hI, T.clC, T.nCalls, cF_calls c A, A.lc, xs, rfl, .inl (SqL.here hL), _, rfl, by omega, by omega, fun D hD => ?_⟩
    refine lc_range (lo := 0) (fun i H' => H' = upd H D (.lst (vis ((List.range i).filter fun j => !c.knows j)))) rfl (fun i H' hi e => ?_) (fun H' e => ?_)
    · subst e
      have hi : i < c.said.length := by omega
      have iD : ∀ {a : Addr} {o : HO}, H a = some o → upd H D (.lst (vis ((List.range i).filter fun j => !c.knows j))) a = some o := fun e => upd_get (ne_new e hD) e
      rw [show (0 : Int) + (i : Int) = (i : Int) by omega]
      refine ⟨rfl, _, rfl, A.a, CC, dx, _, _, rfl, iD hI, T.clC, T.nHeard, cF_heard c A, _, rfl, A.lh, _, _, .bl (c.knows i), rfl, rfl, SqL.here (iD hK), atI_nat ?_, _, rfl, ?_⟩
      · rw [List.getElem?_map, knows_at W hi]
        rfl
      · rw [open_more]
        cases hk : c.knows i with
        | true => exact iteF rfl
        | false =>
          refine iteT ⟨_, rfl, _, upd_same, ?_, ?_⟩
          · rw [vis_length]
            have := filter_range_le (fun j => !c.knows j) i
            exact ltLine (by omega)
          · rw [upd_upd, if_neg Bool.false_ne_true, vis_append]
            rfl
    · subst e
      have e : ((xs.length : Int)).toNat = c.said.length := by omega
      rw [e]
      exact h D hD

/-! ### may_call. Slots: self, number -/
theorem scMay : FnScope ["self", "number"] ["self"] (defScope (sC 2)) := ⟨rfl, rfl, rfl, by decide +kernel, rfl, by decide +kernel, by decide +kernel⟩
theorem ok_may {f fA : Addr} {fd : FuncData} (F : Fun K "may_call" "Caller.may_call" (sC 2) f fd) (T : Txt K mg CR CC CS CD fRI fNeed fCon fIsC fTold fBits fOfC fOfS aNUM aROW) (mA : Meth K CC "all_open" fA) (GA : Can P w K mg base CX0 1 fA ["self"] (spAll CC)) :
    FnOk P w K mg base CX0 2 f fd ["self"] (spMay CC) := by
  obtain ⟨fdA, GA, bA⟩ := GA
  refine F.ok scMay (fun vs H Q E h => ?_) (fun cdv A outer s H vs Q E hr h => ⟨_, pss_cons (ps_set (i := 1) scMay.nd rfl (Or.inl rfl) (pe_callB call_len_seq (by rfl) T.len PySem.boot_len (pa_cons (pe_fld (pv 0) rfl) pa_nil)))
    (pss_one (ps_ret (pe_and (pe_cmpR op_lt (pv 1) (pe_gi T.gMCALLS) (nomark _)) (pe_one (pe_cmpR op_lt (pv 1)
      (pe_op op_add (pe_callB (cr_min rfl) (by rfl) T.min (by decide +kernel) (pa_cons (pe_op op_cat (pe_lst (pa_cons (pv 1) pa_nil)) (pe_meth0 (pv 0) T.clC mA GA hr bA .nil pass0)) pa_nil)) (pe_gi T.gBEHIND)) (nomark _)))))), ?_⟩)
  · obtain ⟨A, c, rfl, _⟩ := h
    rfl
  · obtain ⟨A, c, rfl, J, W, h⟩ := h
    have J' := J
    obtain ⟨⟨dx, hI⟩, ⟨xs, hL, hR⟩, hK, hne⟩ := J'
    have hx : xs.length = c.said.length := by rw [hR.1, List.length_map]
    have := W.most
    refine ⟨_, rfl, A.a, CC, dx, _, _, rfl, hI, T.clC, T.nCalls, cF_calls c A, A.lc, xs, rfl, .inl (SqL.here hL), ?_⟩
    rw [hx]
    refine ⟨_, rfl, _, _, rfl, rfl, _, rfl, ?_⟩
    have e : decide ((c.said.length : Int) < 30) = decide (c.said.length < 30) := decide_eq_decide.mpr (by omega)
    rw [e]
    cases c1 : decide (c.said.length < 30) with
    | false =>
      refine iteF ?_
      have := h H (Same.refl H)
      unfold mayC at this
      rw [c1] at this
      exact this
    | true =>
      refine iteT ⟨_, rfl, _, rfl, (by show 1 ≤ sizeLine; decide), fun p hp => ?_⟩
      have s1 := same_upd (o := .lst [.int (c.said.length : Int)]) hp
      refine ⟨_, rfl, A.a, dx, _, rfl, s1 _ _ hI, by rfl, A, c, rfl, J.same s1, W, fun q hq => ?_⟩
      have pq : p ≠ q := ne_new upd_same hq
      have ol := open_length c
      refine ⟨p, q, _, _, rfl, rfl, upd_get pq upd_same, upd_same, ?_, fun r hr' => ?_⟩
      · rw [vis_length]
        show 1 + _ ≤ _
        exact leLine (by omega)
      · have sr : Same H _ := same_upd_of (o := .lst ([.int (c.said.length : Int)] ++ vis c.open_)) (same_upd_of (o := .lst (vis c.open_)) s1 hq) hr'
        refine ⟨r, nums (c.said.length :: c.open_), rfl, SqL.here upd_same, by show 0 < _; exact Nat.succ_pos _, fun m hm hl => ?_⟩
        have em := min_first hm hl
        subst em
        refine ⟨_, _, rfl, rfl, _, _, rfl, rfl, ?_⟩
        have := h _ sr
        unfold mayC at this
        rw [c1, Bool.true_and] at this
        have e2 : decide ((c.said.length : Int) < (c.first : Int) + 8) = decide (c.said.length < c.first + 8) := decide_eq_decide.mpr (by omega)
        show Q (.bl (decide ((c.said.length : Int) < (c.first : Int) + 8))) _
        rw [e2]
        exact this
end
end CA

/-! # HCal2: a caller's say, next_told, tell -/
namespace CA
open PySem PySem.Spec PyProof.Rows L2
open Km448Neutral (nums)
open Km448 (Caller Shore What Heard)
open CM

theorem upd_none {H : Hp} {a p : Addr} {o : HO} (h : upd H a o p = none) : p ≠ a ∧ H p = none := by
  have n : p ≠ a := by
    rintro rfl
    rw [upd_same] at h
    cases h
  rw [upd_ne n] at h
  exact ⟨n, h⟩
theorem CEnd.refuse {CR C : Addr} {H : Hp} {A : Ad} {c : Caller} {x : Km448.Call} {Q : VK} {E : XK} (h : CEnd CR C H A c x Q E) {v : Int} (e : (Km448.cDoes c x).2 = Km448.only v) (hv : v < 0) :
    ∀ (d : Addr) (H' : Hp), Same H H' → H' d = some (.xd [(("answer" : Str), .int v)]) → E (.ref CR) (some d) H' := fun d H' s hd =>
  h.no (by rw [e]; exact hv) d H' s (by rw [e]; exact hd)
theorem CEnd.answer {CR C : Addr} {H : Hp} {A : Ad} {c : Caller} {x : Km448.Call} {Q : VK} {E : XK} (h : CEnd CR C H A c x Q E) {c' : Caller} {a : Km448.Ans} (e : Km448.cDoes c x = (c', a)) (hv : 0 ≤ a.value) :
    ∀ (p : Addr) (H' : Hp), H p = none → H' p = some (.lst ((Km448Neutral.told a).map V.int)) → CAt C H' A c' → Chg A.own H H' → Q (.ref p) H' := fun p H' hp hl J ch =>
  h.yes (by rw [e]; exact hv) p H' hp (by rw [e]; exact hl) (by rw [e]; exact J) ch
theorem own_a {A : Ad} : A.a ∈ A.own := List.mem_cons_self
theorem own_lc {A : Ad} : A.lc ∈ A.own := List.mem_cons_of_mem _ List.mem_cons_self
theorem own_lh {A : Ad} : A.lh ∈ A.own := List.mem_cons_of_mem _ (List.mem_cons_of_mem _ List.mem_cons_self)

/-! ### what the specification answers -/
theorem say_no1 {c : Caller} {k x y : Nat} (h : Km448.okWhat ⟨k, x, y⟩ = false) : Km448.cDoes c (.cSay k x y) = (c, Km448.only (-22)) := by
  unfold Km448.cDoes
  dsimp only
  rw [if_pos h]
theorem say_no2 {c : Caller} {k x y : Nat} (h : Km448.okWhat ⟨k, x, y⟩ = true) (m : mayC c = false) : Km448.cDoes c (.cSay k x y) = (c, Km448.only (-28)) := by
  unfold Km448.cDoes
  dsimp only
  rw [if_neg (by rw [h]; decide), if_pos ((mayC_iff c).mpr m)]
theorem say_yes {c : Caller} {k x y : Nat} (h : Km448.okWhat ⟨k, x, y⟩ = true) (m : mayC c = true) :
    Km448.cDoes c (.cSay k x y) = ({ c with said := c.said ++ [⟨k, x, y⟩], known := c.known ++ [false] }, Km448.only ((c.said.length : Nat) : Int)) := by
  unfold Km448.cDoes
  dsimp only
  rw [if_neg (by rw [h]; decide), if_neg (fun q => by rw [(mayC_iff c).mp q] at m; cases m)]
theorem tell_no {c : Caller} (h : c.next = none) : Km448.cDoes c .cTell = (c, Km448.only (-6)) := by
  unfold Km448.cDoes
  dsimp only
  rw [h]
theorem tell_yes {c : Caller} {i : Nat} (h : c.next = some i) : Km448.cDoes c .cTell = ({ c with last := i, told := min Km448.MOST (c.told + 1) }, { value := ((i : Nat) : Int), out := c.message i }) := by
  unfold Km448.cDoes
  dsimp only
  rw [h]

def spNext (CR C : Addr) : Sp := fun vs H Q E => ∃ (A : Ad) (c : Caller), vs = [.ref A.a] ∧ CAt C H A c ∧ WF c ∧
  (c.next = none → ∀ (d : Addr) (H' : Hp), Same H H' → H' d = some (.xd [(("answer" : Str), .int (-6))]) → E (.ref CR) (some d) H') ∧
  (∀ i, c.next = some i → ∀ H' : Hp, Same H H' → Q (.int (i : Int)) H')
def spTell (CR C : Addr) : Sp := fun vs H Q E => ∃ (A : Ad) (c : Caller), vs = [.ref A.a] ∧ CAt C H A c ∧ WF c ∧ CEnd CR C H A c .cTell Q E

section
variable {P : Program} {w : World} {K : PySem.W.Frag} {mg : Str → Option Value} {base : Heap} {CR CC CS CD fRI fNeed fCon fIsC fTold fBits fOfC fOfS aNUM aROW : Addr}

/-! ### say. Slots: self, kind, x, y -/
theorem scSay : FnScope ["self", "kind", "x", "y"] ["self", "kind", "x", "y"] (defScope (sC 3)) := ⟨rfl, rfl, rfl, by decide +kernel, rfl, by decide +kernel, by decide +kernel⟩
theorem ok_say {f fM : Addr} {fd : FuncData} (F : Fun K "say" "Caller.say" (sC 3) f fd) (T : Txt K mg CR CC CS CD fRI fNeed fCon fIsC fTold fBits fOfC fOfS aNUM aROW) (GN : Can P w K mg base (L2.CX P w) 3 fNeed ["truth", "answer"] (spNeed CR))
    (GC : Can P w K mg base CX0 1 fCon ["kind", "x", "y"] spCon) (mM : Meth K CC "may_call" fM) (GM : Can P w K mg base CX0 2 fM ["self"] (spMay CC)) :
    FnOk P w K mg base (L2.CX P w) 4 f fd ["self", "kind", "x", "y"] (spSay CR CC) := by
  obtain ⟨fdN, GN, bN⟩ := GN
  obtain ⟨fdC, GC, bC⟩ := GC
  obtain ⟨fdM, GM, bM⟩ := GM
  refine F.okX scSay (fun vs H Q E h => ?_) (fun cdv A outer s H vs Q E hr h => ⟨_, pss_cons (ps_expr (pe_call GN hr rfl T.gNeed T.kNeed bN .nil (passes_call (takes_of rfl rfl rfl rfl) (fun _ _ _ _ h => h))
      (pa_cons (pe_call GC (hr.mono (by decide)) rfl T.gCon T.kCon bC .nil pass0 (pa_cons (pv 1) (pa_cons (pv 2) (pa_cons (pv 3) pa_nil)))) (pa_cons (pe_gi T.gNOTSO) pa_nil))))
    (pss_cons (ps_expr (pe_call GN hr rfl T.gNeed T.kNeed bN .nil (passes_call (takes_of rfl rfl rfl rfl) (fun _ _ _ _ h => h))
      (pa_cons (pe_meth0 (pv 0) T.clC mM GM (hr.mono (by decide)) bM .nil pass0) (pa_cons (pe_gi T.gFULL) pa_nil))))
    (pss_cons (ps_expr (pe_bm PySem.F.plainAttrs_list PySem.F.slot_list_append PySem.F.type_list_append mt_append (pe_fld (pv 0) rfl) (pa_cons (pe_tup (pa_cons (pv 1) (pa_cons (pv 2) (pa_cons (pv 3) pa_nil)))) pa_nil)))
    (pss_cons (ps_expr (pe_bm PySem.F.plainAttrs_list PySem.F.slot_list_append PySem.F.type_list_append mt_append (pe_fld (pv 0) rfl) (pa_cons pe_bl pa_nil)))
    (pss_one (ps_ret (pe_lst (pa_cons (pe_op op_sub (pe_callB call_len_seq (by rfl) T.len PySem.boot_len (pa_cons (pe_fld (pv 0) rfl) pa_nil)) pe_int) pa_nil))))))), ?_⟩)
  · obtain ⟨A, c, k, x, y, rfl, _⟩ := h
    rfl
  · obtain ⟨A, c, k, x, y, rfl, J, W, h⟩ := h
    refine ⟨_, rfl, _, rfl, _, rfl, _, _, _, rfl, _, _, rfl, fun c1 => ?_, fun c1 => ?_⟩
    rotate_left
    · rw [content_eq] at c1
      exact h.refuse (congrArg Prod.snd (say_no1 c1)) (by decide)
    rw [content_eq] at c1
    have J' := J
    obtain ⟨⟨dx, hI⟩, ⟨xs, hL, hR⟩, hK, hne⟩ := J'
    have hx : xs.length = c.said.length := by rw [hR.1, List.length_map]
    have := W.most
    refine ⟨_, rfl, A.a, dx, _, rfl, hI, by rfl, A, c, rfl, J, W, fun H1 s1 => ⟨_, _, rfl, fun c2 => ?_, fun c2 => ?_⟩⟩
    rotate_left
    · exact fun d H' s' hd => h.refuse (congrArg Prod.snd (say_no2 c1 c2)) (by decide) d H' (s1.trans s') hd
    -- self.calls.append((kind, x, y))
    refine ⟨_, rfl, A.a, CC, dx, _, _, rfl, s1 _ _ hI, T.clC, T.nCalls, cF_calls c A, .inl ⟨rfl, _, SqL.here (s1 _ _ hL)⟩, _, rfl, _, rfl, _, rfl, (by show 3 ≤ sizeLine; decide), fun t ht => ⟨A.lc, xs, _, rfl, rfl, ?_, ltLine (by omega), ?_⟩⟩
    · exact upd_get (ne_new (s1 _ _ hL) ht) (s1 _ _ hL)
    have ta : A.a ≠ t := ne_new (s1 _ _ hI) ht
    have tc : A.lc ≠ t := ne_new (s1 _ _ hL) ht
    have th : A.lh ≠ t := ne_new (s1 _ _ hK) ht
    have ac : A.a ≠ A.lc := ne_of hI hL (fun z => by cases z)
    have ah : A.a ≠ A.lh := ne_of hI hK (fun z => by cases z)
    -- self.heard.append(False)
    refine ⟨_, rfl, A.a, CC, dx, _, _, rfl, upd_get ac (upd_get ta (s1 _ _ hI)), T.clC, T.nHeard, cF_heard c A, .inl ⟨rfl, _, SqL.here (upd_get (Ne.symm hne) (upd_get th (s1 _ _ hK)))⟩, A.lh, _, _, rfl, rfl, upd_get (Ne.symm hne) (upd_get th (s1 _ _ hK)), ?_, ?_⟩
    · rw [List.length_map, W.len]
      exact ltLine (by omega)
    refine ⟨_, rfl, A.a, CC, dx, _, _, rfl, upd_get ah (upd_get ac (upd_get ta (s1 _ _ hI))), T.clC, T.nCalls, cF_calls c A, A.lc, _, rfl, .inl (SqL.here (upd_get hne upd_same)), _, _, rfl, rfl, (by show 1 ≤ sizeLine; decide), fun p hp => ?_⟩
    obtain ⟨p1, hp1⟩ := upd_none hp
    obtain ⟨p2, hp2⟩ := upd_none hp1
    obtain ⟨p3, hp3⟩ := upd_none hp2
    have pa : A.a ≠ p := ne_new (s1 _ _ hI) hp3
    refine h.answer (say_yes c1 c2) (Int.natCast_nonneg _) p _ (s1.free hp3) ?_ ⟨⟨dx, ?_⟩, ⟨xs ++ [.ref t], ?_, ?_⟩, ?_, hne⟩ ?_
    · rw [upd_same, List.length_append, hx]
      show some (HO.lst [V.int (((c.said.length + 1 : Nat) : Int) - 1)]) = some (HO.lst [V.int (c.said.length : Int)])
      rw [show ((c.said.length + 1 : Nat) : Int) - 1 = (c.said.length : Int) by omega]
    · exact upd_get pa (upd_get ah (upd_get ac (upd_get ta (s1 _ _ hI))))
    · exact upd_get (Ne.symm p2) (upd_get hne upd_same)
    · show Rows _ _ ((c.said ++ ([⟨k, x, y⟩] : List What)).map wRow)
      rw [List.map_append]
      refine Rows.push (hR.keep fun t' r e => ?_) ?_
      · have e1 := s1 _ _ e
        exact upd_get (ne_new e1 hp3) (upd_get (ne_of e1 (s1 _ _ hK) (fun z => by cases z)) (upd_get (ne_of e1 (s1 _ _ hL) (fun z => by cases z)) (upd_get (ne_new e1 ht) e1)))
      · exact upd_get (Ne.symm p3) (upd_get (Ne.symm th) (upd_get (Ne.symm tc) upd_same))
    · show _ = some (HO.lst ((c.known ++ [false]).map V.bl))
      rw [List.map_append]
      exact upd_get (Ne.symm p1) upd_same
    · exact chg_upd (chg_upd (chg_upd (chg_upd (Chg.of_same s1) (.inr (s1.free ht))) (.inl own_lc)) (.inl own_lh)) (.inr (s1.free hp3))
end
end CA

/-! # HEq: lists of numbers, tuples of two numbers as data that == compares -/
namespace CA
open PySem PySem.Spec PyProof.Rows L2
open Km448Neutral (nums)
def dpd (l : List Nat) : List PyData := l.map fun (n : Nat) => PyData.int (n : Int)
theorem dp_vis {K : PySem.W.Frag} {H : Hp} : ∀ l : List Nat, DpAll K H (vis l) (dpd l)
  | [] => .nil
  | a :: l => .cons (.int _) (dp_vis l)
theorem can_dpd : ∀ l : List Nat, PyData.canLayAll0 (dpd l) = true
  | [] => by simp only [dpd, List.map_nil, PyData.canLayAll0]
  | a :: l => by
    have ih := can_dpd l
    unfold dpd at ih ⊢
    simp only [List.map_cons, PyData.canLayAll0, PyData.canLay0, Bool.true_and]
    exact ih
theorem depth_dpd : ∀ l : List Nat, PyData.depthAll (dpd l) ≤ 2
  | [] => by simp only [dpd, List.map_nil, PyData.depthAll]; omega
  | a :: l => by
    have ih := depth_dpd l
    unfold dpd at ih ⊢
    simp only [List.map_cons, PyData.depthAll, PyData.depth]
    omega
theorem shaped_list (l : List Nat) : SeqAt.shaped (.list (dpd l)) = true := by
  unfold SeqAt.shaped
  rw [Bool.and_eq_true]
  have h := depth_dpd l
  refine ⟨by simp only [PyData.canLay0]; exact can_dpd l, decide_eq_true ?_⟩
  simp only [PyData.depth]
  omega
theorem shaped_tuple (l : List Nat) : SeqAt.shaped (.tuple (dpd l)) = true := by
  unfold SeqAt.shaped
  rw [Bool.and_eq_true]
  have h := depth_dpd l
  refine ⟨by simp only [PyData.canLay0]; exact can_dpd l, decide_eq_true ?_⟩
  simp only [PyData.depth]
  omega
theorem eqv_nil (l : List Nat) : PyData.eqv (.list (dpd l)) (.list (dpd [])) = l.isEmpty := by
  cases l with
  | nil => simp only [dpd, List.map_nil, PyData.eqv, PyData.eqvAll, List.isEmpty_nil]
  | cons a l => simp only [dpd, List.map_cons, List.map_nil, PyData.eqv, PyData.eqvAll, List.isEmpty_cons]
theorem eqv_all : ∀ l r : List Nat, PyData.eqvAll (dpd l) (dpd r) = decide (l = r)
  | [], [] => by simp only [dpd, List.map_nil, PyData.eqvAll, decide_true]
  | [], b :: r => by simp [dpd, PyData.eqvAll]
  | a :: l, [] => by simp [dpd, PyData.eqvAll]
  | a :: l, b :: r => by
    have ih := eqv_all l r
    unfold dpd at ih ⊢
    simp only [List.map_cons, PyData.eqvAll, PyData.eqv, ih]
    rw [Bool.eq_iff_iff]
    simp
    intro _
    omega
theorem eqv_tup (l r : List Nat) : PyData.eqv (.tuple (dpd l)) (.tuple (dpd r)) = decide (l = r) := by
  simp only [PyData.eqv, eqv_all]
end CA

/-! # HCal3: a caller's next_told, tell -/
namespace CA
open PySem PySem.Spec PyProof.Rows L2
open Km448Neutral (nums)
open Km448 (Caller Shore What Heard)
open CM

def rGt : R2 := rI0 fun i j => .bl (decide (j < i))
theorem filter_more {p : Nat → Bool} {l : List Nat} {i n : Nat} (h : l[i]? = some n) : (l.take (i + 1)).filter p = if p n = true then (l.take i).filter p ++ [n] else (l.take i).filter p := by
  rw [take_more h, List.filter_append]
  cases e : p n with
  | true =>
    rw [if_pos rfl, List.filter_cons, e]
    rfl
  | false =>
    rw [List.filter_cons, e]
    simp
theorem filter_take_le (p : Nat → Bool) (l : List Nat) (i : Nat) : ((l.take i).filter p).length ≤ l.length := by
  have h1 := List.length_filter_le p (l.take i)
  have h2 := List.length_take_le' i l
  omega
theorem cF_putLast {c : Caller} {A : Ad} {i : Nat} (h : i < 30) : putF "last" (.int (i : Int)) (cF c A) = cF { c with last := i } A := by
  unfold cF lastI
  dsimp only
  rw [if_pos h]
  rfl
theorem cF_putTell {c : Caller} {A : Ad} {n : Nat} : putF "tellings" (.int (n : Int)) (cF c A) = cF { c with told := n } A := by rfl

section
variable {P : Program} {w : World} {K : PySem.W.Frag} {mg : Str → Option Value} {base : Heap} {CR CC CS CD fRI fNeed fCon fIsC fTold fBits fOfC fOfS aNUM aROW : Addr}

/-! ### next_told. Slots: self, some, later; the comprehension's own: number -/
theorem scNext : FnScope ["self", "some", "later", "number"] ["self"] (defScope (sC 4)) := ⟨rfl, rfl, rfl, by decide +kernel, rfl, by decide +kernel, by decide +kernel⟩
theorem ok_next {f fA : Addr} {fd : FuncData} (F : Fun K "next_told" "Caller.next_told" (sC 4) f fd) (T : Txt K mg CR CC CS CD fRI fNeed fCon fIsC fTold fBits fOfC fOfS aNUM aROW) (GN : Can P w K mg base (L2.CX P w) 3 fNeed ["truth", "answer"] (spNeed CR))
    (mA : Meth K CC "all_open" fA) (GA : Can P w K mg base CX0 1 fA ["self"] (spAll CC)) :
    FnOk P w K mg base (L2.CX P w) 4 f fd ["self"] (spNext CR CC) := by
  obtain ⟨fdN, GN, bN⟩ := GN
  obtain ⟨fdA, GA, bA⟩ := GA
  refine F.okX scNext (fun vs H Q E h => ?_) (fun cdv A outer s H vs Q E hr h => ⟨_, pss_cons (ps_set (i := 1) scNext.nd rfl (Or.inl rfl) (pe_meth0 (pv 0) T.clC mA GA (hr.mono (by decide)) bA .nil pass0))
    (pss_cons (ps_expr (pe_call GN hr rfl T.gNeed T.kNeed bN .nil (passes_call (takes_of rfl rfl rfl rfl) (fun _ _ _ _ h => h))
      (pa_cons (pe_cmpR (op_neD hr.units) (pv 1) (pe_lst pa_nil) (nomark _)) (pa_cons (pe_gi T.gNONE) pa_nil))))
    (pss_cons (ps_setLc (i := 2) (own := [("number", 3)]) (g := gName 3) (tt := tTest (tOp rGt (tVar 3) (tFld K (tVar 0) "last"))) (te := tVar 3) rfl scNext.nd rfl rfl (sw_true rfl rfl rfl (by decide +kernel)) (pi_list (pv 1))
      (blkOk_by (own := [("number", 3)]) (N := ["self", "some", "later", "number"]) (sc := defScope (sC 4)) (by decide +kernel)) (fun _ _ _ _ _ => pg_name (i := 3) scNext.nd rfl (Or.inl rfl))
      (fun _ _ _ _ _ => by exact (pts_one (pt_cmpR op_gt (pv 3) (pe_fld (pv 0) rfl) (nomark _)))) (fun _ _ _ _ _ => by exact (pv 3)))
    (pss_one (ps_ret (pe_ix ix_list (pe_op op_cat (pv 2) (pv 1)) pe_int (fun _ _ => rfl)))))), ?_⟩)
  · obtain ⟨A, c, rfl, _⟩ := h
    rfl
  · obtain ⟨A, c, rfl, J, W, hno, hyes⟩ := h
    have J' := J
    obtain ⟨⟨dx, hI⟩, ⟨xs, hL, hR⟩, hK, hne⟩ := J'
    have := W.most
    have ol := open_length c
    refine ⟨_, rfl, A.a, dx, _, rfl, hI, by rfl, A, c, rfl, J, W, fun q hq => ?_⟩
    refine ⟨_, rfl, Nat.zero_le _, fun e he => ⟨.list (dpd c.open_), .list (dpd []), ?_, ?_, shaped_list _, shaped_list _, ?_⟩⟩
    · exact .lst (SqL.here (upd_get (ne_new upd_same he) upd_same)) (dp_vis _)
    · exact .lst (SqL.here upd_same) .nil
    have s1 : Same H _ := same_upd_of (o := .lst []) (same_upd (o := .lst (vis c.open_)) hq) he
    have qe : q ≠ e := ne_new upd_same he
    rw [eqv_nil]
    refine ⟨_, _, rfl, fun c1 => ?_, fun c1 => ?_⟩
    rotate_left
    · intro d H' s' hd
      refine hno (next_none.mpr ?_) d H' (s1.trans s') hd
      simpa using c1
    have hop : c.open_ ≠ [] := by
      simpa using c1
    have hn : c.next = (c.open_.filter (fun i : Nat => decide (lastI c < (i : Int))) ++ c.open_).head? := by
      rcases next_eq (c := c) with h | h
      · exact h
      · exact absurd h.1 hop
    refine ⟨_, rfl, q, rfl, ⟨_, SqL.here (upd_get qe upd_same)⟩, fun D hD => ?_⟩
    generalize hH2 : upd (upd H q (.lst (vis c.open_))) e (.lst []) = H2 at s1 hD ⊢
    have hq2 : H2 q = some (.lst (vis c.open_)) := by rw [← hH2]; exact upd_get qe upd_same
    have qD : q ≠ D := ne_new hq2 hD
    refine lc_list (K := K) (a := q) (xs := vis c.open_) (fun i H' => H' = upd H2 D (.lst (vis ((c.open_.take i).filter fun n : Nat => decide (lastI c < (n : Int)))))) rfl (fun i H' _ e => by rw [e]; exact SqL.here (upd_get qD hq2)) (fun i y H' hi e => ?_) (fun H' e => ?_)
    · subst e
      obtain ⟨n, hn, rfl⟩ := vis_get hi
      refine ⟨rfl, _, rfl, _, rfl, A.a, CC, dx, _, _, rfl, upd_get (ne_new (s1 _ _ hI) hD) (s1 _ _ hI), T.clC, T.nLast, cF_last c A, _, _, rfl, rfl, _, rfl, ?_⟩
      rw [filter_more hn]
      cases hk : decide (lastI c < (n : Int)) with
      | false => exact iteF rfl
      | true =>
        refine iteT ⟨_, rfl, _, upd_same, ?_, ?_⟩
        · rw [vis_length]
          have := filter_take_le (fun n : Nat => decide (lastI c < (n : Int))) c.open_ i
          exact ltLine (by omega)
        · rw [upd_upd, if_pos rfl, vis_append]
          rfl
    · subst e
      rw [vis_length, List.take_length]
      refine ⟨_, rfl, _, rfl, D, q, _, _, rfl, rfl, upd_same, upd_get qD hq2, ?_, fun r hr => ?_⟩
      · rw [vis_length, vis_length]
        have := List.length_filter_le (fun n : Nat => decide (lastI c < (n : Int))) c.open_
        exact leLine (by omega)
      cases hi : c.next with
      | none => exact absurd (next_none.mp hi) hop
      | some i =>
        refine ⟨r, _, ((0 : Nat) : Int), .int (i : Int), rfl, rfl, SqL.here upd_same, atI_nat ?_, hyes i hi _ (same_upd_of (same_upd_of s1 hD) hr)⟩
        rw [← vis_append]
        refine vis_at ?_
        rw [← List.head?_eq_getElem?, ← hn, hi]

/-! ### tell. Slots: self, number, kind, x, y -/
theorem min_told (n : Nat) : (if (1000000 : Int) < (n : Int) + 1 then (1000000 : Int) else (n : Int) + 1) = ((min Km448.MOST (n + 1) : Nat) : Int) := by
  unfold Km448.MOST
  split <;> omega
theorem scTell : FnScope ["self", "number", "kind", "x", "y"] ["self"] (defScope (sC 5)) := ⟨rfl, rfl, rfl, by decide +kernel, rfl, by decide +kernel, by decide +kernel⟩
theorem ok_tell {f fN : Addr} {fd : FuncData} (F : Fun K "tell" "Caller.tell" (sC 5) f fd) (T : Txt K mg CR CC CS CD fRI fNeed fCon fIsC fTold fBits fOfC fOfS aNUM aROW)
    (mN : Meth K CC "next_told" fN) (GN : Can P w K mg base (L2.CX P w) 4 fN ["self"] (spNext CR CC)) :
    FnOk P w K mg base (L2.CX P w) 5 f fd ["self"] (spTell CR CC) := by
  obtain ⟨fdN, GN, bN⟩ := GN
  refine F.okX scTell (fun vs H Q E h => ?_) (fun cdv A outer s H vs Q E hr h => ⟨_, pss_cons (ps_set (i := 1) scTell.nd rfl (Or.inl rfl) (pe_meth0 (pv 0) T.clC mN GN hr bN .nil (passes_call (takes_of rfl rfl rfl rfl) (fun _ _ _ _ h => h))))
    (pss_cons (ps_fld (pv 0) (pv 1) rfl)
    (pss_cons (ps_fld (pv 0) (pe_callB (call_min2 rfl) (by rfl) T.min (by decide +kernel) (pa_cons (pe_op op_add (pe_fld (pv 0) rfl) pe_int) (pa_cons (pe_gi T.gMNUM) pa_nil))) rfl)
    (pss_cons (ps_asg (pe_ix ix_list (pe_fld (pv 0) rfl) (pv 1) (fun _ _ => rfl)) (pg_tup rfl (pgs_cons (pg_name (i := 2) scTell.nd rfl (Or.inl rfl)) (pgs_cons (pg_name (i := 3) scTell.nd rfl (Or.inl rfl)) (pgs_cons (pg_name (i := 4) scTell.nd rfl (Or.inl rfl)) pgs_nil)))))
    (pss_one (ps_ret (pe_lst (pa_cons (pv 1) (pa_cons (pe_gi T.gCALL) (pa_cons (pe_fld (pv 0) rfl) (pa_cons (pv 1) (pa_cons (pv 2) (pa_cons (pv 3) (pa_cons (pv 4) pa_nil))))))))))))), ?_⟩)
  · obtain ⟨A, c, rfl, _⟩ := h
    rfl
  · obtain ⟨A, c, rfl, J, W, h⟩ := h
    have J' := J
    obtain ⟨⟨dx, hI⟩, ⟨xs, hL, hR⟩, hK, hne⟩ := J'
    have := W.most
    refine ⟨_, rfl, A.a, dx, _, rfl, hI, by rfl, A, c, rfl, J, W, fun hn d H' s' hd => h.refuse (congrArg Prod.snd (tell_no hn)) (by decide) d H' s' hd, fun i hn H1 s1 => ?_⟩
    have hi := (mem_open.mp (next_mem hn)).1
    have ac : A.a ≠ A.lc := ne_of hI hL (fun z => by cases z)
    have ah : A.a ≠ A.lh := ne_of hI hK (fun z => by cases z)
    -- self.last = number
    refine ⟨_, rfl, _, rfl, A.a, CC, dx, _, rfl, s1 _ _ hI, T.clC, T.nLast, (by show 5 < 1000; decide), ?_⟩
    rw [cF_putLast (by omega)]
    -- self.tellings
    refine ⟨_, rfl, A.a, CC, dx, _, _, rfl, upd_same, T.clC, T.nTell, cF_tellings _ A, _, _, rfl, rfl, _, _, rfl, ?_⟩
    refine ⟨_, rfl, A.a, CC, dx, _, rfl, upd_same, T.clC, T.nTell, (by show 5 < 1000; decide), ?_⟩
    have eF : putF "tellings" (.int (if (1000000 : Int) < (c.told : Int) + 1 then (1000000 : Int) else (c.told : Int) + 1)) (cF { c with last := i } A) = cF { c with last := i, told := min Km448.MOST (c.told + 1) } A := by
      rw [min_told]
      rfl
    rw [eF, upd_upd]
    -- kind, x, y = self.calls[number]
    obtain ⟨wh, hw⟩ : ∃ wh, c.said[i]? = some wh := ⟨_, List.getElem?_eq_getElem hi⟩
    obtain ⟨t, ht1, ht2⟩ := hR.2 i (wRow wh) (by rw [List.getElem?_map, hw]; rfl)
    have at_ : A.a ≠ t := ne_of hI ht2 (fun z => by cases z)
    refine ⟨_, rfl, A.a, CC, dx, _, _, rfl, upd_same, T.clC, T.nCalls, cF_calls _ A, _, rfl, A.lc, xs, _, .ref t, rfl, rfl, SqL.here (upd_get (Ne.symm ac) (s1 _ _ hL)), atI_nat ht1, t, _, rfl, SqT.here (upd_get (Ne.symm at_) (s1 _ _ ht2)), rfl,
      _, _, rfl, _, _, rfl, _, _, rfl, rfl, ?_⟩
    refine ⟨_, rfl, _, rfl, A.a, CC, dx, _, _, rfl, upd_same, T.clC, T.nMe, cF_me _ A, _, rfl, _, rfl, _, rfl, _, rfl, (by show 7 ≤ sizeLine; decide), fun p hp => ?_⟩
    obtain ⟨p1, hp1⟩ := upd_none hp
    refine h.answer (tell_yes hn) (Int.natCast_nonneg _) p _ (s1.free hp1) ?_ ⟨⟨dx, upd_get (Ne.symm p1) upd_same⟩, ⟨xs, upd_get (ne_new (s1 _ _ hL) hp1) (upd_get (Ne.symm ac) (s1 _ _ hL)), hR.keep fun t' r e => ?_⟩, ?_, hne⟩ ?_
    · rw [upd_same]
      have e : c.said.getD i ⟨0, 0, 0⟩ = wh := by rw [List.getD_eq_getElem?_getD, hw]; rfl
      unfold Caller.message Km448Neutral.told
      rw [e]
      rfl
    · exact upd_get (ne_new (s1 _ _ e) hp1) (upd_get (ne_of e hI (fun z => by cases z)) (s1 _ _ e))
    · exact upd_get (ne_new (s1 _ _ hK) hp1) (upd_get (Ne.symm ah) (s1 _ _ hK))
    · exact chg_upd (chg_upd (Chg.of_same s1) (.inl own_a)) (.inr (s1.free hp1))
end
end CA

/-! # HCal4: a caller's is_good, newly -/
namespace CA
open PySem PySem.Spec PyProof.Rows L2
open Km448Neutral (nums)
open Km448 (Caller Shore What Heard)
open CM

def spGood (K : PySem.W.Frag) (C : Addr) : Sp := fun vs H Q _ => ∃ (A : Ad) (c : Caller) (p : Addr) (w k n b o z : Nat), vs = [.ref A.a, .ref p] ∧ SqL K H p (vis [w, k, n, b, o, z]) ∧ CAt C H A c ∧ WF c ∧
  ∀ H' : Hp, Same H H' → Q (.bl (c.good [w, k, n, b, o, z])) H'
def spNewly (K : PySem.W.Frag) (CR C : Addr) : Sp := fun vs H Q E => ∃ (A : Ad) (c : Caller) (p : Addr) (w k n b o z : Nat), vs = [.ref A.a, .ref p] ∧ SqL K H p (vis [w, k, n, b, o, z]) ∧ CAt C H A c ∧ WF c ∧
  (c.good [w, k, n, b, o, z] = false → ∀ (d : Addr) (H' : Hp), Same H H' → H' d = some (.xd [(("answer" : Str), .int (-71))]) → E (.ref CR) (some d) H') ∧
  (c.good [w, k, n, b, o, z] = true → ∀ (q : Addr) (H' : Hp), H q = none → Same H H' → H' q = some (.lst (vis (newlyN c n b))) → Q (.ref q) H')
def rGe : R2 := rI0 fun i j => .bl (decide (j ≤ i))

theorem dvn (a b : Nat) : (!decide (V.int (a : Int) = V.int (b : Int))) = !decide (a = b) := by
  by_cases h : a = b
  · subst h
    rw [decide_eq_true rfl, decide_eq_true rfl]
  · rw [decide_eq_false h, decide_eq_false (fun e => h (by have := V.int.inj e; omega))]
theorem dvi (a b : Nat) (z : Int) (hz : z = (b : Int)) : (!decide (V.int (a : Int) = V.int z)) = !decide (a = b) := by
  subst hz
  exact dvn a b

section
variable {P : Program} {w : World} {K : PySem.W.Frag} {mg : Str → Option Value} {base : Heap} {CR CC CS CD fRI fNeed fCon fIsC fTold fBits fOfC fOfS aNUM aROW : Addr}

/-! ### is_good. Slots: self, message, word, caller, whole, bits, one, other; the comprehension's own: number -/
theorem scGood : FnScope ["self", "message", "word", "caller", "whole", "bits", "one", "other", "number"] ["self", "message"] (defScope (sC 6)) := ⟨rfl, rfl, rfl, by decide +kernel, rfl, by decide +kernel, by decide +kernel⟩
theorem ok_good {f : Addr} {fd : FuncData} (F : Fun K "is_good" "Caller.is_good" (sC 6) f fd) (T : Txt K mg CR CC CS CD fRI fNeed fCon fIsC fTold fBits fOfC fOfS aNUM aROW) (GT : Can P w K mg base CX0 1 fTold ["whole", "bits"] spTold) :
    FnOk P w K mg base CX0 2 f fd ["self", "message"] (spGood K CC) := by
  obtain ⟨fdT, GT, bT⟩ := GT
  refine F.ok scGood (fun vs H Q E h => ?_) (fun cdv A outer s H vs Q E hr h => ⟨_, pss_cons (ps_asg (pv 1) (pg_unl rfl (pgs_cons (pg_name (i := 2) scGood.nd rfl (Or.inl rfl)) (pgs_cons (pg_name (i := 3) scGood.nd rfl (Or.inl rfl)) (pgs_cons (pg_name (i := 4) scGood.nd rfl (Or.inl rfl))
      (pgs_cons (pg_name (i := 5) scGood.nd rfl (Or.inl rfl)) (pgs_cons (pg_name (i := 6) scGood.nd rfl (Or.inl rfl)) (pgs_cons (pg_name (i := 7) scGood.nd rfl (Or.inl rfl)) pgs_nil))))))))
    (pss_cons (ps_if (PW.pt (pw_or (pt_cmpR op_ne (pv 2) (pe_gi T.gANSWER) (nomark _)) (pw_or (pt_cmpR op_ne (pv 3) (pe_fld (pv 0) rfl) (nomark _)) (pw_or (pt_cmpR op_ne (pv 6) pe_int (nomark _)) (pw_or1 (pt_cmpR op_ne (pv 7) pe_int (nomark _)))))))
      (pss_one (ps_ret pe_bl)) pss_nil)
    (pss_cons (ps_if (PW.pt (pw_or (pt_cmpR op_gt (pv 4) (pe_callB call_len_seq (by rfl) T.len PySem.boot_len (pa_cons (pe_fld (pv 0) rfl) pa_nil)) (nomark _)) (pw_or1 (pt_cmpR op_ge (pv 5) (pe_gi T.gBITS) (nomark _)))))
      (pss_one (ps_ret pe_bl)) pss_nil)
    (pss_one (ps_ret (pe_cmpR (op_eqD hr.units) (pe_lc (own := [("number", 8)]) (g := gName 8) (tt := tTest (tOp rGe (tVar 8) (tCB (fun xs H Q => ∃ p ys, xs = [.ref p] ∧ (SqL K H p ys ∨ SqT K H p ys) ∧ Q (.int ys.length) H) (tCons (tFld K (tVar 0) "calls") tNil)))) (te := tVar 8) rfl scGood.nd
      (pi_list (pe_call GT hr rfl T.gTold T.kTold bT .nil pass0 (pa_cons (pv 4) (pa_cons (pv 5) pa_nil))))
      (blkOk_by (own := [("number", 8)]) (N := ["self", "message", "word", "caller", "whole", "bits", "one", "other", "number"]) (sc := defScope (sC 6)) (by decide +kernel)) (fun _ _ _ _ _ => pg_name (i := 8) scGood.nd rfl (Or.inl rfl))
      (fun _ _ _ _ _ => by exact (pts_one (pt_cmpR op_ge (pv 8) (pe_callB call_len_seq (by rfl) T.len PySem.boot_len (pa_cons (pe_fld (pv 0) rfl) pa_nil)) (nomark _)))) (fun _ _ _ _ _ => by exact (pv 8))) (pe_lst pa_nil) (nomark _)))))), ?_⟩)
  · obtain ⟨A, c, p, w', k, n, b, o, z, rfl, _⟩ := h
    rfl
  · obtain ⟨A, c, p, w', k, n, b, o, z, rfl, hS, J, W, h⟩ := h
    rw [good_eq] at h
    unfold goodI at h
    have J' := J
    obtain ⟨⟨dx, hI⟩, ⟨xs, hL, hR⟩, hK, hne⟩ := J'
    have hx : xs.length = c.said.length := by rw [hR.1, List.length_map]
    have := W.most
    refine ⟨_, rfl, p, _, rfl, hS, rfl, _, _, rfl, _, _, rfl, _, _, rfl, _, _, rfl, _, _, rfl, _, _, rfl, rfl, ?_⟩
    -- the first if
    refine ⟨_, rfl, rfl, _, rfl, ?_⟩
    rw [dvi w' 2 2 rfl]
    by_cases c1 : w' = 2
    rotate_left
    · rw [decide_eq_false c1]
      rw [decide_eq_false c1] at h
      exact iteT (iteT (h H (Same.refl H)))
    rw [decide_eq_true c1]
    rw [decide_eq_true c1] at h
    refine iteF ⟨_, rfl, _, rfl, A.a, CC, dx, _, _, rfl, hI, T.clC, T.nMe, cF_me c A, rfl, _, rfl, ?_⟩
    rw [dvn k c.me]
    by_cases c2 : k = c.me
    rotate_left
    · rw [decide_eq_false c2]
      rw [decide_eq_false c2] at h
      exact iteT (iteT (h H (Same.refl H)))
    rw [decide_eq_true c2]
    rw [decide_eq_true c2] at h
    refine iteF ⟨_, rfl, rfl, _, rfl, ?_⟩
    rw [dvi o 0 0 rfl]
    by_cases c3 : o = 0
    rotate_left
    · rw [decide_eq_false c3]
      rw [decide_eq_false c3] at h
      exact iteT (iteT (h H (Same.refl H)))
    rw [decide_eq_true c3]
    rw [decide_eq_true c3] at h
    refine iteF ⟨_, rfl, rfl, _, rfl, ?_⟩
    rw [dvi z 0 0 rfl]
    by_cases c4 : z = 0
    rotate_left
    · rw [decide_eq_false c4]
      rw [decide_eq_false c4] at h
      exact iteT (h H (Same.refl H))
    rw [decide_eq_true c4]
    rw [decide_eq_true c4] at h
    refine iteF ?_
    -- the second if
    refine ⟨_, rfl, _, rfl, A.a, CC, dx, _, _, rfl, hI, T.clC, T.nCalls, cF_calls c A, A.lc, xs, rfl, .inl (SqL.here hL), _, _, rfl, rfl, _, rfl, ?_⟩
    rw [hx]
    by_cases c5 : n ≤ c.said.length
    rotate_left
    · rw [decide_eq_false c5] at h
      rw [decide_eq_true (show (c.said.length : Int) < (n : Int) by omega)]
      exact iteT (iteT (h H (Same.refl H)))
    rw [decide_eq_true c5] at h
    rw [decide_eq_false (show ¬ (c.said.length : Int) < (n : Int) by omega)]
    refine iteF ⟨_, rfl, _, _, rfl, rfl, _, rfl, ?_⟩
    by_cases c6 : b < 256
    rotate_left
    · rw [decide_eq_false c6] at h
      rw [decide_eq_true (show (256 : Int) ≤ (b : Int) by omega)]
      exact iteT (h H (Same.refl H))
    rw [decide_eq_true c6] at h
    rw [decide_eq_false (show ¬ (256 : Int) ≤ (b : Int) by omega)]
    refine iteF ?_
    -- [number for number in told_by(whole, bits) if number >= len(self.calls)] == []
    refine ⟨_, rfl, _, rfl, n, b, rfl, by omega, fun q hq => ⟨q, rfl, ⟨_, SqL.here upd_same⟩, fun D hD => ?_⟩⟩
    have qD : q ≠ D := ne_new upd_same hD
    have s1 := same_upd (o := .lst (vis (toldN n b))) hq
    generalize hH2 : upd H q (.lst (vis (toldN n b))) = H2 at s1 hD ⊢
    have hq2 : H2 q = some (.lst (vis (toldN n b))) := by rw [← hH2]; exact upd_same
    refine lc_list (K := K) (a := q) (xs := vis (toldN n b)) (fun i H' => H' = upd H2 D (.lst (vis (((toldN n b).take i).filter fun j : Nat => decide (c.said.length ≤ j))))) rfl (fun i H' _ e => by rw [e]; exact SqL.here (upd_get qD hq2)) (fun i y H' hi e => ?_) (fun H' e => ?_)
    · subst e
      obtain ⟨j, hj, rfl⟩ := vis_get hi
      refine ⟨rfl, _, rfl, _, rfl, A.a, CC, dx, _, _, rfl, upd_get (ne_new (s1 _ _ hI) hD) (s1 _ _ hI), T.clC, T.nCalls, cF_calls c A, A.lc, xs, rfl, .inl (SqL.here (upd_get (ne_new (s1 _ _ hL) hD) (s1 _ _ hL))), _, _, rfl, rfl, _, rfl, ?_⟩
      rw [filter_more hj, hx]
      have e1 : decide ((c.said.length : Int) ≤ (j : Int)) = decide (c.said.length ≤ j) := decide_eq_decide.mpr (by omega)
      rw [e1]
      cases hk : decide (c.said.length ≤ j) with
      | false => exact iteF rfl
      | true =>
        refine iteT ⟨_, rfl, _, upd_same, ?_, ?_⟩
        · rw [vis_length]
          have h1 := filter_take_le (fun j : Nat => decide (c.said.length ≤ j)) (toldN n b) i
          have h2 := toldN_length n b
          exact ltLine (by omega)
        · rw [upd_upd, if_pos rfl, vis_append]
          rfl
    · subst e
      rw [vis_length, List.take_length]
      refine ⟨Nat.zero_le _, fun e he => ⟨.list (dpd ((toldN n b).filter fun j : Nat => decide (c.said.length ≤ j))), .list (dpd []), ?_, ?_, shaped_list _, shaped_list _, ?_⟩⟩
      · exact .lst (SqL.here (upd_get (ne_new upd_same he) upd_same)) (dp_vis _)
      · exact .lst (SqL.here upd_same) .nil
      · rw [eqv_nil]
        exact h _ (same_upd_of (same_upd_of s1 hD) he)

/-! ### newly. Slots: self, message; the comprehension's own: number -/
theorem scNewly : FnScope ["self", "message", "number"] ["self", "message"] (defScope (sC 7)) := ⟨rfl, rfl, rfl, by decide +kernel, rfl, by decide +kernel, by decide +kernel⟩
theorem ok_newly {f fG : Addr} {fd : FuncData} (F : Fun K "newly" "Caller.newly" (sC 7) f fd) (T : Txt K mg CR CC CS CD fRI fNeed fCon fIsC fTold fBits fOfC fOfS aNUM aROW) (GN : Can P w K mg base (L2.CX P w) 3 fNeed ["truth", "answer"] (spNeed CR))
    (GT : Can P w K mg base CX0 1 fTold ["whole", "bits"] spTold) (mG : Meth K CC "is_good" fG) (GG : Can P w K mg base CX0 2 fG ["self", "message"] (spGood K CC)) :
    FnOk P w K mg base (L2.CX P w) 4 f fd ["self", "message"] (spNewly K CR CC) := by
  obtain ⟨fdN, GN, bN⟩ := GN
  obtain ⟨fdT, GT, bT⟩ := GT
  obtain ⟨fdG, GG, bG⟩ := GG
  refine F.okX scNewly (fun vs H Q E h => ?_) (fun cdv A outer s H vs Q E hr h => ⟨_, pss_cons (ps_expr (pe_call GN hr rfl T.gNeed T.kNeed bN .nil (passes_call (takes_of rfl rfl rfl rfl) (fun _ _ _ _ h => h))
      (pa_cons (pe_meth (pv 0) T.clC mG GG (hr.mono (by decide)) bG .nil pass0 (pa_cons (pv 1) pa_nil)) (pa_cons (pe_gi T.gNOMSG) pa_nil))))
    (pss_one (ps_ret (pe_lc (own := [("number", 2)]) (g := gName 2) (tt := tNot (tB (tOp (rIxL K) (tFld K (tVar 0) "heard") (tVar 2)))) (te := tVar 2) rfl scNewly.nd
      (pi_list (pe_call GT (hr.mono (by decide)) rfl T.gTold T.kTold bT .nil pass0 (pa_cons (pe_ix ix_list (pv 1) pe_int (fun _ _ => rfl)) (pa_cons (pe_ix ix_list (pv 1) pe_int (fun _ _ => rfl)) pa_nil))))
      (blkOk_by (own := [("number", 2)]) (N := ["self", "message", "number"]) (sc := defScope (sC 7)) (by decide +kernel)) (fun _ _ _ _ _ => pg_name (i := 2) scNewly.nd rfl (Or.inl rfl))
      (fun _ _ _ _ _ => by exact (pts_one (pt_not (pt_val (pe_ix ix_list (pe_fld (pv 0) rfl) (pv 2) (fun _ _ => rfl)))))) (fun _ _ _ _ _ => by exact (pv 2))))), ?_⟩)
  · obtain ⟨A, c, p, w', k, n, b, o, z, rfl, _⟩ := h
    rfl
  · obtain ⟨A, c, p, w', k, n, b, o, z, rfl, hS, J, W, hno, hyes⟩ := h
    have J' := J
    obtain ⟨⟨dx, hI⟩, ⟨xs, hL, hR⟩, hK, hne⟩ := J'
    have := W.most
    refine ⟨_, rfl, A.a, dx, _, rfl, hI, by rfl, _, rfl, A, c, p, w', k, n, b, o, z, rfl, hS, J, W, fun H1 s1 => ⟨_, _, rfl, fun c1 => ?_, fun c1 => ?_⟩⟩
    rotate_left
    · exact fun d H' s' hd => hno c1 d H' (s1.trans s') hd
    have hS1 := s1.seq hS
    have gb := good_bounds c1
    refine ⟨_, rfl, p, _, ((2 : Nat) : Int), .int (n : Int), rfl, rfl, hS1, atI_nat rfl, _, rfl, p, _, ((3 : Nat) : Int), .int (b : Int), rfl, rfl, hS1, atI_nat rfl, n, b, rfl, by omega, fun q hq => ⟨q, rfl, ⟨_, SqL.here upd_same⟩, fun D hD => ?_⟩⟩
    have qD : q ≠ D := ne_new upd_same hD
    have s2 := same_upd_of (o := .lst (vis (toldN n b))) s1 hq
    generalize hH2 : upd H1 q (.lst (vis (toldN n b))) = H2 at s2 hD ⊢
    have hq2 : H2 q = some (.lst (vis (toldN n b))) := by rw [← hH2]; exact upd_same
    refine lc_list (K := K) (a := q) (xs := vis (toldN n b)) (fun i H' => H' = upd H2 D (.lst (vis (((toldN n b).take i).filter fun j : Nat => !c.knows j)))) rfl (fun i H' _ e => by rw [e]; exact SqL.here (upd_get qD hq2)) (fun i y H' hi e => ?_) (fun H' e => ?_)
    · subst e
      obtain ⟨j, hj, rfl⟩ := vis_get hi
      have lj : j < c.said.length := told_lt c1 (mem_toldN.mp (List.mem_of_getElem? hj))
      refine ⟨rfl, _, rfl, A.a, CC, dx, _, _, rfl, upd_get (ne_new (s2 _ _ hI) hD) (s2 _ _ hI), T.clC, T.nHeard, cF_heard c A, _, rfl, A.lh, _, _, .bl (c.knows j), rfl, rfl, SqL.here (upd_get (ne_new (s2 _ _ hK) hD) (s2 _ _ hK)), atI_nat ?_, _, rfl, ?_⟩
      · rw [List.getElem?_map, knows_at W lj]
        rfl
      · rw [filter_more hj]
        cases hk : c.knows j with
        | true => exact iteF rfl
        | false =>
          refine iteT ⟨_, rfl, _, upd_same, ?_, ?_⟩
          · rw [vis_length]
            have h1 := filter_take_le (fun j : Nat => !c.knows j) (toldN n b) i
            have h2 := toldN_length n b
            exact ltLine (by omega)
          · rw [upd_upd, if_pos (show (!false) = true from rfl), vis_append]
            rfl
    · subst e
      rw [vis_length, List.take_length]
      exact hyes c1 D _ (s2.free hD) (same_upd_of s2 hD) upd_same
end
end CA

/-! # HCal5: a caller's hear, would, known, still_open, said, state -/
namespace CA
open PySem PySem.Spec PyProof.Rows L2
open Km448Neutral (nums)
open Km448 (Caller Shore What Heard)
open CM

theorem hear_no {c : Caller} {m : List Nat} (g : c.good m = false) : Km448.cDoes c (.cHear m) = (c, Km448.only (-71)) := by
  unfold Km448.cDoes
  dsimp only
  rw [if_pos g]
theorem hear_yes {c : Caller} {m : List Nat} (g : c.good m = true) : Km448.cDoes c (.cHear m) = (c.hears m, { value := ((c.open_.length - (c.hears m).open_.length : Nat) : Int), out := [(c.hears m).open_.length] }) := by
  unfold Km448.cDoes
  dsimp only
  rw [if_neg (by rw [g]; decide)]
theorem would_no {c : Caller} {m : List Nat} (g : c.good m = false) : Km448.cDoes c (.cWould m) = (c, Km448.only (-71)) := by
  unfold Km448.cDoes
  dsimp only
  rw [if_pos g]
theorem would_yes {c : Caller} {m : List Nat} (g : c.good m = true) : Km448.cDoes c (.cWould m) = (c, Km448.only ((c.open_.length - (c.hears m).open_.length : Nat) : Int)) := by
  unfold Km448.cDoes
  dsimp only
  rw [if_neg (by rw [g]; decide)]
theorem known_no {c : Caller} {i : Nat} (h : c.said.length ≤ i) : Km448.cDoes c (.cKnown i) = (c, Km448.only (-2)) := by
  unfold Km448.cDoes
  dsimp only
  rw [if_pos h]
theorem known_yes {c : Caller} {i : Nat} (h : ¬ c.said.length ≤ i) : Km448.cDoes c (.cKnown i) = (c, Km448.only ((Km448.bit (c.knows i) : Nat) : Int)) := by
  unfold Km448.cDoes
  dsimp only
  rw [if_neg h]
theorem said_no {c : Caller} {i : Nat} (h : c.said.length ≤ i) : Km448.cDoes c (.cSaid i) = (c, Km448.only (-2)) := by
  unfold Km448.cDoes
  dsimp only
  rw [List.getElem?_eq_none h]
theorem said_yes {c : Caller} {i : Nat} {w : What} (h : c.said[i]? = some w) : Km448.cDoes c (.cSaid i) = (c, { value := ((w.kind : Nat) : Int), out := [w.x, w.y] }) := by
  unfold Km448.cDoes
  dsimp only
  rw [h]
theorem wf_hears {c : Caller} (W : WF c) (m : List Nat) : WF (c.hears m) := by
  refine ⟨?_, W.most, W.last⟩
  show (List.map _ (List.range c.said.length)).length = c.said.length
  rw [List.length_map, List.length_range]
theorem setAll_more {l : List Bool} {is : List Nat} {i j : Nat} (h : is[i]? = some j) : setAll l (is.take (i + 1)) = (setAll l (is.take i)).set j true := by
  unfold setAll
  rw [take_more h, List.foldl_append]
  rfl

def spHear (K : PySem.W.Frag) (CR C : Addr) : Sp := fun vs H Q E => ∃ (A : Ad) (c : Caller) (p : Addr) (w k n b o z : Nat), vs = [.ref A.a, .ref p] ∧ SqL K H p (vis [w, k, n, b, o, z]) ∧ CAt C H A c ∧ WF c ∧ CEnd CR C H A c (.cHear [w, k, n, b, o, z]) Q E
def spWould (K : PySem.W.Frag) (CR C : Addr) : Sp := fun vs H Q E => ∃ (A : Ad) (c : Caller) (p : Addr) (w k n b o z : Nat), vs = [.ref A.a, .ref p] ∧ SqL K H p (vis [w, k, n, b, o, z]) ∧ CAt C H A c ∧ WF c ∧ CEnd CR C H A c (.cWould [w, k, n, b, o, z]) Q E
def spKnown (CR C : Addr) : Sp := fun vs H Q E => ∃ (A : Ad) (c : Caller) (i : Nat), vs = [.ref A.a, .int (i : Int)] ∧ CAt C H A c ∧ WF c ∧ CEnd CR C H A c (.cKnown i) Q E
def spStill (CR C : Addr) : Sp := fun vs H Q E => ∃ (A : Ad) (c : Caller), vs = [.ref A.a] ∧ CAt C H A c ∧ WF c ∧ CEnd CR C H A c .cOpen Q E
def spSaid (CR C : Addr) : Sp := fun vs H Q E => ∃ (A : Ad) (c : Caller) (i : Nat), vs = [.ref A.a, .int (i : Int)] ∧ CAt C H A c ∧ WF c ∧ CEnd CR C H A c (.cSaid i) Q E
def spState (CR C : Addr) : Sp := fun vs H Q E => ∃ (A : Ad) (c : Caller), vs = [.ref A.a] ∧ CAt C H A c ∧ WF c ∧ CEnd CR C H A c .cState Q E

section
variable {P : Program} {w : World} {K : PySem.W.Frag} {mg : Str → Option Value} {base : Heap} {CR CC CS CD fRI fNeed fCon fIsC fTold fBits fOfC fOfS aNUM aROW : Addr}

/-! ### hear. Slots: self, message, found, number -/
theorem scHear : FnScope ["self", "message", "found", "number"] ["self", "message"] (defScope (sC 8)) := ⟨rfl, rfl, rfl, by decide +kernel, rfl, by decide +kernel, by decide +kernel⟩
theorem ok_hear {f fN fA : Addr} {fd : FuncData} (F : Fun K "hear" "Caller.hear" (sC 8) f fd) (T : Txt K mg CR CC CS CD fRI fNeed fCon fIsC fTold fBits fOfC fOfS aNUM aROW) (mN : Meth K CC "newly" fN) (GN : Can P w K mg base (L2.CX P w) 4 fN ["self", "message"] (spNewly K CR CC))
    (mA : Meth K CC "all_open" fA) (GA : Can P w K mg base CX0 1 fA ["self"] (spAll CC)) :
    FnOk P w K mg base (L2.CX P w) 5 f fd ["self", "message"] (spHear K CR CC) := by
  obtain ⟨fdN, GN, bN⟩ := GN
  obtain ⟨fdA, GA, bA⟩ := GA
  refine F.okX scHear (fun vs H Q E h => ?_) (fun cdv A outer s H vs Q E hr h => ⟨_, pss_cons (ps_set (i := 2) scHear.nd rfl (Or.inl rfl) (pe_meth (pv 0) T.clC mN GN hr bN .nil (passes_call (takes_of rfl rfl rfl rfl) (fun _ _ _ _ h => h)) (pa_cons (pv 1) pa_nil)))
    (pss_cons (ps_for (passes_of rfl) rfl (pi_list (pv 2)) (pg_name (i := 3) scHear.nd rfl (Or.inl rfl)) (pss_one (ps_asg pe_bl (pg_sub (pe_fld (pv 0) rfl) (pv 3) set_list))))
    (pss_one (ps_ret (pe_lst (pa_cons (pe_callB call_len_seq (by rfl) T.len PySem.boot_len (pa_cons (pv 2) pa_nil))
      (pa_cons (pe_callB call_len_seq (by rfl) T.len PySem.boot_len (pa_cons (pe_meth0 (pv 0) T.clC mA GA (hr.mono (by decide)) bA .nil pass0) pa_nil)) pa_nil)))))), ?_⟩)
  · obtain ⟨A, c, p, w', k, n, b, o, z, rfl, _⟩ := h
    rfl
  · obtain ⟨A, c, p, w', k, n, b, o, z, rfl, hS, J, W, h⟩ := h
    have J' := J
    obtain ⟨⟨dx, hI⟩, ⟨xs, hL, hR⟩, hK, hne⟩ := J'
    have hx : xs.length = c.said.length := by rw [hR.1, List.length_map]
    have := W.most
    refine ⟨_, rfl, A.a, dx, _, rfl, hI, by rfl, _, rfl, A, c, p, w', k, n, b, o, z, rfl, hS, J, W, fun g d H' s' hd => h.refuse (congrArg Prod.snd (hear_no g)) (by decide) d H' s' hd, fun g q H1 hq s1 hq1 => ?_⟩
    have qh : A.lh ≠ q := ne_new hK hq
    have ah : A.a ≠ A.lh := ne_of hI hK (fun z => by cases z)
    -- the loop
    refine ⟨_, rfl, q, rfl, ⟨_, SqL.here hq1⟩, for_list (K := K) (a := q) (xs := vis (newlyN c n b)) (fun i σ H' => ∃ v : Option V, σ = [some (.ref A.a), some (.ref p), some (.ref q), v] ∧ (∀ x, x ≠ A.lh → H' x = H1 x) ∧ H' A.lh = some (.lst ((setAll c.known ((newlyN c n b).take i)).map V.bl)))
      ⟨none, rfl, fun _ _ => rfl, s1 _ _ hK⟩ (fun i σ H' _ ⟨_, _, e, _⟩ => SqL.here ((e q (Ne.symm qh)).trans hq1)) ?_ ?_⟩
    · rintro i y σ H' hi ⟨v, rfl, e1, e2⟩
      obtain ⟨j, hj, rfl⟩ := vis_get hi
      have lj : j < c.said.length := told_lt g (newly_mem.mp (List.mem_of_getElem? hj)).1
      refine ⟨_, rfl, A.a, CC, dx, _, _, rfl, (e1 _ ah).trans (s1 _ _ hI), T.clC, T.nHeard, cF_heard c A, _, rfl, A.lh, _, (j : Int), j, rfl, rfl, e2, ?_, ?_⟩
      · unfold ixN
        rw [List.length_map, setAll_length, W.len, if_pos (Int.natCast_nonneg _), if_pos (by omega), Int.toNat_natCast]
      · refine ⟨some (.int (j : Int)), rfl, fun x hx => (upd_ne hx).trans (e1 x hx), ?_⟩
        rw [upd_same, setAll_more hj, List.map_set]
    · rintro σ H' ⟨v, rfl, e1, e2⟩
      rw [vis_length, List.take_length, ← hears_known W (w := w') (k := k) (n := n) (b := b) (o := o) (z := z)] at e2
      have tupk : ∀ t r, H t = some (.tup r) → H' t = some (.tup r) := fun t r e => (e1 t (ne_of e hK (fun z => by cases z))).trans (s1 _ _ e)
      have J2 : CAt CC H' A (c.hears [w', k, n, b, o, z]) := ⟨⟨dx, (e1 _ ah).trans (s1 _ _ hI)⟩, ⟨xs, (e1 _ hne).trans (s1 _ _ hL), hR.keep tupk⟩, e2, hne⟩
      refine ⟨_, rfl, q, _, rfl, .inl (SqL.here ((e1 q (Ne.symm qh)).trans hq1)), _, rfl, A.a, dx, _, rfl, (e1 _ ah).trans (s1 _ _ hI), by rfl, A, _, rfl, J2, wf_hears W _, fun r hr' => ?_⟩
      refine ⟨r, _, rfl, .inl (SqL.here upd_same), (by show 2 ≤ sizeLine; decide), fun l hl => ?_⟩
      obtain ⟨l1, hl1⟩ := upd_none hl
      have rn : H r = none := by
        have r1 : r ≠ A.lh := by
          rintro rfl
          rw [e2] at hr'
          cases hr'
        rw [e1 r r1] at hr'
        exact s1.free hr'
      have ln : H l = none := by
        have r1 : l ≠ A.lh := by
          rintro rfl
          rw [e2] at hl1
          cases hl1
        rw [e1 l r1] at hl1
        exact s1.free hl1
      refine h.answer (hear_yes g) (Int.natCast_nonneg _) l _ ln ?_ (J2.same (same_upd_of (same_upd hr') hl)) ?_
      · rw [upd_same, vis_length, vis_length, newly_length g]
        rfl
      · refine chg_upd (chg_upd (fun x ob ex hx => ?_) (.inr rn)) (.inr ln)
        have : x ≠ A.lh := fun q => hx (by rw [q]; exact own_lh)
        exact (e1 x this).trans (s1 _ _ ex)

/-! ### would. Slots: self, message -/
theorem scWould : FnScope ["self", "message"] ["self", "message"] (defScope (sC 9)) := ⟨rfl, rfl, rfl, by decide +kernel, rfl, by decide +kernel, by decide +kernel⟩
theorem ok_would {f fN : Addr} {fd : FuncData} (F : Fun K "would" "Caller.would" (sC 9) f fd) (T : Txt K mg CR CC CS CD fRI fNeed fCon fIsC fTold fBits fOfC fOfS aNUM aROW) (mN : Meth K CC "newly" fN) (GN : Can P w K mg base (L2.CX P w) 4 fN ["self", "message"] (spNewly K CR CC)) :
    FnOk P w K mg base (L2.CX P w) 5 f fd ["self", "message"] (spWould K CR CC) := by
  obtain ⟨fdN, GN, bN⟩ := GN
  refine F.okX scWould (fun vs H Q E h => ?_) (fun cdv A outer s H vs Q E hr h => ⟨_, pss_one (ps_ret (pe_lst (pa_cons (pe_callB call_len_seq (by rfl) T.len PySem.boot_len
    (pa_cons (pe_meth (pv 0) T.clC mN GN hr bN .nil (passes_call (takes_of rfl rfl rfl rfl) (fun _ _ _ _ h => h)) (pa_cons (pv 1) pa_nil)) pa_nil)) pa_nil))), ?_⟩)
  · obtain ⟨A, c, p, w', k, n, b, o, z, rfl, _⟩ := h
    rfl
  · obtain ⟨A, c, p, w', k, n, b, o, z, rfl, hS, J, W, h⟩ := h
    have J' := J
    obtain ⟨⟨dx, hI⟩, ⟨xs, hL, hR⟩, hK, hne⟩ := J'
    refine ⟨_, rfl, A.a, dx, _, rfl, hI, by rfl, _, rfl, A, c, p, w', k, n, b, o, z, rfl, hS, J, W, fun g d H' s' hd => h.refuse (congrArg Prod.snd (would_no g)) (by decide) d H' s' hd, fun g q H1 hq s1 hq1 => ?_⟩
    refine ⟨q, _, rfl, .inl (SqL.here hq1), (by show 1 ≤ sizeLine; decide), fun l hl => ?_⟩
    refine h.answer (would_yes g) (Int.natCast_nonneg _) l _ (s1.free hl) ?_ (J.same (same_upd_of s1 hl)) (Chg.of_same (same_upd_of s1 hl))
    rw [upd_same, vis_length, newly_length g]
    rfl

/-! ### known. Slots: self, number -/
theorem scKnown : FnScope ["self", "number"] ["self", "number"] (defScope (sC 10)) := ⟨rfl, rfl, rfl, by decide +kernel, rfl, by decide +kernel, by decide +kernel⟩
theorem ok_known {f : Addr} {fd : FuncData} (F : Fun K "known" "Caller.known" (sC 10) f fd) (T : Txt K mg CR CC CS CD fRI fNeed fCon fIsC fTold fBits fOfC fOfS aNUM aROW) (GN : Can P w K mg base (L2.CX P w) 3 fNeed ["truth", "answer"] (spNeed CR)) :
    FnOk P w K mg base (L2.CX P w) 4 f fd ["self", "number"] (spKnown CR CC) := by
  obtain ⟨fdN, GN, bN⟩ := GN
  refine F.okX scKnown (fun vs H Q E h => ?_) (fun cdv A outer s H vs Q E hr h => ⟨_, pss_cons (ps_expr (pe_call GN hr rfl T.gNeed T.kNeed bN .nil (passes_call (takes_of rfl rfl rfl rfl) (fun _ _ _ _ h => h))
      (pa_cons (pe_cmpR op_lt (pv 1) (pe_callB call_len_seq (by rfl) T.len PySem.boot_len (pa_cons (pe_fld (pv 0) rfl) pa_nil)) (nomark _)) (pa_cons (pe_gi T.gNOCALL) pa_nil))))
    (pss_one (ps_ret (pe_lst (pa_cons (pe_callTy call_int1 (by rfl) T.int (by decide +kernel) (pa_cons (pe_ix ix_list (pe_fld (pv 0) rfl) (pv 1) (fun _ _ => rfl)) pa_nil)) pa_nil)))), ?_⟩)
  · obtain ⟨A, c, i, rfl, _⟩ := h
    rfl
  · obtain ⟨A, c, i, rfl, J, W, h⟩ := h
    have J' := J
    obtain ⟨⟨dx, hI⟩, ⟨xs, hL, hR⟩, hK, hne⟩ := J'
    have hx : xs.length = c.said.length := by rw [hR.1, List.length_map]
    refine ⟨_, rfl, _, rfl, A.a, CC, dx, _, _, rfl, hI, T.clC, T.nCalls, cF_calls c A, A.lc, xs, rfl, .inl (SqL.here hL), _, _, rfl, rfl, _, _, rfl, fun c1 => ?_, fun c1 => ?_⟩
    rotate_left
    · have := of_decide_eq_false c1
      exact h.refuse (congrArg Prod.snd (known_no (by omega))) (by decide)
    have c1 := of_decide_eq_true c1
    have li : i < c.said.length := by omega
    refine ⟨_, rfl, A.a, CC, dx, _, _, rfl, hI, T.clC, T.nHeard, cF_heard c A, _, rfl, A.lh, _, _, .bl (c.knows i), rfl, rfl, SqL.here hK, atI_nat ?_, .inr ⟨_, rfl, (by show 1 ≤ sizeLine; decide), fun l hl => ?_⟩⟩
    · rw [List.getElem?_map, knows_at W li]
      rfl
    · refine h.answer (known_yes (by omega)) (Int.natCast_nonneg _) l _ hl ?_ (J.same (same_upd hl)) (Chg.of_same (same_upd hl))
      rw [upd_same]
      unfold Km448.bit
      cases c.knows i <;> rfl

/-! ### still_open. Slots: self, some -/
theorem scStill : FnScope ["self", "some"] ["self"] (defScope (sC 11)) := ⟨rfl, rfl, rfl, by decide +kernel, rfl, by decide +kernel, by decide +kernel⟩
theorem ok_still {f fA : Addr} {fd : FuncData} (F : Fun K "still_open" "Caller.still_open" (sC 11) f fd) (T : Txt K mg CR CC CS CD fRI fNeed fCon fIsC fTold fBits fOfC fOfS aNUM aROW)
    (mA : Meth K CC "all_open" fA) (GA : Can P w K mg base CX0 1 fA ["self"] (spAll CC)) (GB : Can P w K mg base CX0 1 fBits ["numbers"] (spBits K)) :
    FnOk P w K mg base CX0 2 f fd ["self"] (spStill CR CC) := by
  obtain ⟨fdA, GA, bA⟩ := GA
  obtain ⟨fdB, GB, bB⟩ := GB
  refine F.ok scStill (fun vs H Q E h => ?_) (fun cdv A outer s H vs Q E hr h => ⟨_, pss_cons (ps_set (i := 1) scStill.nd rfl (Or.inl rfl) (pe_meth0 (pv 0) T.clC mA GA hr bA .nil pass0))
    (pss_one (ps_ret (pe_lst (pa_cons (pe_callB call_len_seq (by rfl) T.len PySem.boot_len (pa_cons (pv 1) pa_nil)) (pa_cons (pe_call GB hr rfl T.gBits T.kBits bB .nil pass0 (pa_cons (pv 1) pa_nil))
      (pa_cons (pe_callB (cr_min rfl) (by rfl) T.min (by decide +kernel) (pa_cons (pe_op op_cat (pe_lst (pa_cons (pe_callB call_len_seq (by rfl) T.len PySem.boot_len (pa_cons (pe_fld (pv 0) rfl) pa_nil)) pa_nil)) (pv 1)) pa_nil)) pa_nil)))))), ?_⟩)
  · obtain ⟨A, c, rfl, _⟩ := h
    rfl
  · obtain ⟨A, c, rfl, J, W, h⟩ := h
    have J' := J
    obtain ⟨⟨dx, hI⟩, ⟨xs, hL, hR⟩, hK, hne⟩ := J'
    have hx : xs.length = c.said.length := by rw [hR.1, List.length_map]
    have := W.most
    have ol := open_length c
    refine ⟨_, rfl, A.a, dx, _, rfl, hI, by rfl, A, c, rfl, J, W, fun q hq => ?_⟩
    have s1 := same_upd (o := .lst (vis c.open_)) hq
    refine ⟨_, rfl, q, _, rfl, .inl (SqL.here upd_same), _, rfl, q, c.open_, rfl, SqL.here upd_same, fun i hi => ?_, ?_⟩
    · have := (mem_open.mp hi).1
      omega
    refine ⟨_, rfl, A.a, CC, dx, _, _, rfl, s1 _ _ hI, T.clC, T.nCalls, cF_calls c A, A.lc, xs, rfl, .inl (SqL.here (s1 _ _ hL)), (by show 1 ≤ sizeLine; decide), fun e he => ?_⟩
    have qe : q ≠ e := ne_new upd_same he
    refine ⟨_, rfl, e, q, _, _, rfl, rfl, upd_same, upd_get qe upd_same, ?_, fun r hr' => ?_⟩
    · rw [vis_length]
      show 1 + _ ≤ _
      exact leLine (by omega)
    rw [hx] at hr' ⊢
    have s2 : Same H _ := same_upd_of (o := .lst ([.int (c.said.length : Int)] ++ vis c.open_)) (same_upd_of s1 he) hr'
    refine ⟨r, nums (c.said.length :: c.open_), rfl, SqL.here upd_same, by show 0 < _; exact Nat.succ_pos _, fun m hm hl => ?_⟩
    have em := min_first hm hl
    subst em
    refine ⟨(by show 3 ≤ sizeLine; decide), fun l hl => ?_⟩
    refine h.answer (c' := c) (a := { value := ((c.open_.length : Nat) : Int), out := [Km448.bits c.open_, c.first] }) rfl (Int.natCast_nonneg _) l _ (s2.free hl) ?_ (J.same (same_upd_of s2 hl)) (Chg.of_same (same_upd_of s2 hl))
    rw [upd_same, vis_length]
    rfl

/-! ### said. Slots: self, number -/
theorem scSaid : FnScope ["self", "number"] ["self", "number"] (defScope (sC 12)) := ⟨rfl, rfl, rfl, by decide +kernel, rfl, by decide +kernel, by decide +kernel⟩
theorem ok_said {f : Addr} {fd : FuncData} (F : Fun K "said" "Caller.said" (sC 12) f fd) (T : Txt K mg CR CC CS CD fRI fNeed fCon fIsC fTold fBits fOfC fOfS aNUM aROW) (GN : Can P w K mg base (L2.CX P w) 3 fNeed ["truth", "answer"] (spNeed CR)) :
    FnOk P w K mg base (L2.CX P w) 4 f fd ["self", "number"] (spSaid CR CC) := by
  obtain ⟨fdN, GN, bN⟩ := GN
  refine F.okX scSaid (fun vs H Q E h => ?_) (fun cdv A outer s H vs Q E hr h => ⟨_, pss_cons (ps_expr (pe_call GN hr rfl T.gNeed T.kNeed bN .nil (passes_call (takes_of rfl rfl rfl rfl) (fun _ _ _ _ h => h))
      (pa_cons (pe_cmpR op_lt (pv 1) (pe_callB call_len_seq (by rfl) T.len PySem.boot_len (pa_cons (pe_fld (pv 0) rfl) pa_nil)) (nomark _)) (pa_cons (pe_gi T.gNOCALL) pa_nil))))
    (pss_one (ps_ret (pe_callTy call_list_of (by rfl) T.list (by decide +kernel) (pa_cons (pe_ix ix_list (pe_fld (pv 0) rfl) (pv 1) (fun _ _ => rfl)) pa_nil)))), ?_⟩)
  · obtain ⟨A, c, i, rfl, _⟩ := h
    rfl
  · obtain ⟨A, c, i, rfl, J, W, h⟩ := h
    have J' := J
    obtain ⟨⟨dx, hI⟩, ⟨xs, hL, hR⟩, hK, hne⟩ := J'
    have hx : xs.length = c.said.length := by rw [hR.1, List.length_map]
    refine ⟨_, rfl, _, rfl, A.a, CC, dx, _, _, rfl, hI, T.clC, T.nCalls, cF_calls c A, A.lc, xs, rfl, .inl (SqL.here hL), _, _, rfl, rfl, _, _, rfl, fun c1 => ?_, fun c1 => ?_⟩
    rotate_left
    · have := of_decide_eq_false c1
      exact h.refuse (congrArg Prod.snd (said_no (by omega))) (by decide)
    have c1 := of_decide_eq_true c1
    have li : i < c.said.length := by omega
    obtain ⟨wh, hw⟩ : ∃ wh, c.said[i]? = some wh := ⟨_, List.getElem?_eq_getElem li⟩
    obtain ⟨t, ht1, ht2⟩ := hR.2 i (wRow wh) (by rw [List.getElem?_map, hw]; rfl)
    refine ⟨_, rfl, A.a, CC, dx, _, _, rfl, hI, T.clC, T.nCalls, cF_calls c A, _, rfl, A.lc, xs, _, .ref t, rfl, rfl, SqL.here hL, atI_nat ht1, t, _, rfl, .inr (SqT.here ht2), fun l hl => ?_⟩
    refine h.answer (said_yes hw) (Int.natCast_nonneg _) l _ hl ?_ (J.same (same_upd hl)) (Chg.of_same (same_upd hl))
    rw [upd_same]
    rfl

/-! ### state. Slots: self -/
theorem scState : FnScope ["self"] ["self"] (defScope (sC 13)) := ⟨rfl, rfl, rfl, by decide +kernel, rfl, by decide +kernel, by decide +kernel⟩
theorem ok_state {f : Addr} {fd : FuncData} (F : Fun K "state" "Caller.state" (sC 13) f fd) (T : Txt K mg CR CC CS CD fRI fNeed fCon fIsC fTold fBits fOfC fOfS aNUM aROW) :
    FnOk P w K mg base CX0 1 f fd ["self"] (spState CR CC) := by
  refine F.ok scState (fun vs H Q E h => ?_) (fun cdv A outer s H vs Q E hr h => ⟨_, pss_one (ps_ret (pe_lst (pa_cons (pe_callB call_len_seq (by rfl) T.len PySem.boot_len (pa_cons (pe_fld (pv 0) rfl) pa_nil))
    (pa_cons (pe_fld (pv 0) rfl) (pa_cons (pe_fld (pv 0) rfl) pa_nil))))), ?_⟩)
  · obtain ⟨A, c, rfl, _⟩ := h
    rfl
  · obtain ⟨A, c, rfl, J, W, h⟩ := h
    have J' := J
    obtain ⟨⟨dx, hI⟩, ⟨xs, hL, hR⟩, hK, hne⟩ := J'
    have hx : xs.length = c.said.length := by rw [hR.1, List.length_map]
    refine ⟨_, rfl, A.a, CC, dx, _, _, rfl, hI, T.clC, T.nCalls, cF_calls c A, A.lc, xs, rfl, .inl (SqL.here hL), _, rfl, A.a, CC, dx, _, _, rfl, hI, T.clC, T.nMe, cF_me c A, _, rfl, A.a, CC, dx, _, _, rfl, hI, T.clC, T.nTell, cF_tellings c A, (by show 3 ≤ sizeLine; decide), fun l hl => ?_⟩
    refine h.answer (c' := c) (a := { value := ((c.said.length : Nat) : Int), out := [c.me, c.told] }) rfl (Int.natCast_nonneg _) l _ hl ?_ (J.same (same_upd hl)) (Chg.of_same (same_upd hl))
    rw [upd_same, hx]
    rfl
end
end CA

/-! # HSho1: a shore's __init__, of_call, hear -/
namespace CA
open PySem PySem.Spec PyProof.Rows L2
open Km448Neutral (nums)
open Km448 (Caller Shore What Heard)
open CM

/-- how a shore's call ends -/
structure SEnd (CR C : Addr) (H : Hp) (B : Sd) (s : Shore) (x : Km448.Call) (Q : VK) (E : XK) : Prop where
  no : (Km448.sDoes s x).2.value < 0 → ∀ (d : Addr) (H' : Hp), Same H H' → H' d = some (.xd [(("answer" : Str), .int (Km448.sDoes s x).2.value)]) → E (.ref CR) (some d) H'
  yes : 0 ≤ (Km448.sDoes s x).2.value → ∀ (p : Addr) (H' : Hp), H p = none → H' p = some (.lst ((Km448Neutral.told (Km448.sDoes s x).2).map V.int)) → SAt C H' B (Km448.sDoes s x).1 → Chg B.own H H' → Q (.ref p) H'
theorem SEnd.refuse {CR C : Addr} {H : Hp} {B : Sd} {s : Shore} {x : Km448.Call} {Q : VK} {E : XK} (h : SEnd CR C H B s x Q E) {v : Int} (e : (Km448.sDoes s x).2 = Km448.only v) (hv : v < 0) :
    ∀ (d : Addr) (H' : Hp), Same H H' → H' d = some (.xd [(("answer" : Str), .int v)]) → E (.ref CR) (some d) H' := fun d H' z hd =>
  h.no (by rw [e]; exact hv) d H' z (by rw [e]; exact hd)
theorem SEnd.answer {CR C : Addr} {H : Hp} {B : Sd} {s : Shore} {x : Km448.Call} {Q : VK} {E : XK} (h : SEnd CR C H B s x Q E) {s' : Shore} {a : Km448.Ans} (e : Km448.sDoes s x = (s', a)) (hv : 0 ≤ a.value) :
    ∀ (p : Addr) (H' : Hp), H p = none → H' p = some (.lst ((Km448Neutral.told a).map V.int)) → SAt C H' B s' → Chg B.own H H' → Q (.ref p) H' := fun p H' hp hl J ch =>
  h.yes (by rw [e]; exact hv) p H' hp (by rw [e]; exact hl) (by rw [e]; exact J) ch
theorem sown_a {B : Sd} : B.a ∈ B.own := List.mem_cons_self
theorem sown_lk {B : Sd} : B.lk ∈ B.own := List.mem_cons_of_mem _ List.mem_cons_self

def spSInit (C : Addr) : Sp := fun vs H Q _ => ∃ (p dx : Addr), vs = [.ref p] ∧ H p = some (.ins C dx []) ∧
  ∀ (H' : Hp) (B : Sd), B.a = p → SAt C H' B Km448.shore0 → H B.lk = none → (∀ b o, H b = some o → b ≠ p → H' b = some o) → Q .non H'
def spOfCall (C : Addr) : Sp := fun vs H Q _ => ∃ (B : Sd) (s : Shore) (k i : Nat), vs = [.ref B.a, .int (k : Int), .int (i : Int)] ∧ SAt C H B s ∧
  (s.at_ k i = none → ∀ H' : Hp, Same H H' → Q .non H') ∧
  (∀ w, s.at_ k i = some w → ∀ (p : Addr) (H' : Hp), H p = none → Same H H' → H' p = some (.tup (wRow w)) → Q (.ref p) H')
def spSHear (K : PySem.W.Frag) (CR C : Addr) : Sp := fun vs H Q E => ∃ (B : Sd) (s : Shore) (p : Addr) (w k i a x y : Nat), vs = [.ref B.a, .ref p] ∧ SqL K H p (vis [w, k, i, a, x, y]) ∧ SAt C H B s ∧ s.log.length ≤ 1000 ∧ SEnd CR C H B s (.sHear [w, k, i, a, x, y]) Q E

theorem at_none_of {s : Shore} {k i : Nat} (h : ∀ (j : Nat) (x : Heard), s.log[j]? = some x → ¬ (x.who = k ∧ x.number = i)) : s.at_ k i = none := by
  unfold Shore.at_
  have : (s.log.find? fun h => h.who == k && h.number == i) = none := List.find?_eq_none.mpr fun x hx => by
    obtain ⟨j, hj, e⟩ := List.getElem_of_mem hx
    have := h j x (by rw [List.getElem?_eq_getElem hj, e])
    simpa using this
  rw [this]
  rfl
theorem at_first {s : Shore} {k i j : Nat} {x : Heard} (e : s.log[j]? = some x) (h : x.who = k ∧ x.number = i) (n : ∀ (j' : Nat) (x : Heard), j' < j → s.log[j']? = some x → ¬ (x.who = k ∧ x.number = i)) : s.at_ k i = some x.what := by
  unfold Shore.at_
  have : (s.log.find? fun h => h.who == k && h.number == i) = some x := by
    rw [List.find?_eq_some_iff_getElem]
    obtain ⟨hj, ej⟩ := List.getElem?_eq_some_iff.mp e
    refine ⟨by simpa using h, j, hj, ej, fun j' hj' => ?_⟩
    have := n j' _ hj' (List.getElem?_eq_getElem (by omega))
    simp
    by_cases c : (s.log[j']'(by omega)).who = k
    · exact .inr fun q => this ⟨c, q⟩
    · exact .inl c
  rw [this]
  rfl
theorem row_at {H : Hp} {xs : List V} {l : List Heard} {i : Nat} {y : V} (R : Rows H xs (l.map hRow)) (h : xs[i]? = some y) : ∃ (x : Heard) (t : Addr), l[i]? = some x ∧ y = .ref t ∧ H t = some (.tup (hRow x)) := by
  have hi : i < l.length := by
    have := (List.getElem?_eq_some_iff.mp h).1
    have e := R.1
    rw [List.length_map] at e
    omega
  obtain ⟨t, h1, h2⟩ := R.2 i (hRow l[i]) (by rw [List.getElem?_map, List.getElem?_eq_getElem hi]; rfl)
  rw [h] at h1
  exact ⟨l[i], t, List.getElem?_eq_getElem hi, Option.some.inj h1, h2⟩

theorem shear_0 {s : Shore} {m : List Nat} (g : Km448.goodCall m = none) : Km448.sDoes s (.sHear m) = (s, Km448.only (-71)) := by
  unfold Km448.sDoes
  dsimp only
  rw [g]
theorem shear_1 {s : Shore} {m : List Nat} {h : Heard} {w : What} (g : Km448.goodCall m = some h) (e : s.at_ h.who h.number = some w) (n : ¬ w = h.what) : Km448.sDoes s (.sHear m) = (s, Km448.only (-74)) := by
  unfold Km448.sDoes
  dsimp only
  rw [g]
  dsimp only
  rw [e]
  dsimp only
  rw [if_neg n]
theorem shear_2 {s : Shore} {m : List Nat} {h : Heard} {w : What} (g : Km448.goodCall m = some h) (e : s.at_ h.who h.number = some w) (n : w = h.what) :
    Km448.sDoes s (.sHear m) = ({ s with again := min Km448.MOST (s.again + 1) }, { value := 0, out := [s.log.length] }) := by
  unfold Km448.sDoes
  dsimp only
  rw [g]
  dsimp only
  rw [e]
  dsimp only
  rw [if_pos n, hears_again (at_some e)]
theorem shear_3 {s : Shore} {m : List Nat} {h : Heard} (g : Km448.goodCall m = some h) (e : s.at_ h.who h.number = none) :
    Km448.sDoes s (.sHear m) = ({ s with log := s.log ++ [h] }, { value := 1, out := [s.log.length + 1] }) := by
  unfold Km448.sDoes
  dsimp only
  rw [g]
  dsimp only
  rw [e]
  dsimp only
  rw [hears_log (at_none e)]

section
variable {P : Program} {w : World} {K : PySem.W.Frag} {mg : Str → Option Value} {base : Heap} {CR CC CS CD fRI fNeed fCon fIsC fTold fBits fOfC fOfS aNUM aROW : Addr}

/-! ### __init__. Slots: self -/
theorem scSInit : FnScope ["self"] ["self"] (defScope (sS 0)) := ⟨rfl, rfl, rfl, by decide +kernel, rfl, by decide +kernel, by decide +kernel⟩
theorem ok_sinit {f : Addr} {fd : FuncData} (F : Fun K "__init__" "Shore.__init__" (sS 0) f fd) (T : Txt K mg CR CC CS CD fRI fNeed fCon fIsC fTold fBits fOfC fOfS aNUM aROW) : FnOk P w K mg base CX0 1 f fd ["self"] (spSInit CS) := by
  refine F.ok scSInit (fun vs H Q E h => ?_) (fun cdv A outer s H vs Q E hr h => ⟨_, pss_cons (ps_fld (pv 0) (pe_lst pa_nil) rfl) (pss_one (ps_fld (pv 0) pe_int rfl)), ?_⟩)
  · obtain ⟨p, dx, rfl, _⟩ := h
    rfl
  · obtain ⟨p, dx, rfl, hp, h⟩ := h
    refine ⟨Nat.zero_le _, fun l1 n1 => ?_⟩
    have p1 : p ≠ l1 := ne_new hp n1
    refine ⟨_, rfl, p, CS, dx, _, rfl, upd_get p1 hp, T.clS, T.nKept, (by show 0 < 1000; decide), ?_⟩
    refine ⟨_, rfl, p, CS, dx, _, rfl, upd_same, T.clS, T.nAgain, (by show 1 < 1000; decide), ?_⟩
    refine h _ ⟨p, l1⟩ rfl ⟨⟨dx, upd_same⟩, ⟨[], ?_, rows_nil⟩⟩ n1 fun b o e hb => ?_
    · show upd _ p _ l1 = _
      rw [upd_ne (Ne.symm p1), upd_ne (Ne.symm p1)]
      exact upd_same
    · rw [upd_ne hb, upd_ne hb, upd_ne (ne_new e n1)]
      exact e

/-! ### of_call. Slots: self, caller, number, one -/
theorem scOfCall : FnScope ["self", "caller", "number", "one"] ["self", "caller", "number"] (defScope (sS 1)) := ⟨rfl, rfl, rfl, by decide +kernel, rfl, by decide +kernel, by decide +kernel⟩
theorem ok_ofcall {f : Addr} {fd : FuncData} (F : Fun K "of_call" "Shore.of_call" (sS 1) f fd) (T : Txt K mg CR CC CS CD fRI fNeed fCon fIsC fTold fBits fOfC fOfS aNUM aROW) : FnOk P w K mg base CX0 1 f fd ["self", "caller", "number"] (spOfCall CS) := by
  refine F.ok scOfCall (fun vs H Q E h => ?_) (fun cdv A outer s H vs Q E hr h => ⟨_, pss_cons (ps_for PassesOwn.never rfl (pi_list (pe_fld (pv 0) rfl)) (pg_name (i := 3) scOfCall.nd rfl (Or.inl rfl))
      (pss_one (ps_if (pt_cmpR (op_eqD hr.units) (pe_slice sl_tup (pv 3) po_none (po_some pe_int)) (pe_tup (pa_cons (pv 1) (pa_cons (pv 2) pa_nil))) (nomark _))
        (pss_one (ps_ret (pe_slice sl_tup (pv 3) (po_some pe_int) po_none))) pss_nil)))
    (pss_one (ps_ret pe_non)), ?_⟩)
  · obtain ⟨B, z, k, i, rfl, _⟩ := h
    rfl
  · obtain ⟨B, z, k, i, rfl, ⟨⟨dx, hI⟩, ⟨xs, hL, hR⟩⟩, h0, h1⟩ := h
    refine ⟨_, rfl, B.a, CS, dx, _, _, rfl, hI, T.clS, T.nKept, sF_kept z B, B.lk, rfl, ⟨_, SqL.here hL⟩, for_list (K := K) (a := B.lk) (xs := xs)
      (fun j σ H' => ∃ v : Option V, σ = [some (.ref B.a), some (.int (k : Int)), some (.int (i : Int)), v] ∧ Same H H' ∧ ∀ (j' : Nat) (x : Heard), j' < j → z.log[j']? = some x → ¬ (x.who = k ∧ x.number = i))
      ⟨none, rfl, Same.refl H, fun _ _ q => absurd q (Nat.not_lt_zero _)⟩ (fun j σ H' _ ⟨_, _, e, _⟩ => SqL.here (e _ _ hL)) ?_ ?_⟩
    · rintro j y σ H' hj ⟨v, rfl, e1, e2⟩
      obtain ⟨x, t, hx, rfl, ht⟩ := row_at hR hj
      have ht1 := e1 _ _ ht
      refine ⟨_, rfl, _, rfl, t, _, rfl, SqT.here ht1, by show ¬ ((0 : Nat) = 0 ∧ (2 : Nat) = 5); omega, fun q hq => ?_⟩
      have q1 : Same H _ := same_upd_of (o := .tup (cutV (hRow x) none (some 2))) e1 hq
      refine ⟨_, rfl, _, rfl, (by show 2 ≤ sizeLine; decide), fun r hr' => ⟨.tuple (dpd [x.who, x.number]), .tuple (dpd [k, i]), ?_, ?_, shaped_tuple _, shaped_tuple _, ?_⟩⟩
      · exact .tup (SqT.here (upd_get (ne_new upd_same hr') upd_same)) (dp_vis [x.who, x.number])
      · exact .tup (SqT.here upd_same) (dp_vis [k, i])
      have q2 : Same H _ := same_upd_of (o := .tup [.int (k : Int), .int (i : Int)]) q1 hr'
      rw [eqv_tup]
      refine ⟨_, rfl, ?_⟩
      by_cases c : x.who = k ∧ x.number = i
      · rw [decide_eq_true (show [x.who, x.number] = [k, i] by rw [c.1, c.2])]
        refine iteT ⟨_, rfl, _, rfl, t, _, rfl, SqT.here (q2 _ _ ht), by show ¬ ((2 : Nat) = 0 ∧ (5 : Nat) = 5); omega, fun l hl => ?_⟩
        exact h1 _ (at_first hx c e2) l _ (q2.free hl) (same_upd_of q2 hl) upd_same
      · rw [decide_eq_false (fun e => c (by injection e with a b; injection b with b _; exact ⟨a, b⟩))]
        refine iteF ⟨_, rfl, q2, fun j' x' hj' hx' => ?_⟩
        by_cases e : j' = j
        · subst e
          rw [hx] at hx'
          injection hx' with hx'
          rw [← hx']
          exact c
        · exact e2 j' x' (by omega) hx'
    · rintro σ H' ⟨v, rfl, e1, e2⟩
      refine h0 (at_none_of fun j x hx => e2 j x ?_ hx) H' e1
      have := (List.getElem?_eq_some_iff.mp hx).1
      have e := hR.1
      rw [List.length_map] at e
      omega

/-! ### hear. Slots: self, message, call, there -/
theorem decN : decide (V.non = V.non) = true := decide_eq_true rfl
theorem decR (p : Addr) : decide (V.ref p = V.non) = false := decide_eq_false (fun e => nomatch e)
theorem sF_putAgain {s : Shore} {B : Sd} {n : Nat} : putF "again" (.int (n : Int)) (sF s B) = sF { s with again := n } B := by rfl
theorem scSHear : FnScope ["self", "message", "call", "there"] ["self", "message"] (defScope (sS 2)) := ⟨rfl, rfl, rfl, by decide +kernel, rfl, by decide +kernel, by decide +kernel⟩
theorem ok_shear {f fO : Addr} {fd : FuncData} (F : Fun K "hear" "Shore.hear" (sS 2) f fd) (T : Txt K mg CR CC CS CD fRI fNeed fCon fIsC fTold fBits fOfC fOfS aNUM aROW) (GN : Can P w K mg base (L2.CX P w) 3 fNeed ["truth", "answer"] (spNeed CR))
    (GI : Can P w K mg base CX0 2 fIsC ["message"] (spIsC K)) (mO : Meth K CS "of_call" fO) (GO : Can P w K mg base CX0 1 fO ["self", "caller", "number"] (spOfCall CS)) :
    FnOk P w K mg base (L2.CX P w) 4 f fd ["self", "message"] (spSHear K CR CS) := by
  obtain ⟨fdN, GN, bN⟩ := GN
  obtain ⟨fdI, GI, bI⟩ := GI
  obtain ⟨fdO, GO, bO⟩ := GO
  refine F.okX scSHear (fun vs H Q E h => ?_) (fun cdv A outer s H vs Q E hr h => ⟨_, pss_cons (ps_expr (pe_call GN hr rfl T.gNeed T.kNeed bN .nil (passes_call (takes_of rfl rfl rfl rfl) (fun _ _ _ _ h => h))
      (pa_cons (pe_call GI (hr.mono (by decide)) rfl T.gIsC T.kIsC bI .nil pass0 (pa_cons (pv 1) pa_nil)) (pa_cons (pe_gi T.gNOMSG) pa_nil))))
    (pss_cons (ps_set (i := 2) scSHear.nd rfl (Or.inl rfl) (pe_callTy call_tuple_of (by rfl) T.tuple (by decide +kernel) (pa_cons (pe_slice sl_list (pv 1) (po_some pe_int) po_none) pa_nil)))
    (pss_cons (ps_set (i := 3) scSHear.nd rfl (Or.inl rfl) (pe_meth (pv 0) T.clS mO GO (hr.mono (by decide)) bO .nil pass0 (pa_cons (pe_ix ix_tup (pv 2) pe_int (fun _ _ => rfl)) (pa_cons (pe_ix ix_tup (pv 2) pe_int (fun _ _ => rfl)) pa_nil))))
    (pss_cons (ps_expr (pe_call GN hr rfl T.gNeed T.kNeed bN .nil (passes_call (takes_of rfl rfl rfl rfl) (fun _ _ _ _ h => h))
      (pa_cons (pe_or (pe_cmp (pc_isN (pv 3)) rfl) (pe_one (pe_cmpR (op_eqD hr.units) (pv 3) (pe_slice sl_tup (pv 2) (po_some pe_int) po_none) (nomark _)))) (pa_cons (pe_gi T.gOTHER) pa_nil))))
    (pss_cons (ps_if (pt_cmp (pc_isN (pv 3)))
      (pss_cons (ps_expr (pe_bm PySem.F.plainAttrs_list PySem.F.slot_list_append PySem.F.type_list_append mt_append (pe_fld (pv 0) rfl) (pa_cons (pv 2) pa_nil)))
      (pss_one (ps_ret (pe_lst (pa_cons pe_int (pa_cons (pe_callB call_len_seq (by rfl) T.len PySem.boot_len (pa_cons (pe_fld (pv 0) rfl) pa_nil)) pa_nil)))))) pss_nil)
    (pss_cons (ps_fld (pv 0) (pe_callB (call_min2 rfl) (by rfl) T.min (by decide +kernel) (pa_cons (pe_op op_add (pe_fld (pv 0) rfl) pe_int) (pa_cons (pe_gi T.gMNUM) pa_nil))) rfl)
    (pss_one (ps_ret (pe_lst (pa_cons pe_int (pa_cons (pe_callB call_len_seq (by rfl) T.len PySem.boot_len (pa_cons (pe_fld (pv 0) rfl) pa_nil)) pa_nil)))))))))), ?_⟩)
  · obtain ⟨B, z, p, w', k, i, a, x, y, rfl, _⟩ := h
    rfl
  · obtain ⟨B, z, p, w', k, i, a, x, y, rfl, hS, J, hlen, h⟩ := h
    have J' := J
    obtain ⟨⟨dx, hI⟩, ⟨xs, hL, hR⟩⟩ := J'
    have hx : xs.length = z.log.length := by rw [hR.1, List.length_map]
    refine ⟨_, rfl, p, _, _, _, _, _, _, rfl, hS, ?_⟩
    rw [isCall_eq]
    refine ⟨_, _, rfl, fun c1 => ?_, fun c1 => ?_⟩
    rotate_left
    · have g : Km448.goodCall [w', k, i, a, x, y] = none := by
        cases e : Km448.goodCall [w', k, i, a, x, y] with
        | none => rfl
        | some h => rw [e] at c1; cases c1
      exact h.refuse (congrArg Prod.snd (shear_0 g)) (by decide)
    obtain ⟨hd, g⟩ := Option.isSome_iff_exists.mp c1
    obtain ⟨rfl, k4, i30, rfl⟩ := goodCall_some g
    -- call = tuple(message[1:])
    refine ⟨_, rfl, _, rfl, p, _, rfl, hS, fun l hl => ⟨l, _, rfl, .inl ⟨SqL.here upd_same, fun t ht => ?_⟩⟩⟩
    have e1 : cutV (vis [1, k, i, a, x, y]) (some 1) none = hRow ⟨k, i, ⟨a, x, y⟩⟩ := by rfl
    rw [e1] at ht ⊢
    have s1 : Same H _ := same_upd_of (o := .tup (hRow ⟨k, i, ⟨a, x, y⟩⟩)) (same_upd (o := .lst (hRow ⟨k, i, ⟨a, x, y⟩⟩)) hl) ht
    have tn : H t = none := (same_upd (o := .lst (hRow ⟨k, i, ⟨a, x, y⟩⟩)) hl).free ht
    generalize hH1 : upd (upd H l (.lst (hRow ⟨k, i, ⟨a, x, y⟩⟩))) t (.tup (hRow ⟨k, i, ⟨a, x, y⟩⟩)) = H1 at s1 ⊢
    have ht1 : H1 t = some (.tup (hRow ⟨k, i, ⟨a, x, y⟩⟩)) := by rw [← hH1]; exact upd_same
    have nl : ∀ {q}, H1 q = none → H q = none := fun e => s1.free e
    -- there = self.of_call(call[0], call[1])
    refine ⟨_, rfl, B.a, dx, _, rfl, s1 _ _ hI, by rfl, _, rfl, t, _, ((0 : Nat) : Int), .int (k : Int), rfl, rfl, SqT.here ht1, atI_nat rfl, _, rfl, t, _, ((1 : Nat) : Int), .int (i : Int), rfl, rfl, SqT.here ht1, atI_nat rfl,
      B, z, k, i, rfl, J.same s1, fun e0 H2 s2 => ?_, fun wh e0 r H2 rn s2 hr2 => ?_⟩
    · -- it isn't kept
      refine ⟨_, rfl, _, rfl, ?_⟩
      rw [decN]
      refine iteT ⟨_, _, rfl, fun _ => ?_, fun q => nomatch q⟩
      refine ⟨_, rfl, _, rfl, ?_⟩
      rw [decN]
      have s3 := s1.trans s2
      have ak : B.a ≠ B.lk := ne_of hI hL (fun z => by cases z)
      refine iteT ⟨_, rfl, B.a, CS, dx, _, _, rfl, s3 _ _ hI, T.clS, T.nKept, sF_kept z B, .inl ⟨rfl, _, SqL.here (s3 _ _ hL)⟩, _, rfl, B.lk, _, _, rfl, rfl, s3 _ _ hL, ltLine (by omega), ?_⟩
      refine ⟨_, rfl, B.a, CS, dx, _, _, rfl, upd_get ak (s3 _ _ hI), T.clS, T.nKept, sF_kept z B, B.lk, _, rfl, .inl (SqL.here upd_same), (by show 2 ≤ sizeLine; decide), fun q hq => ?_⟩
      obtain ⟨q1, hq1⟩ := upd_none hq
      refine h.answer (shear_3 g e0) (by show (0 : Int) ≤ 1; decide) q _ (s3.free hq1) ?_ ⟨⟨dx, upd_get (ne_new (s3 _ _ hI) hq1) (upd_get ak (s3 _ _ hI))⟩, ⟨xs ++ [.ref t], upd_get (Ne.symm q1) upd_same, ?_⟩⟩ (chg_upd (chg_upd (Chg.of_same s3) (.inl sown_lk)) (.inr (s3.free hq1)))
      · rw [upd_same, List.length_append, hx]
        rfl
      · show Rows _ _ ((z.log ++ ([⟨k, i, ⟨a, x, y⟩⟩] : List Heard)).map hRow)
        rw [List.map_append]
        refine Rows.push (hR.keep fun t' r e => ?_) ?_
        · have e2 := s3 _ _ e
          exact upd_get (ne_new e2 hq1) (upd_get (ne_of e2 (s3 _ _ hL) (fun z => by cases z)) e2)
        · have e2 := s2 _ _ ht1
          exact upd_get (ne_new e2 hq1) (upd_get (ne_of e2 (s3 _ _ hL) (fun z => by cases z)) e2)
    · -- it's kept
      have s3 := s1.trans s2
      refine ⟨_, rfl, _, rfl, ?_⟩
      rw [decR]
      refine iteF ⟨_, rfl, _, rfl, _, rfl, t, _, rfl, SqT.here (s2 _ _ ht1), by show ¬ ((2 : Nat) = 0 ∧ (5 : Nat) = 5); omega, fun u hu => ⟨.tuple (dpd [wh.kind, wh.x, wh.y]), .tuple (dpd [a, x, y]), ?_, ?_, shaped_tuple _, shaped_tuple _, ?_⟩⟩
      · exact .tup (SqT.here (upd_get (ne_new hr2 hu) hr2)) (dp_vis [wh.kind, wh.x, wh.y])
      · exact .tup (SqT.here upd_same) (dp_vis [a, x, y])
      rw [eqv_tup]
      have s4 : Same H _ := same_upd_of (o := .tup (cutV (hRow ⟨k, i, ⟨a, x, y⟩⟩) (some 2) none)) s3 hu
      refine ⟨_, _, rfl, fun c2 => ?_, fun c2 => ?_⟩
      rotate_left
      · have c2 := of_decide_eq_false c2
        exact fun d H' s' hd => h.refuse (congrArg Prod.snd (shear_1 g e0 (fun e => c2 (by rw [e])))) (by decide) d H' (s4.trans s') hd
      have c2 := of_decide_eq_true c2
      have ew : wh = ⟨a, x, y⟩ := by
        obtain ⟨w1, w2, w3⟩ := wh
        injection c2 with a1 c2
        injection c2 with a2 c2
        injection c2 with a3 _
        subst a1 a2 a3
        rfl
      refine ⟨_, rfl, _, rfl, ?_⟩
      rw [decR]
      refine iteF ?_
      refine ⟨_, rfl, B.a, CS, dx, _, _, rfl, s4 _ _ hI, T.clS, T.nAgain, sF_again z B, _, _, rfl, rfl, _, _, rfl, ?_⟩
      refine ⟨_, rfl, B.a, CS, dx, _, rfl, s4 _ _ hI, T.clS, T.nAgain, (by show 2 < 1000; decide), ?_⟩
      have eF : putF "again" (.int (if (1000000 : Int) < (z.again : Int) + 1 then (1000000 : Int) else (z.again : Int) + 1)) (sF z B) = sF { z with again := min Km448.MOST (z.again + 1) } B := by
        rw [min_told]
        rfl
      rw [eF]
      have ak : B.a ≠ B.lk := ne_of hI hL (fun z => by cases z)
      refine ⟨_, rfl, B.a, CS, dx, _, _, rfl, upd_same, T.clS, T.nKept, sF_kept _ B, B.lk, _, rfl, .inl (SqL.here (upd_get (Ne.symm ak) (s4 _ _ hL))), (by show 2 ≤ sizeLine; decide), fun q hq => ?_⟩
      obtain ⟨q1, hq1⟩ := upd_none hq
      refine h.answer (shear_2 g e0 ew) (by show (0 : Int) ≤ 0; decide) q _ (s4.free hq1) ?_ ⟨⟨dx, upd_get (Ne.symm q1) upd_same⟩, ⟨xs, upd_get (ne_new (s4 _ _ hL) hq1) (upd_get (Ne.symm ak) (s4 _ _ hL)), hR.keep fun t' r e => ?_⟩⟩ (chg_upd (chg_upd (Chg.of_same s4) (.inl sown_a)) (.inr (s4.free hq1)))
      · rw [upd_same, hx]
        rfl
      · have e2 := s4 _ _ e
        exact upd_get (ne_new e2 hq1) (upd_get (ne_of e (hI) (fun z => by cases z)) e2)
end
end CA

/-! # HSho2: a shore's numbers_of, answer_for, get, find, of_caller, gaps, state -/
namespace CA
open PySem PySem.Spec PyProof.Rows L2
open Km448Neutral (nums)
open Km448 (Caller Shore What Heard)
open CM

def spNums (CR C : Addr) : Sp := fun vs H Q E => ∃ (B : Sd) (s : Shore) (k : Nat), vs = [.ref B.a, .int (k : Int)] ∧ SAt C H B s ∧ WFS s ∧ s.log.length ≤ 1000 ∧
  (4 ≤ k → ∀ (d : Addr) (H' : Hp), Same H H' → H' d = some (.xd [(("answer" : Str), .int (-2))]) → E (.ref CR) (some d) H') ∧
  (k < 4 → ∀ (p : Addr) (H' : Hp), H p = none → Same H H' → H' p = some (.lst (vis (hasL s k))) → Q (.ref p) H')
def spAns1 (CR C : Addr) : Sp := fun vs H Q E => ∃ (B : Sd) (s : Shore) (k : Nat), vs = [.ref B.a, .int (k : Int)] ∧ SAt C H B s ∧ WFS s ∧ s.log.length ≤ 1000 ∧ SEnd CR C H B s (.sAnswer k) Q E
def spGet (CR C : Addr) : Sp := fun vs H Q E => ∃ (B : Sd) (s : Shore) (k : Nat), vs = [.ref B.a, .int (k : Int)] ∧ SAt C H B s ∧ WFS s ∧ s.log.length ≤ 1000 ∧ SEnd CR C H B s (.sGet k) Q E
def spFind (CR C : Addr) : Sp := fun vs H Q E => ∃ (B : Sd) (s : Shore) (k i : Nat), vs = [.ref B.a, .int (k : Int), .int (i : Int)] ∧ SAt C H B s ∧ WFS s ∧ s.log.length ≤ 1000 ∧ SEnd CR C H B s (.sFind k i) Q E
def spOf (CR C : Addr) : Sp := fun vs H Q E => ∃ (B : Sd) (s : Shore) (k : Nat), vs = [.ref B.a, .int (k : Int)] ∧ SAt C H B s ∧ WFS s ∧ s.log.length ≤ 1000 ∧ SEnd CR C H B s (.sOf k) Q E
def spGaps (CR C : Addr) : Sp := fun vs H Q E => ∃ (B : Sd) (s : Shore) (k : Nat), vs = [.ref B.a, .int (k : Int)] ∧ SAt C H B s ∧ WFS s ∧ s.log.length ≤ 1000 ∧ SEnd CR C H B s (.sGaps k) Q E
def spSState (CR C : Addr) : Sp := fun vs H Q E => ∃ (B : Sd) (s : Shore), vs = [.ref B.a] ∧ SAt C H B s ∧ WFS s ∧ s.log.length ≤ 1000 ∧ SEnd CR C H B s .sState Q E

theorem hasL_length (s : Shore) (k : Nat) : (hasL s k).length ≤ 30 := filter_range_le _ 30
theorem ofL_more {l : List Heard} {k i : Nat} {x : Heard} (h : l[i]? = some x) : ((l.take (i + 1)).filter fun h => h.who == k).map (fun h => h.number) =
    if x.who = k then ((l.take i).filter fun h => h.who == k).map (fun h => h.number) ++ [x.number] else ((l.take i).filter fun h => h.who == k).map (fun h => h.number) := by
  rw [take_more h, List.filter_append, List.map_append]
  by_cases e : x.who = k
  · rw [if_pos e, List.filter_cons, if_pos (by simpa using e)]
    rfl
  · rw [if_neg e, List.filter_cons, if_neg (by simpa using e)]
    simp
theorem ofL_take_le (l : List Heard) (k i : Nat) : (((l.take i).filter fun h => h.who == k).map fun h => h.number).length ≤ l.length := by
  rw [List.length_map]
  have h1 := List.length_filter_le (fun h : Heard => h.who == k) (l.take i)
  have h2 := List.length_take_le' i l
  omega

section
variable {P : Program} {w : World} {K : PySem.W.Frag} {mg : Str → Option Value} {base : Heap} {CR CC CS CD fRI fNeed fCon fIsC fTold fBits fOfC fOfS aNUM aROW : Addr}

/-! ### numbers_of. Slots: self, caller; the comprehension's own: one -/
theorem scNums : FnScope ["self", "caller", "one"] ["self", "caller"] (defScope (sS 3)) := ⟨rfl, rfl, rfl, by decide +kernel, rfl, by decide +kernel, by decide +kernel⟩
theorem ok_nums {f : Addr} {fd : FuncData} (F : Fun K "numbers_of" "Shore.numbers_of" (sS 3) f fd) (T : Txt K mg CR CC CS CD fRI fNeed fCon fIsC fTold fBits fOfC fOfS aNUM aROW) (GN : Can P w K mg base (L2.CX P w) 3 fNeed ["truth", "answer"] (spNeed CR)) :
    FnOk P w K mg base (L2.CX P w) 4 f fd ["self", "caller"] (spNums CR CS) := by
  obtain ⟨fdN, GN, bN⟩ := GN
  refine F.okX scNums (fun vs H Q E h => ?_) (fun cdv A outer s H vs Q E hr h => ⟨_, pss_cons (ps_expr (pe_call GN hr rfl T.gNeed T.kNeed bN .nil (passes_call (takes_of rfl rfl rfl rfl) (fun _ _ _ _ h => h))
      (pa_cons (pe_cmpR op_le (pv 1) (pe_gi T.gMCALLER) (nomark _)) (pa_cons (pe_gi T.gNOCALL) pa_nil))))
    (pss_one (ps_ret (pe_callB cr_sortedI (by rfl) T.sorted (by decide +kernel) (pa_cons (pe_lc (own := [("one", 2)]) (g := gName 2) (tt := tTest (tOp rEq (tOp (rIxT K) (tVar 2) (tC (.int 0))) (tVar 1))) (te := tOp (rIxT K) (tVar 2) (tC (.int 1))) rfl scNums.nd
      (pi_list (pe_fld (pv 0) rfl)) (blkOk_by (own := [("one", 2)]) (N := ["self", "caller", "one"]) (sc := defScope (sS 3)) (by decide +kernel)) (fun _ _ _ _ _ => pg_name (i := 2) scNums.nd rfl (Or.inl rfl))
      (fun _ _ _ _ _ => by exact (pts_one (pt_cmpR op_eq (pe_ix ix_tup (pv 2) pe_int (fun _ _ => rfl)) (pv 1) (nomark _)))) (fun _ _ _ _ _ => by exact (pe_ix ix_tup (pv 2) pe_int (fun _ _ => rfl)))) pa_nil)))), ?_⟩)
  · obtain ⟨B, z, k, rfl, _⟩ := h
    rfl
  · obtain ⟨B, z, k, rfl, J, W, hlen, hno, hyes⟩ := h
    obtain ⟨⟨dx, hI⟩, ⟨xs, hL, hR⟩⟩ := J
    refine ⟨_, rfl, _, _, rfl, rfl, _, _, rfl, fun c1 => ?_, fun c1 => ?_⟩
    rotate_left
    · have := of_decide_eq_false c1
      exact fun d H' s' hd => hno (by omega) d H' s' hd
    have c1 := of_decide_eq_true c1
    refine ⟨_, rfl, B.a, CS, dx, _, _, rfl, hI, T.clS, T.nKept, sF_kept z B, B.lk, rfl, ⟨_, SqL.here hL⟩, fun D hD => ?_⟩
    have lD : B.lk ≠ D := ne_new hL hD
    refine lc_list (K := K) (a := B.lk) (xs := xs) (fun i H' => H' = upd H D (.lst (vis (((z.log.take i).filter fun h => h.who == k).map fun h => h.number)))) rfl (fun i H' _ e => by rw [e]; exact SqL.here (upd_get lD hL)) (fun i y H' hi e => ?_) (fun H' e => ?_)
    · subst e
      obtain ⟨x, t, hx, rfl, ht⟩ := row_at hR hi
      have ht1 : upd H D (.lst (vis (((z.log.take i).filter fun h => h.who == k).map fun h => h.number))) t = some (.tup (hRow x)) := upd_get (ne_new ht hD) ht
      refine ⟨rfl, _, rfl, t, _, ((0 : Nat) : Int), .int (x.who : Int), rfl, rfl, SqT.here ht1, atI_nat rfl, _, rfl, rfl, _, rfl, ?_⟩
      rw [dv, ofL_more hx]
      by_cases c : x.who = k
      · rw [decide_eq_true (show (x.who : Int) = (k : Int) by omega), if_pos c]
        refine iteT ⟨_, rfl, t, _, ((1 : Nat) : Int), .int (x.number : Int), rfl, rfl, SqT.here ht1, atI_nat rfl, _, upd_same, ?_, ?_⟩
        · rw [vis_length]
          have := ofL_take_le z.log k i
          exact ltLine (by omega)
        · rw [upd_upd, vis_append]
          rfl
      · rw [decide_eq_false (show ¬ (x.who : Int) = (k : Int) by omega), if_neg c]
        exact iteF rfl
    · subst e
      have e : xs.length = z.log.length := by rw [hR.1, List.length_map]
      rw [e, List.take_length]
      have s1 := same_upd (o := .lst (vis ((z.log.filter fun h => h.who == k).map fun h => h.number))) hD
      refine ⟨D, nums (ofL z k), rfl, SqL.here upd_same, fun ns p hp hs hpn => ?_⟩
      have e := sorted_hasL W hp hs
      subst e
      exact hyes (by omega) p _ (s1.free hpn) (same_upd_of s1 hpn) upd_same

/-! ### get. Slots: self, at, caller, number, kind, x, y -/
theorem scGet : FnScope ["self", "at", "caller", "number", "kind", "x", "y"] ["self", "at"] (defScope (sS 5)) := ⟨rfl, rfl, rfl, by decide +kernel, rfl, by decide +kernel, by decide +kernel⟩
theorem get_no {s : Shore} {i : Nat} (h : s.log.length ≤ i) : Km448.sDoes s (.sGet i) = (s, Km448.only (-2)) := by
  unfold Km448.sDoes
  dsimp only
  rw [List.getElem?_eq_none h]
theorem get_yes {s : Shore} {i : Nat} {h : Heard} (e : s.log[i]? = some h) : Km448.sDoes s (.sGet i) = (s, { value := ((h.what.kind : Nat) : Int), out := [h.who, h.number, h.what.x, h.what.y] }) := by
  unfold Km448.sDoes
  dsimp only
  rw [e]
theorem ok_get {f : Addr} {fd : FuncData} (F : Fun K "get" "Shore.get" (sS 5) f fd) (T : Txt K mg CR CC CS CD fRI fNeed fCon fIsC fTold fBits fOfC fOfS aNUM aROW) (GN : Can P w K mg base (L2.CX P w) 3 fNeed ["truth", "answer"] (spNeed CR)) :
    FnOk P w K mg base (L2.CX P w) 4 f fd ["self", "at"] (spGet CR CS) := by
  obtain ⟨fdN, GN, bN⟩ := GN
  refine F.okX scGet (fun vs H Q E h => ?_) (fun cdv A outer s H vs Q E hr h => ⟨_, pss_cons (ps_expr (pe_call GN hr rfl T.gNeed T.kNeed bN .nil (passes_call (takes_of rfl rfl rfl rfl) (fun _ _ _ _ h => h))
      (pa_cons (pe_cmpR op_lt (pv 1) (pe_callB call_len_seq (by rfl) T.len PySem.boot_len (pa_cons (pe_fld (pv 0) rfl) pa_nil)) (nomark _)) (pa_cons (pe_gi T.gNOCALL) pa_nil))))
    (pss_cons (ps_asg (pe_ix ix_list (pe_fld (pv 0) rfl) (pv 1) (fun _ _ => rfl)) (pg_tup rfl (pgs_cons (pg_name (i := 2) scGet.nd rfl (Or.inl rfl)) (pgs_cons (pg_name (i := 3) scGet.nd rfl (Or.inl rfl)) (pgs_cons (pg_name (i := 4) scGet.nd rfl (Or.inl rfl))
      (pgs_cons (pg_name (i := 5) scGet.nd rfl (Or.inl rfl)) (pgs_cons (pg_name (i := 6) scGet.nd rfl (Or.inl rfl)) pgs_nil)))))))
    (pss_one (ps_ret (pe_lst (pa_cons (pv 4) (pa_cons (pv 2) (pa_cons (pv 3) (pa_cons (pv 5) (pa_cons (pv 6) pa_nil))))))))), ?_⟩)
  · obtain ⟨B, z, i, rfl, _⟩ := h
    rfl
  · obtain ⟨B, z, i, rfl, J, W, hlen, h⟩ := h
    have J' := J
    obtain ⟨⟨dx, hI⟩, ⟨xs, hL, hR⟩⟩ := J'
    have hx : xs.length = z.log.length := by rw [hR.1, List.length_map]
    refine ⟨_, rfl, _, rfl, B.a, CS, dx, _, _, rfl, hI, T.clS, T.nKept, sF_kept z B, B.lk, xs, rfl, .inl (SqL.here hL), _, _, rfl, rfl, _, _, rfl, fun c1 => ?_, fun c1 => ?_⟩
    rotate_left
    · have := of_decide_eq_false c1
      exact h.refuse (congrArg Prod.snd (get_no (by omega))) (by decide)
    have c1 := of_decide_eq_true c1
    have li : i < z.log.length := by omega
    obtain ⟨t, ht1, ht2⟩ := hR.2 i (hRow z.log[i]) (by rw [List.getElem?_map, List.getElem?_eq_getElem li]; rfl)
    refine ⟨_, rfl, B.a, CS, dx, _, _, rfl, hI, T.clS, T.nKept, sF_kept z B, _, rfl, B.lk, xs, _, .ref t, rfl, rfl, SqL.here hL, atI_nat ht1, t, _, rfl, SqT.here ht2, rfl, _, _, rfl, _, _, rfl, _, _, rfl, _, _, rfl, _, _, rfl, rfl, ?_⟩
    refine ⟨_, rfl, _, rfl, _, rfl, _, rfl, _, rfl, (by show 5 ≤ sizeLine; decide), fun l hl => ?_⟩
    refine h.answer (get_yes (List.getElem?_eq_getElem li)) (Int.natCast_nonneg _) l _ hl ?_ (J.same (same_upd hl)) (Chg.of_same (same_upd hl))
    rw [upd_same]
    rfl

/-! ### find. Slots: self, caller, number, found -/
theorem scFind : FnScope ["self", "caller", "number", "found"] ["self", "caller", "number"] (defScope (sS 6)) := ⟨rfl, rfl, rfl, by decide +kernel, rfl, by decide +kernel, by decide +kernel⟩
theorem find_no {s : Shore} {k i : Nat} (h : 4 ≤ k) : Km448.sDoes s (.sFind k i) = (s, Km448.only (-2)) := by
  unfold Km448.sDoes
  dsimp only
  rw [if_pos (show Km448.CALLERS ≤ k from h)]
theorem find_none {s : Shore} {k i : Nat} (h : ¬ 4 ≤ k) (e : s.at_ k i = none) : Km448.sDoes s (.sFind k i) = (s, Km448.only (-6)) := by
  unfold Km448.sDoes
  dsimp only
  rw [if_neg (show ¬ Km448.CALLERS ≤ k from h), e]
theorem find_some {s : Shore} {k i : Nat} {wh : What} (h : ¬ 4 ≤ k) (e : s.at_ k i = some wh) : Km448.sDoes s (.sFind k i) = (s, { value := ((wh.kind : Nat) : Int), out := [wh.x, wh.y] }) := by
  unfold Km448.sDoes
  dsimp only
  rw [if_neg (show ¬ Km448.CALLERS ≤ k from h), e]
theorem ok_find {f fO : Addr} {fd : FuncData} (F : Fun K "find" "Shore.find" (sS 6) f fd) (T : Txt K mg CR CC CS CD fRI fNeed fCon fIsC fTold fBits fOfC fOfS aNUM aROW) (GN : Can P w K mg base (L2.CX P w) 3 fNeed ["truth", "answer"] (spNeed CR))
    (mO : Meth K CS "of_call" fO) (GO : Can P w K mg base CX0 1 fO ["self", "caller", "number"] (spOfCall CS)) :
    FnOk P w K mg base (L2.CX P w) 4 f fd ["self", "caller", "number"] (spFind CR CS) := by
  obtain ⟨fdN, GN, bN⟩ := GN
  obtain ⟨fdO, GO, bO⟩ := GO
  refine F.okX scFind (fun vs H Q E h => ?_) (fun cdv A outer s H vs Q E hr h => ⟨_, pss_cons (ps_expr (pe_call GN hr rfl T.gNeed T.kNeed bN .nil (passes_call (takes_of rfl rfl rfl rfl) (fun _ _ _ _ h => h))
      (pa_cons (pe_cmpR op_le (pv 1) (pe_gi T.gMCALLER) (nomark _)) (pa_cons (pe_gi T.gNOCALL) pa_nil))))
    (pss_cons (ps_set (i := 3) scFind.nd rfl (Or.inl rfl) (pe_meth (pv 0) T.clS mO GO (hr.mono (by decide)) bO .nil pass0 (pa_cons (pv 1) (pa_cons (pv 2) pa_nil))))
    (pss_cons (ps_expr (pe_call GN hr rfl T.gNeed T.kNeed bN .nil (passes_call (takes_of rfl rfl rfl rfl) (fun _ _ _ _ h => h))
      (pa_cons (pe_cmp (pc_notN (pv 3)) rfl) (pa_cons (pe_gi T.gNONE) pa_nil))))
    (pss_one (ps_ret (pe_callTy call_list_of (by rfl) T.list (by decide +kernel) (pa_cons (pv 3) pa_nil)))))), ?_⟩)
  · obtain ⟨B, z, k, i, rfl, _⟩ := h
    rfl
  · obtain ⟨B, z, k, i, rfl, J, W, hlen, h⟩ := h
    have J' := J
    obtain ⟨⟨dx, hI⟩, ⟨xs, hL, hR⟩⟩ := J'
    refine ⟨_, rfl, _, _, rfl, rfl, _, _, rfl, fun c1 => ?_, fun c1 => ?_⟩
    rotate_left
    · have := of_decide_eq_false c1
      exact h.refuse (congrArg Prod.snd (find_no (by omega))) (by decide)
    have c1 := of_decide_eq_true c1
    have k4 : ¬ 4 ≤ k := by omega
    refine ⟨_, rfl, B.a, dx, _, rfl, hI, by rfl, _, rfl, _, rfl, B, z, k, i, rfl, J, fun e0 H1 s1 => ?_, fun wh e0 r H1 rn s1 hr1 => ?_⟩
    · refine ⟨_, rfl, _, _, rfl, fun q => ?_, fun _ d H' s' hd => ?_⟩
      · rw [decN] at q
        cases q
      exact h.refuse (congrArg Prod.snd (find_none k4 e0)) (by decide) d H' (s1.trans s') hd
    · refine ⟨_, rfl, _, _, rfl, fun _ => ?_, fun q => ?_⟩
      rotate_left
      · rw [decR] at q
        cases q
      refine ⟨_, rfl, r, _, rfl, .inr (SqT.here hr1), fun l hl => ?_⟩
      refine h.answer (find_some k4 e0) (Int.natCast_nonneg _) l _ (s1.free hl) ?_ (J.same (same_upd_of s1 hl)) (Chg.of_same (same_upd_of s1 hl))
      rw [upd_same]
      rfl

/-! ### of_caller. Slots: self, caller, some -/
theorem scOf : FnScope ["self", "caller", "some"] ["self", "caller"] (defScope (sS 7)) := ⟨rfl, rfl, rfl, by decide +kernel, rfl, by decide +kernel, by decide +kernel⟩
theorem of_no {s : Shore} {k : Nat} (h : 4 ≤ k) : Km448.sDoes s (.sOf k) = (s, Km448.only (-2)) := by
  unfold Km448.sDoes
  dsimp only
  rw [if_pos (show Km448.CALLERS ≤ k from h)]
theorem of_yes {s : Shore} {k : Nat} (W : WFS s) (h : ¬ 4 ≤ k) : Km448.sDoes s (.sOf k) = (s, { value := (((hasL s k).length : Nat) : Int), out := [Km448.bits (hasL s k)] }) := by
  unfold Km448.sDoes
  dsimp only
  rw [if_neg (show ¬ Km448.CALLERS ≤ k from h), ofL_length W]
  rfl
theorem hasL_small (s : Shore) (k : Nat) : ∀ i ∈ hasL s k, i ≤ 1000 := fun i hi => by
  have := List.mem_range.mp (List.mem_filter.mp hi).1
  omega
theorem ok_of {f fN : Addr} {fd : FuncData} (F : Fun K "of_caller" "Shore.of_caller" (sS 7) f fd) (T : Txt K mg CR CC CS CD fRI fNeed fCon fIsC fTold fBits fOfC fOfS aNUM aROW) (mN : Meth K CS "numbers_of" fN) (GN : Can P w K mg base (L2.CX P w) 4 fN ["self", "caller"] (spNums CR CS))
    (GB : Can P w K mg base CX0 1 fBits ["numbers"] (spBits K)) :
    FnOk P w K mg base (L2.CX P w) 5 f fd ["self", "caller"] (spOf CR CS) := by
  obtain ⟨fdN, GN, bN⟩ := GN
  obtain ⟨fdB, GB, bB⟩ := GB
  refine F.okX scOf (fun vs H Q E h => ?_) (fun cdv A outer s H vs Q E hr h => ⟨_, pss_cons (ps_set (i := 2) scOf.nd rfl (Or.inl rfl) (pe_meth (pv 0) T.clS mN GN hr bN .nil (passes_call (takes_of rfl rfl rfl rfl) (fun _ _ _ _ h => h)) (pa_cons (pv 1) pa_nil)))
    (pss_one (ps_ret (pe_lst (pa_cons (pe_callB call_len_seq (by rfl) T.len PySem.boot_len (pa_cons (pv 2) pa_nil)) (pa_cons (pe_call GB (hr.mono (by decide)) rfl T.gBits T.kBits bB .nil pass0 (pa_cons (pv 2) pa_nil)) pa_nil))))), ?_⟩)
  · obtain ⟨B, z, k, rfl, _⟩ := h
    rfl
  · obtain ⟨B, z, k, rfl, J, W, hlen, h⟩ := h
    have J' := J
    obtain ⟨⟨dx, hI⟩, ⟨xs, hL, hR⟩⟩ := J'
    refine ⟨_, rfl, B.a, dx, _, rfl, hI, by rfl, _, rfl, B, z, k, rfl, J, W, hlen, fun k4 d H' s' hd => h.refuse (congrArg Prod.snd (of_no k4)) (by decide) d H' s' hd, fun k4 q H1 qn s1 hq => ?_⟩
    refine ⟨_, rfl, q, _, rfl, .inl (SqL.here hq), _, rfl, q, _, rfl, SqL.here hq, hasL_small z k, (by show 2 ≤ sizeLine; decide), fun l hl => ?_⟩
    refine h.answer (of_yes W (by omega)) (Int.natCast_nonneg _) l _ (s1.free hl) ?_ (J.same (same_upd_of s1 hl)) (Chg.of_same (same_upd_of s1 hl))
    rw [upd_same, vis_length]
    rfl

/-! ### state. Slots: self -/
theorem scSState : FnScope ["self"] ["self"] (defScope (sS 9)) := ⟨rfl, rfl, rfl, by decide +kernel, rfl, by decide +kernel, by decide +kernel⟩
theorem ok_sstate {f : Addr} {fd : FuncData} (F : Fun K "state" "Shore.state" (sS 9) f fd) (T : Txt K mg CR CC CS CD fRI fNeed fCon fIsC fTold fBits fOfC fOfS aNUM aROW) :
    FnOk P w K mg base CX0 1 f fd ["self"] (spSState CR CS) := by
  refine F.ok scSState (fun vs H Q E h => ?_) (fun cdv A outer s H vs Q E hr h => ⟨_, pss_one (ps_ret (pe_lst (pa_cons (pe_callB call_len_seq (by rfl) T.len PySem.boot_len (pa_cons (pe_fld (pv 0) rfl) pa_nil)) (pa_cons (pe_fld (pv 0) rfl) pa_nil)))), ?_⟩)
  · obtain ⟨B, z, rfl, _⟩ := h
    rfl
  · obtain ⟨B, z, rfl, J, W, hlen, h⟩ := h
    have J' := J
    obtain ⟨⟨dx, hI⟩, ⟨xs, hL, hR⟩⟩ := J'
    have hx : xs.length = z.log.length := by rw [hR.1, List.length_map]
    refine ⟨_, rfl, B.a, CS, dx, _, _, rfl, hI, T.clS, T.nKept, sF_kept z B, B.lk, xs, rfl, .inl (SqL.here hL), _, rfl, B.a, CS, dx, _, _, rfl, hI, T.clS, T.nAgain, sF_again z B, (by show 2 ≤ sizeLine; decide), fun l hl => ?_⟩
    refine h.answer (s' := z) (a := { value := ((z.log.length : Nat) : Int), out := [z.again] }) rfl (Int.natCast_nonneg _) l _ hl ?_ (J.same (same_upd hl)) (Chg.of_same (same_upd hl))
    rw [upd_same, hx]
    rfl
end
end CA

/-! # HSho3: a shore's answer_for, gaps -/
namespace CA
open PySem PySem.Spec PyProof.Rows L2
open Km448Neutral (nums)
open Km448 (Caller Shore What Heard)
open CM

def rLt : R2 := rI0 fun i j => .bl (decide (i < j))
def rLe : R2 := rI0 fun i j => .bl (decide (i ≤ j))
def rAdd : R2 := rI0 fun i j => .int (i + j)
def rSub : R2 := rI0 fun i j => .int (i - j)
theorem flat_vis : ∀ l : List Nat, (vis l).all flatV = true
  | [] => rfl
  | a :: l => flat_vis l
theorem inV_vis (n : Nat) : ∀ l : List Nat, inV (.int (n : Int)) (vis l) = decide (n ∈ l)
  | [] => by simp [inV, vis, Km448Neutral.nums]
  | a :: l => by
    have ih := inV_vis n l
    show (eqV (.int (a : Int)) (.int (n : Int)) || inV (.int (n : Int)) (vis l)) = _
    rw [ih]
    show (((a : Int) == (n : Int)) || decide (n ∈ l)) = _
    rw [Bool.eq_iff_iff]
    simp only [Bool.or_eq_true, beq_iff_eq, decide_eq_true_eq, List.mem_cons]
    constructor
    · rintro (h | h)
      · exact .inl (by omega)
      · exact .inr h
    · rintro (h | h)
      · exact .inl (by omega)
      · exact .inr h
/-- how far the while still has to go -/
def wLeft (σ : L2.St) (_ : Hp) : Nat := match σ[3]? with
  | some (some (L2.V.int w)) => (31 - w).toNat
  | _ => 0
theorem map_filter_more {p : Nat → Bool} {f : Nat → Nat} {l : List Nat} {i n : Nat} (h : l[i]? = some n) : ((l.take (i + 1)).filter p).map f = if p n = true then ((l.take i).filter p).map f ++ [f n] else ((l.take i).filter p).map f := by
  rw [filter_more h]
  split
  · rw [List.map_append]
    rfl
  · rfl

theorem ans_no {s : Shore} {k : Nat} (h : 4 ≤ k) : Km448.sDoes s (.sAnswer k) = (s, Km448.only (-2)) := by
  unfold Km448.sDoes
  dsimp only
  rw [if_pos (show Km448.CALLERS ≤ k from h)]
theorem ans_yes {s : Shore} {k : Nat} (h : ¬ 4 ≤ k) : Km448.sDoes s (.sAnswer k) = (s, { value := ((s.upto k : Nat) : Int), out := s.answer k }) := by
  unfold Km448.sDoes
  dsimp only
  rw [if_neg (show ¬ Km448.CALLERS ≤ k from h)]
theorem gaps_no {s : Shore} {k : Nat} (h : 4 ≤ k) : Km448.sDoes s (.sGaps k) = (s, Km448.only (-2)) := by
  unfold Km448.sDoes
  dsimp only
  rw [if_pos (show Km448.CALLERS ≤ k from h)]
theorem gaps_yes {s : Shore} {k : Nat} (W : WFS s) (h : ¬ 4 ≤ k) : Km448.sDoes s (.sGaps k) = (s, { value := (((missL s k).length : Nat) : Int), out := [Km448.bits (missL s k)] }) := by
  unfold Km448.sDoes
  dsimp only
  rw [if_neg (show ¬ Km448.CALLERS ≤ k from h)]
  have e := miss_length W k
  unfold topL at e
  rw [e]
  rfl

section
variable {P : Program} {w : World} {K : PySem.W.Frag} {mg : Str → Option Value} {base : Heap} {CR CC CS CD fRI fNeed fCon fIsC fTold fBits fOfC fOfS aNUM aROW : Addr}

/-! ### answer_for. Slots: self, caller, some, whole, bits; the comprehension's own: number -/
theorem scAns1 : FnScope ["self", "caller", "some", "whole", "bits", "number"] ["self", "caller"] (defScope (sS 4)) := ⟨rfl, rfl, rfl, by decide +kernel, rfl, by decide +kernel, by decide +kernel⟩
theorem ok_ans1 {f fN : Addr} {fd : FuncData} (F : Fun K "answer_for" "Shore.answer_for" (sS 4) f fd) (T : Txt K mg CR CC CS CD fRI fNeed fCon fIsC fTold fBits fOfC fOfS aNUM aROW) (mN : Meth K CS "numbers_of" fN) (GN : Can P w K mg base (L2.CX P w) 4 fN ["self", "caller"] (spNums CR CS))
    (GB : Can P w K mg base CX0 1 fBits ["numbers"] (spBits K)) :
    FnOk P w K mg base (L2.CX P w) 5 f fd ["self", "caller"] (spAns1 CR CS) := by
  obtain ⟨fdN, GN, bN⟩ := GN
  obtain ⟨fdB, GB, bB⟩ := GB
  refine F.okX scAns1 (fun vs H Q E h => ?_) (fun cdv A outer s H vs Q E hr h => ⟨_, pss_cons (ps_set (i := 2) scAns1.nd rfl (Or.inl rfl) (pe_meth (pv 0) T.clS mN GN hr bN .nil (passes_call (takes_of rfl rfl rfl rfl) (fun _ _ _ _ h => h)) (pa_cons (pv 1) pa_nil)))
    (pss_cons (ps_set (i := 3) scAns1.nd rfl (Or.inr rfl) pe_int)
    (pss_cons (ps_while (passes_of rfl) (pt_cmpR op_in_seq (pv 3) (pv 2) rfl) (pss_one (ps_aug (i := 3) scAns1.nd rfl (Or.inr rfl) pe_int ip_add)))
    (pss_cons (ps_set (i := 4) scAns1.nd rfl (Or.inl rfl) (pe_call GB (hr.mono (by decide)) rfl T.gBits T.kBits bB .nil pass0 (pa_cons
      (pe_lc (own := [("number", 5)]) (g := gName 5) (tt := tTest (tChain rLt rLe (tVar 3) (tVar 5) (tOp rAdd (tVar 3) (tC (.int 8))))) (te := tOp rSub (tOp rSub (tVar 5) (tVar 3)) (tC (.int 1))) rfl scAns1.nd
        (pi_list (pv 2)) (blkOk_by (own := [("number", 5)]) (N := ["self", "caller", "some", "whole", "bits", "number"]) (sc := defScope (sS 4)) (by decide +kernel)) (fun _ _ _ _ _ => pg_name (i := 5) scAns1.nd rfl (Or.inl rfl))
        (fun _ _ _ _ _ => by exact (pts_one (pt_chain op_lt op_le (pv 3) (pv 5) (pe_op op_add (pv 3) (pe_gi T.gBEHIND))))) (fun _ _ _ _ _ => by exact (pe_op op_sub (pe_op op_sub (pv 5) (pv 3)) pe_int))) pa_nil)))
    (pss_one (ps_ret (pe_lst (pa_cons (pv 3) (pa_cons (pe_gi T.gANSWER) (pa_cons (pv 1) (pa_cons (pv 3) (pa_cons (pv 4) (pa_cons pe_int (pa_cons pe_int pa_nil))))))))))))), ?_⟩)
  · obtain ⟨B, z, k, rfl, _⟩ := h
    rfl
  · obtain ⟨B, z, k, rfl, J, W, hlen, h⟩ := h
    have J' := J
    obtain ⟨⟨dx, hI⟩, ⟨xs, hL, hR⟩⟩ := J'
    refine ⟨_, rfl, B.a, dx, _, rfl, hI, by rfl, _, rfl, B, z, k, rfl, J, W, hlen, fun k4 d H' s' hd => h.refuse (congrArg Prod.snd (ans_no k4)) (by decide) d H' s' hd, fun k4 q H1 qn s1 hq => ?_⟩
    -- while whole in some
    refine while_by (fun σ H' => ∃ n : Nat, σ = [some (.ref B.a), some (.int (k : Int)), some (.ref q), some (.int (n : Int)), none, none] ∧ H' = H1 ∧ n ≤ 30 ∧ ∀ i, i < n → z.has k i = true) wLeft
      ⟨0, rfl, rfl, by omega, fun i hi => absurd hi (Nat.not_lt_zero _)⟩ ?_ ?_
    · rintro σ H' ⟨n, rfl, rfl, hn, hn2⟩
      refine ⟨_, rfl, _, rfl, q, _, rfl, .inl (SqL.here hq), rfl, flat_vis _, _, rfl, ?_⟩
      rw [if_neg Bool.false_ne_true, inV_vis]
      by_cases c : n ∈ hasL z k
      · rw [decide_eq_true c]
        have hc := (mem_hasL W).mp c
        have := has_lt W hc
        refine iteT ⟨_, rfl, _, _, rfl, rfl, ⟨n + 1, rfl, rfl, by omega, fun i hi => ?_⟩, ?_⟩
        · by_cases e : i = n
          · rw [e]; exact hc
          · exact hn2 i (by omega)
        · show (31 - ((n : Int) + 1)).toNat < (31 - (n : Int)).toNat
          omega
      · rw [decide_eq_false c]
        refine iteF ?_
        have hc : z.has k n = false := by
          cases e : z.has k n with
          | false => rfl
          | true => exact absurd ((mem_hasL W).mpr e) c
        have eu := upto_is W hc hn2
        -- bits
        refine ⟨_, rfl, q, rfl, ⟨_, SqL.here hq⟩, fun D hD => ?_⟩
        have qD : q ≠ D := ne_new hq hD
        refine lc_list (K := K) (a := q) (xs := vis (hasL z k)) (fun i H2 => H2 = upd H' D (.lst (vis ((((hasL z k).take i).filter fun j => decide (n < j) && decide (j ≤ n + 8)).map fun j => j - n - 1)))) rfl (fun i H' _ e => by rw [e]; exact SqL.here (upd_get qD hq)) (fun i y H2 hi e => ?_) (fun H2 e => ?_)
        · subst e
          obtain ⟨j, hj, rfl⟩ := vis_get hi
          refine ⟨rfl, _, rfl, _, rfl, _, _, rfl, rfl, _, rfl, ?_⟩
          rw [map_filter_more hj]
          have e1 : decide ((n : Int) < (j : Int)) = decide (n < j) := decide_eq_decide.mpr (by omega)
          rw [e1]
          by_cases c1 : n < j
          rotate_left
          · rw [decide_eq_false c1]
            exact iteF ⟨_, rfl, iteF rfl⟩
          rw [decide_eq_true c1]
          refine iteT ⟨_, rfl, _, _, rfl, rfl, _, _, rfl, rfl, _, rfl, ?_⟩
          have e2 : decide ((j : Int) ≤ (n : Int) + 8) = decide (j ≤ n + 8) := decide_eq_decide.mpr (by omega)
          rw [e2]
          cases c2 : decide (j ≤ n + 8) with
          | false => exact iteF rfl
          | true =>
            refine iteT ⟨_, rfl, _, rfl, _, _, rfl, rfl, _, _, rfl, rfl, _, upd_same, ?_, ?_⟩
            · rw [vis_length, List.length_map]
              have h1 := filter_take_le (fun j => decide (n < j) && decide (j ≤ n + 8)) (hasL z k) i
              have h2 := hasL_length z k
              exact ltLine (by omega)
            · rw [upd_upd, if_pos (show (true && true) = true from rfl), vis_append]
              have e3 : ((j : Int) - (n : Int)) - 1 = ((j - n - 1 : Nat) : Int) := by omega
              show upd H' D (.lst (_ ++ [.int (((j : Int) - (n : Int)) - 1)])) = _
              rw [e3]
              rfl
        · subst e
          rw [vis_length, List.take_length]
          refine ⟨D, _, rfl, SqL.here upd_same, fun i hi => ?_, ?_⟩
          · obtain ⟨j, hj, rfl⟩ := List.mem_map.mp hi
            have := hasL_small z k j (List.mem_filter.mp hj).1
            omega
          have ea : Km448.bits (((hasL z k).filter fun j => decide (n < j) && decide (j ≤ n + 8)).map fun j => j - n - 1) = z.above k := by
            rw [above_is W, eu]
          rw [ea]
          refine ⟨_, rfl, _, rfl, _, rfl, _, rfl, (by show 7 ≤ sizeLine; decide), fun l hl => ?_⟩
          have s2 : Same H _ := same_upd_of (o := .lst (vis (((hasL z k).filter fun j => decide (n < j) && decide (j ≤ n + 8)).map fun j => j - n - 1))) s1 hD
          refine h.answer (ans_yes (by omega)) (Int.natCast_nonneg _) l _ (s2.free hl) ?_ (J.same (same_upd_of s2 hl)) (Chg.of_same (same_upd_of s2 hl))
          rw [upd_same]
          unfold Shore.answer
          rw [eu]
          rfl
    · rintro σ H' Q1 Q2 hQ ⟨v, e1, v2, e2, p, ys, e3, e4, e5, e6, b, e7, e8⟩
      exact ⟨v, e1, v2, e2, p, ys, e3, e4, e5, e6, b, e7, hQ _ _ e8⟩

/-! ### gaps. Slots: self, caller, some, last, missing; the comprehension's own: number -/
theorem scGaps : FnScope ["self", "caller", "some", "last", "missing", "number"] ["self", "caller"] (defScope (sS 8)) := ⟨rfl, rfl, rfl, by decide +kernel, rfl, by decide +kernel, by decide +kernel⟩
theorem filter_range_more (p : Nat → Bool) (i : Nat) : (List.range (i + 1)).filter p = if p i = true then (List.range i).filter p ++ [i] else (List.range i).filter p := by
  rw [List.range_succ, List.filter_append]
  cases h : p i with
  | true =>
    rw [if_pos rfl, List.filter_cons, h]
    simp
  | false =>
    rw [List.filter_cons, h]
    simp
theorem ok_gaps {f fN : Addr} {fd : FuncData} (F : Fun K "gaps" "Shore.gaps" (sS 8) f fd) (T : Txt K mg CR CC CS CD fRI fNeed fCon fIsC fTold fBits fOfC fOfS aNUM aROW) (mN : Meth K CS "numbers_of" fN) (GN : Can P w K mg base (L2.CX P w) 4 fN ["self", "caller"] (spNums CR CS))
    (GB : Can P w K mg base CX0 1 fBits ["numbers"] (spBits K)) :
    FnOk P w K mg base (L2.CX P w) 5 f fd ["self", "caller"] (spGaps CR CS) := by
  obtain ⟨fdN, GN, bN⟩ := GN
  obtain ⟨fdB, GB, bB⟩ := GB
  refine F.okX scGaps (fun vs H Q E h => ?_) (fun cdv A outer s H vs Q E hr h => ⟨_, pss_cons (ps_set (i := 2) scGaps.nd rfl (Or.inr rfl) (pe_meth (pv 0) T.clS mN GN hr bN .nil (passes_call (takes_of rfl rfl rfl rfl) (fun _ _ _ _ h => h)) (pa_cons (pv 1) pa_nil)))
    (pss_cons (ps_set (i := 3) scGaps.nd rfl (Or.inr rfl) (pe_callB (cr_max rfl) (by rfl) T.max (by decide +kernel) (pa_cons (pe_op op_cat (pe_lst (pa_cons (pe_un un_neg pe_int) pa_nil)) (pv 2)) pa_nil)))
    (pss_cons (ps_setLc (i := 4) (own := [("number", 5)]) (g := gName 5) (tt := tAnd (tTest (tOp rLt (tVar 5) (tVar 3))) (tTest (tOp (rIn K true) (tVar 5) (tVar 2)))) (te := tVar 5) rfl scGaps.nd rfl rfl (sw_true rfl rfl rfl (by decide +kernel))
      (pi_range1 rfl T.range (pa_cons (pe_gi T.gMCALLS) pa_nil)) (blkOk_by (own := [("number", 5)]) (N := ["self", "caller", "some", "last", "missing", "number"]) (sc := defScope (sS 8)) (by decide +kernel)) (fun _ _ _ _ _ => pg_name (i := 5) scGaps.nd rfl (Or.inl rfl))
      (fun _ _ _ _ _ => by exact (pts_one (PW.pt (pw_and (pt_cmpR op_lt (pv 5) (pv 3) (nomark _)) (pw_and1 (pt_cmpR op_notIn_seq (pv 5) (pv 2) rfl)))))) (fun _ _ _ _ _ => by exact (pv 5)))
    (pss_one (ps_ret (pe_lst (pa_cons (pe_callB call_len_seq (by rfl) T.len PySem.boot_len (pa_cons (pv 4) pa_nil)) (pa_cons (pe_call GB (hr.mono (by decide)) rfl T.gBits T.kBits bB .nil pass0 (pa_cons (pv 4) pa_nil)) pa_nil))))))), ?_⟩)
  · obtain ⟨B, z, k, rfl, _⟩ := h
    rfl
  · obtain ⟨B, z, k, rfl, J, W, hlen, h⟩ := h
    have J' := J
    obtain ⟨⟨dx, hI⟩, ⟨xs, hL, hR⟩⟩ := J'
    refine ⟨_, rfl, B.a, dx, _, rfl, hI, by rfl, _, rfl, B, z, k, rfl, J, W, hlen, fun k4 d H' s' hd => h.refuse (congrArg Prod.snd (gaps_no k4)) (by decide) d H' s' hd, fun k4 q H1 qn s1 hq => ?_⟩
    -- last = max([-1] + some)
    refine ⟨_, rfl, (by show 1 ≤ sizeLine; decide), fun e he => ?_⟩
    have qe : q ≠ e := ne_new hq he
    refine ⟨_, rfl, e, q, _, _, rfl, rfl, upd_same, upd_get qe hq, ?_, fun r hr' => ?_⟩
    · rw [vis_length]
      have := hasL_length z k
      show 1 + _ ≤ _
      exact leLine (by omega)
    have s2 : Same H _ := same_upd_of (o := .lst ([.int (-1)] ++ vis (hasL z k))) (same_upd_of (o := .lst [.int (-1)]) s1 he) hr'
    have hq2 : upd (upd H1 e (.lst [.int (-1)])) r (.lst ([.int (-1)] ++ vis (hasL z k))) q = some (.lst (vis (hasL z k))) := upd_get (ne_new (upd_get qe hq) hr') (upd_get qe hq)
    refine ⟨r, (-1) :: nums (hasL z k), rfl, SqL.here upd_same, by show 0 < _; exact Nat.succ_pos _, fun m hm hl => ?_⟩
    have em := max_top W hm hl
    subst em
    obtain ⟨H2, eH2⟩ : ∃ H2 : Hp, H2 = upd (upd H1 e (.lst [.int (-1)])) r (.lst ([.int (-1)] ++ vis (hasL z k))) := ⟨_, rfl⟩
    rw [← eH2] at s2 hq2
    -- missing
    refine ⟨30, rfl, by decide, by decide, fun D hD => ?_⟩
    have hD : H2 D = none := by rw [eH2]; exact hD
    have qD : q ≠ D := ne_new hq2 hD
    refine lc_range (lo := 0) (n := 30) (fun i H' => H' = upd H2 D (.lst (vis ((List.range i).filter fun n : Nat => decide ((n : Int) < (topL z k : Int) - 1) && !decide (n ∈ hasL z k))))) (by rw [eH2]; rfl) (fun i H' hi e => ?_) (fun H' e => ?_)
    · subst e
      rw [show (0 : Int) + (i : Int) = (i : Int) by omega]
      refine ⟨rfl, _, rfl, _, rfl, _, _, rfl, rfl, _, rfl, ?_⟩
      rw [filter_range_more]
      cases c1 : decide ((i : Int) < (topL z k : Int) - 1) with
      | false => exact iteF (iteF rfl)
      | true =>
        refine iteT ⟨_, rfl, _, rfl, q, _, rfl, .inl (SqL.here (upd_get qD hq2)), rfl, flat_vis _, _, rfl, ?_⟩
        rw [if_pos rfl, inV_vis]
        cases c2 : decide (i ∈ hasL z k) with
        | true => exact iteF rfl
        | false =>
          refine iteT ⟨_, rfl, _, upd_same, ?_, ?_⟩
          · rw [vis_length]
            have := filter_range_le (fun n : Nat => decide ((n : Int) < (topL z k : Int) - 1) && !decide (n ∈ hasL z k)) i
            exact ltLine (by omega)
          · rw [upd_upd, if_pos (show (true && !false) = true from rfl), vis_append]
            rfl
    · subst e
      rw [miss_is W]
      have ml : ∀ i ∈ missL z k, i ≤ 1000 := fun i hi => by
        have := List.mem_range.mp (List.mem_filter.mp hi).1
        have := top_le W k
        omega
      refine ⟨_, rfl, D, _, rfl, .inl (SqL.here upd_same), _, rfl, D, _, rfl, SqL.here upd_same, ml, (by show 2 ≤ sizeLine; decide), fun l hl => ?_⟩
      have s3 := same_upd_of (o := .lst (vis (missL z k))) s2 hD
      refine h.answer (gaps_yes W (by omega)) (Int.natCast_nonneg _) l _ (s3.free hl) ?_ (J.same (same_upd_of s3 hl)) (Chg.of_same (same_upd_of s3 hl))
      rw [upd_same, vis_length]
      rfl
end
end CA

/-! # HRad1: of_caller, of_shore -/
namespace CA
open PySem PySem.Spec PyProof.Rows L2
open Km448Neutral (nums)
open Km448 (Caller Shore What Heard)
open CM

theorem passA {X : Cx} {E : XK} : Passes CX0 X E := fun _ _ _ _ _ _ _ h => h.elim
theorem len6 {l : List Nat} (h : l.length = 6) : ∃ a b c d e f, l = [a, b, c, d, e, f] := by
  match l, h with
  | [a, b, c, d, e, f], _ => exact ⟨a, b, c, d, e, f, rfl⟩
theorem iteEqN {A B : Prop} {w : Nat} (j : Nat) {z : Int} (hz : z = (j : Int)) (h1 : w = j → A) (h2 : w ≠ j → B) : if decide (V.int (w : Int) = V.int z) = true then A else B := by
  subst hz
  by_cases e : w = j
  · rw [if_pos (decide_eq_true (by rw [e]))]
    exact h1 e
  · rw [if_neg (by rw [decide_eq_false (fun q => e (by have := V.int.inj q; omega))]; decide)]
    exact h2 e
/-- a method that may be called -/
def MCan (P : Program) (w : World) (K : PySem.W.Frag) (mg : Str → Option Value) (base : Heap) (CX : CXT) (k : Nat) (C : Addr) (m : Str) (ps : List Str) (sp : Sp) : Prop := ∃ f, Meth K C m f ∧ Can P w K mg base CX k f ps sp
/-- what of_caller is handed -/
def spOfC (K : PySem.W.Frag) (CR C : Addr) : Sp := fun vs H Q E => ∃ (A : Ad) (c : Caller) (w : Nat) (pn pr : Addr) (ns row : List Nat), vs = [.ref A.a, .int (w : Int), .ref pn, .ref pr] ∧ 1 ≤ w ∧ w ≤ 8 ∧ ns.length = NUMB.getD w 0 ∧ (hasRow w = true → row.length = 6) ∧
  SqL K H pn (vis ns) ∧ SqL K H pr (vis row) ∧ CAt C H A c ∧ WF c ∧ CEnd CR C H A c (theCall w ns row) Q E
def spOfS (K : PySem.W.Frag) (CR C : Addr) : Sp := fun vs H Q E => ∃ (B : Sd) (s : Shore) (w : Nat) (pn pr : Addr) (ns row : List Nat), vs = [.ref B.a, .int (w : Int), .ref pn, .ref pr] ∧ 10 ≤ w ∧ w ≤ 16 ∧ ns.length = NUMB.getD w 0 ∧ (hasRow w = true → row.length = 6) ∧
  SqL K H pn (vis ns) ∧ SqL K H pr (vis row) ∧ SAt C H B s ∧ WFS s ∧ s.log.length ≤ 1000 ∧ SEnd CR C H B s (theCall w ns row) Q E

section
variable {P : Program} {w : World} {K : PySem.W.Frag} {mg : Str → Option Value} {base : Heap} {CR CC CS CD fRI fNeed fCon fIsC fTold fBits fOfC fOfS aNUM aROW : Addr}

/-! ### of_caller. Slots: caller, word, numbers, row -/
theorem scOfC : FnScope ["caller", "word", "numbers", "row"] ["caller", "word", "numbers", "row"] (defScope sOfCaller) := ⟨rfl, rfl, rfl, by decide +kernel, rfl, by decide +kernel, by decide +kernel⟩
theorem ok_ofc {f : Addr} {fd : FuncData} (F : Fun K "of_caller" "of_caller" sOfCaller f fd) (T : Txt K mg CR CC CS CD fRI fNeed fCon fIsC fTold fBits fOfC fOfS aNUM aROW)
    (M1 : MCan P w K mg base (L2.CX P w) 4 CC "say" ["self", "kind", "x", "y"] (spSay CR CC)) (M2 : MCan P w K mg base (L2.CX P w) 5 CC "tell" ["self"] (spTell CR CC)) (M3 : MCan P w K mg base (L2.CX P w) 5 CC "hear" ["self", "message"] (spHear K CR CC))
    (M4 : MCan P w K mg base (L2.CX P w) 4 CC "known" ["self", "number"] (spKnown CR CC)) (M5 : MCan P w K mg base CX0 2 CC "still_open" ["self"] (spStill CR CC)) (M6 : MCan P w K mg base (L2.CX P w) 4 CC "said" ["self", "number"] (spSaid CR CC))
    (M7 : MCan P w K mg base (L2.CX P w) 5 CC "would" ["self", "message"] (spWould K CR CC)) (M8 : MCan P w K mg base CX0 1 CC "state" ["self"] (spState CR CC)) :
    FnOk P w K mg base (L2.CX P w) 6 f fd ["caller", "word", "numbers", "row"] (spOfC K CR CC) := by
  obtain ⟨f1, m1, fd1, G1, b1⟩ := M1
  obtain ⟨f2, m2, fd2, G2, b2⟩ := M2
  obtain ⟨f3, m3, fd3, G3, b3⟩ := M3
  obtain ⟨f4, m4, fd4, G4, b4⟩ := M4
  obtain ⟨f5, m5, fd5, G5, b5⟩ := M5
  obtain ⟨f6, m6, fd6, G6, b6⟩ := M6
  obtain ⟨f7, m7, fd7, G7, b7⟩ := M7
  obtain ⟨f8, m8, fd8, G8, b8⟩ := M8
  refine F.okX scOfC (fun vs H Q E h => ?_) (fun cdv A outer s H vs Q E hr h => ⟨_, pss_cons (ps_if (pt_cmpR op_eq (pv 1) pe_int (nomark _)) (pss_one (ps_ret (pe_meth (pv 0) T.clC m1 G1 (hr.mono (by decide)) b1 .nil (passes_call (takes_of rfl rfl rfl rfl) (fun _ _ _ _ h => h))
        (pa_cons (pe_ix ix_list (pv 2) pe_int (fun _ _ => rfl)) (pa_cons (pe_ix ix_list (pv 2) pe_int (fun _ _ => rfl)) (pa_cons (pe_ix ix_list (pv 2) pe_int (fun _ _ => rfl)) pa_nil)))))) pss_nil)
    (pss_cons (ps_if (pt_cmpR op_eq (pv 1) pe_int (nomark _)) (pss_one (ps_ret (pe_meth0 (pv 0) T.clC m2 G2 hr b2 .nil (passes_call (takes_of rfl rfl rfl rfl) (fun _ _ _ _ h => h))))) pss_nil)
    (pss_cons (ps_if (pt_cmpR op_eq (pv 1) pe_int (nomark _)) (pss_one (ps_ret (pe_meth (pv 0) T.clC m3 G3 hr b3 .nil (passes_call (takes_of rfl rfl rfl rfl) (fun _ _ _ _ h => h)) (pa_cons (pv 3) pa_nil)))) pss_nil)
    (pss_cons (ps_if (pt_cmpR op_eq (pv 1) pe_int (nomark _)) (pss_one (ps_ret (pe_meth (pv 0) T.clC m4 G4 (hr.mono (by decide)) b4 .nil (passes_call (takes_of rfl rfl rfl rfl) (fun _ _ _ _ h => h)) (pa_cons (pe_ix ix_list (pv 2) pe_int (fun _ _ => rfl)) pa_nil)))) pss_nil)
    (pss_cons (ps_if (pt_cmpR op_eq (pv 1) pe_int (nomark _)) (pss_one (ps_ret (pe_meth0 (pv 0) T.clC m5 G5 (hr.mono (by decide)) b5 .nil (passA (E := E))))) pss_nil)
    (pss_cons (ps_if (pt_cmpR op_eq (pv 1) pe_int (nomark _)) (pss_one (ps_ret (pe_meth (pv 0) T.clC m6 G6 (hr.mono (by decide)) b6 .nil (passes_call (takes_of rfl rfl rfl rfl) (fun _ _ _ _ h => h)) (pa_cons (pe_ix ix_list (pv 2) pe_int (fun _ _ => rfl)) pa_nil)))) pss_nil)
    (pss_cons (ps_if (pt_cmpR op_eq (pv 1) pe_int (nomark _)) (pss_one (ps_ret (pe_meth (pv 0) T.clC m7 G7 hr b7 .nil (passes_call (takes_of rfl rfl rfl rfl) (fun _ _ _ _ h => h)) (pa_cons (pv 3) pa_nil)))) pss_nil)
    (pss_one (ps_ret (pe_meth0 (pv 0) T.clC m8 G8 (hr.mono (by decide)) b8 .nil (passA (E := E))))))))))), ?_⟩)
  · obtain ⟨A, c, n, pn, pr, ns, row, rfl, _⟩ := h
    rfl
  · obtain ⟨A, c, n, pn, pr, ns, row, rfl, n1, n8, hn, hrow, hN, hW, J, W, h⟩ := h
    obtain ⟨dx, hI⟩ := J.ins
    refine ⟨_, rfl, rfl, _, rfl, iteEqN 1 rfl (fun e => ?_) (fun n1' => ?_)⟩
    · subst e
      obtain ⟨a, b, d, rfl⟩ := len3 hn
      exact ⟨_, rfl, A.a, dx, _, rfl, hI, by rfl, _, rfl, pn, _, ((0 : Nat) : Int), .int (a : Int), rfl, rfl, hN, atI_nat rfl, _, rfl, pn, _, ((1 : Nat) : Int), .int (b : Int), rfl, rfl, hN, atI_nat rfl, _, rfl, pn, _, ((2 : Nat) : Int), .int (d : Int), rfl, rfl, hN, atI_nat rfl,
        A, c, a, b, d, rfl, J, W, h⟩
    refine ⟨_, rfl, rfl, _, rfl, iteEqN 2 rfl (fun e => ?_) (fun n2' => ?_)⟩
    · subst e
      exact ⟨_, rfl, A.a, dx, _, rfl, hI, by rfl, A, c, rfl, J, W, h⟩
    refine ⟨_, rfl, rfl, _, rfl, iteEqN 3 rfl (fun e => ?_) (fun n3' => ?_)⟩
    · subst e
      obtain ⟨a1, a2, a3, a4, a5, a6, rfl⟩ := len6 (hrow rfl)
      exact ⟨_, rfl, A.a, dx, _, rfl, hI, by rfl, _, rfl, A, c, pr, a1, a2, a3, a4, a5, a6, rfl, hW, J, W, h⟩
    refine ⟨_, rfl, rfl, _, rfl, iteEqN 4 rfl (fun e => ?_) (fun n4' => ?_)⟩
    · subst e
      obtain ⟨a, rfl⟩ := len1 hn
      exact ⟨_, rfl, A.a, dx, _, rfl, hI, by rfl, _, rfl, pn, _, ((0 : Nat) : Int), .int (a : Int), rfl, rfl, hN, atI_nat rfl, A, c, a, rfl, J, W, h⟩
    refine ⟨_, rfl, rfl, _, rfl, iteEqN 5 rfl (fun e => ?_) (fun n5' => ?_)⟩
    · subst e
      exact ⟨_, rfl, A.a, dx, _, rfl, hI, by rfl, A, c, rfl, J, W, h⟩
    refine ⟨_, rfl, rfl, _, rfl, iteEqN 6 rfl (fun e => ?_) (fun n6' => ?_)⟩
    · subst e
      obtain ⟨a, rfl⟩ := len1 hn
      exact ⟨_, rfl, A.a, dx, _, rfl, hI, by rfl, _, rfl, pn, _, ((0 : Nat) : Int), .int (a : Int), rfl, rfl, hN, atI_nat rfl, A, c, a, rfl, J, W, h⟩
    refine ⟨_, rfl, rfl, _, rfl, iteEqN 7 rfl (fun e => ?_) (fun n7' => ?_)⟩
    · subst e
      obtain ⟨a1, a2, a3, a4, a5, a6, rfl⟩ := len6 (hrow rfl)
      exact ⟨_, rfl, A.a, dx, _, rfl, hI, by rfl, _, rfl, A, c, pr, a1, a2, a3, a4, a5, a6, rfl, hW, J, W, h⟩
    have e : n = 8 := by omega
    subst e
    exact ⟨_, rfl, A.a, dx, _, rfl, hI, by rfl, A, c, rfl, J, W, h⟩

/-! ### of_shore. Slots: shore, word, numbers, row -/
theorem scOfS : FnScope ["shore", "word", "numbers", "row"] ["shore", "word", "numbers", "row"] (defScope sOfShore) := ⟨rfl, rfl, rfl, by decide +kernel, rfl, by decide +kernel, by decide +kernel⟩
theorem ok_ofs {f : Addr} {fd : FuncData} (F : Fun K "of_shore" "of_shore" sOfShore f fd) (T : Txt K mg CR CC CS CD fRI fNeed fCon fIsC fTold fBits fOfC fOfS aNUM aROW)
    (M1 : MCan P w K mg base (L2.CX P w) 4 CS "hear" ["self", "message"] (spSHear K CR CS)) (M2 : MCan P w K mg base (L2.CX P w) 5 CS "answer_for" ["self", "caller"] (spAns1 CR CS)) (M3 : MCan P w K mg base (L2.CX P w) 4 CS "get" ["self", "at"] (spGet CR CS))
    (M4 : MCan P w K mg base (L2.CX P w) 4 CS "find" ["self", "caller", "number"] (spFind CR CS)) (M5 : MCan P w K mg base (L2.CX P w) 5 CS "of_caller" ["self", "caller"] (spOf CR CS)) (M6 : MCan P w K mg base (L2.CX P w) 5 CS "gaps" ["self", "caller"] (spGaps CR CS))
    (M7 : MCan P w K mg base CX0 1 CS "state" ["self"] (spSState CR CS)) :
    FnOk P w K mg base (L2.CX P w) 6 f fd ["shore", "word", "numbers", "row"] (spOfS K CR CS) := by
  obtain ⟨f1, m1, fd1, G1, b1⟩ := M1
  obtain ⟨f2, m2, fd2, G2, b2⟩ := M2
  obtain ⟨f3, m3, fd3, G3, b3⟩ := M3
  obtain ⟨f4, m4, fd4, G4, b4⟩ := M4
  obtain ⟨f5, m5, fd5, G5, b5⟩ := M5
  obtain ⟨f6, m6, fd6, G6, b6⟩ := M6
  obtain ⟨f7, m7, fd7, G7, b7⟩ := M7
  refine F.okX scOfS (fun vs H Q E h => ?_) (fun cdv A outer s H vs Q E hr h => ⟨_, pss_cons (ps_if (pt_cmpR op_eq (pv 1) pe_int (nomark _)) (pss_one (ps_ret (pe_meth (pv 0) T.clS m1 G1 (hr.mono (by decide)) b1 .nil (passes_call (takes_of rfl rfl rfl rfl) (fun _ _ _ _ h => h)) (pa_cons (pv 3) pa_nil)))) pss_nil)
    (pss_cons (ps_if (pt_cmpR op_eq (pv 1) pe_int (nomark _)) (pss_one (ps_ret (pe_meth (pv 0) T.clS m2 G2 hr b2 .nil (passes_call (takes_of rfl rfl rfl rfl) (fun _ _ _ _ h => h)) (pa_cons (pe_ix ix_list (pv 2) pe_int (fun _ _ => rfl)) pa_nil)))) pss_nil)
    (pss_cons (ps_if (pt_cmpR op_eq (pv 1) pe_int (nomark _)) (pss_one (ps_ret (pe_meth (pv 0) T.clS m3 G3 (hr.mono (by decide)) b3 .nil (passes_call (takes_of rfl rfl rfl rfl) (fun _ _ _ _ h => h)) (pa_cons (pe_ix ix_list (pv 2) pe_int (fun _ _ => rfl)) pa_nil)))) pss_nil)
    (pss_cons (ps_if (pt_cmpR op_eq (pv 1) pe_int (nomark _)) (pss_one (ps_ret (pe_meth (pv 0) T.clS m4 G4 (hr.mono (by decide)) b4 .nil (passes_call (takes_of rfl rfl rfl rfl) (fun _ _ _ _ h => h)) (pa_cons (pe_ix ix_list (pv 2) pe_int (fun _ _ => rfl)) (pa_cons (pe_ix ix_list (pv 2) pe_int (fun _ _ => rfl)) pa_nil))))) pss_nil)
    (pss_cons (ps_if (pt_cmpR op_eq (pv 1) pe_int (nomark _)) (pss_one (ps_ret (pe_meth (pv 0) T.clS m5 G5 hr b5 .nil (passes_call (takes_of rfl rfl rfl rfl) (fun _ _ _ _ h => h)) (pa_cons (pe_ix ix_list (pv 2) pe_int (fun _ _ => rfl)) pa_nil)))) pss_nil)
    (pss_cons (ps_if (pt_cmpR op_eq (pv 1) pe_int (nomark _)) (pss_one (ps_ret (pe_meth (pv 0) T.clS m6 G6 hr b6 .nil (passes_call (takes_of rfl rfl rfl rfl) (fun _ _ _ _ h => h)) (pa_cons (pe_ix ix_list (pv 2) pe_int (fun _ _ => rfl)) pa_nil)))) pss_nil)
    (pss_one (ps_ret (pe_meth0 (pv 0) T.clS m7 G7 (hr.mono (by decide)) b7 .nil (passA (E := E)))))))))), ?_⟩)
  · obtain ⟨B, z, n, pn, pr, ns, row, rfl, _⟩ := h
    rfl
  · obtain ⟨B, z, n, pn, pr, ns, row, rfl, n1, n8, hn, hrow, hN, hW, J, W, hlen, h⟩ := h
    obtain ⟨dx, hI⟩ := J.ins
    refine ⟨_, rfl, rfl, _, rfl, iteEqN 10 rfl (fun e => ?_) (fun n1' => ?_)⟩
    · subst e
      obtain ⟨a1, a2, a3, a4, a5, a6, rfl⟩ := len6 (hrow rfl)
      exact ⟨_, rfl, B.a, dx, _, rfl, hI, by rfl, _, rfl, B, z, pr, a1, a2, a3, a4, a5, a6, rfl, hW, J, hlen, h⟩
    refine ⟨_, rfl, rfl, _, rfl, iteEqN 11 rfl (fun e => ?_) (fun n2' => ?_)⟩
    · subst e
      obtain ⟨a, rfl⟩ := len1 hn
      exact ⟨_, rfl, B.a, dx, _, rfl, hI, by rfl, _, rfl, pn, _, ((0 : Nat) : Int), .int (a : Int), rfl, rfl, hN, atI_nat rfl, B, z, a, rfl, J, W, hlen, h⟩
    refine ⟨_, rfl, rfl, _, rfl, iteEqN 12 rfl (fun e => ?_) (fun n3' => ?_)⟩
    · subst e
      obtain ⟨a, rfl⟩ := len1 hn
      exact ⟨_, rfl, B.a, dx, _, rfl, hI, by rfl, _, rfl, pn, _, ((0 : Nat) : Int), .int (a : Int), rfl, rfl, hN, atI_nat rfl, B, z, a, rfl, J, W, hlen, h⟩
    refine ⟨_, rfl, rfl, _, rfl, iteEqN 13 rfl (fun e => ?_) (fun n4' => ?_)⟩
    · subst e
      obtain ⟨a, b, rfl⟩ := len2 hn
      exact ⟨_, rfl, B.a, dx, _, rfl, hI, by rfl, _, rfl, pn, _, ((0 : Nat) : Int), .int (a : Int), rfl, rfl, hN, atI_nat rfl, _, rfl, pn, _, ((1 : Nat) : Int), .int (b : Int), rfl, rfl, hN, atI_nat rfl, B, z, a, b, rfl, J, W, hlen, h⟩
    refine ⟨_, rfl, rfl, _, rfl, iteEqN 14 rfl (fun e => ?_) (fun n5' => ?_)⟩
    · subst e
      obtain ⟨a, rfl⟩ := len1 hn
      exact ⟨_, rfl, B.a, dx, _, rfl, hI, by rfl, _, rfl, pn, _, ((0 : Nat) : Int), .int (a : Int), rfl, rfl, hN, atI_nat rfl, B, z, a, rfl, J, W, hlen, h⟩
    refine ⟨_, rfl, rfl, _, rfl, iteEqN 15 rfl (fun e => ?_) (fun n6' => ?_)⟩
    · subst e
      obtain ⟨a, rfl⟩ := len1 hn
      exact ⟨_, rfl, B.a, dx, _, rfl, hI, by rfl, _, rfl, pn, _, ((0 : Nat) : Int), .int (a : Int), rfl, rfl, hN, atI_nat rfl, B, z, a, rfl, J, W, hlen, h⟩
    have e : n = 16 := by omega
    subst e
    exact ⟨_, rfl, B.a, dx, _, rfl, hI, by rfl, B, z, rfl, J, W, hlen, h⟩
end
end CA

/-! # HRad2: the desk in the heap; its __init__, its call -/
namespace CA
open PySem PySem.Spec PyProof.Rows L2
open Km448Neutral (nums)
open Km448 (Caller Shore What Heard)
open CM

/-! ### the desk in the heap -/
structure Dd where
  d : Addr
  cs : Addr
  A : Nat → Ad
  B : Sd
def dF (D : Dd) : List (Str × V) := [("callers", .ref D.cs), ("shore", .ref D.B.a)]
def Foot (D : Dd) (x : Addr) : Prop := x = D.d ∨ x = D.cs ∨ x ∈ D.B.own ∨ ∃ k, k < 3 ∧ x ∈ (D.A k).own
/-- whose an address is: told by a number -/
def Lab (D : Dd) (f : Addr → Nat) : Prop := f D.d = 5 ∧ f D.cs = 5 ∧ (∀ x ∈ D.B.own, f x = 4) ∧ ∀ k, k < 3 → ∀ x ∈ (D.A k).own, f x = k
structure DAt (CD CC CS : Addr) (H : Hp) (D : Dd) (m : MS) (s : Shore) : Prop where
  ins : ∃ dx, H D.d = some (.ins CD dx (dF D))
  cs : H D.cs = some (.lst [.ref (D.A 0).a, .ref (D.A 1).a, .ref (D.A 2).a])
  cal : ∀ k, k < 3 → CAt CC H (D.A k) (m k)
  sho : SAt CS H D.B s
  lab : ∃ f, Lab D f
theorem mem_own {A : Ad} {x : Addr} (h : x ∈ A.own) : x = A.a ∨ x = A.lc ∨ x = A.lh := by
  unfold Ad.own at h
  simpa using h
theorem mem_sown {B : Sd} {x : Addr} (h : x ∈ B.own) : x = B.a ∨ x = B.lk := by
  unfold Sd.own at h
  simpa using h
def NoTup (o : HO) : Prop := ∀ r, o ≠ .tup r
theorem CAt.there {C : Addr} {H : Hp} {A : Ad} {c : Caller} (J : CAt C H A c) {x : Addr} (h : x ∈ A.own) : ∃ o, H x = some o ∧ NoTup o := by
  obtain ⟨⟨dx, h1⟩, ⟨xs, h2, h3⟩, h4, h5⟩ := J
  rcases mem_own h with rfl | rfl | rfl
  · exact ⟨_, h1, fun r => by intro e; cases e⟩
  · exact ⟨_, h2, fun r => by intro e; cases e⟩
  · exact ⟨_, h4, fun r => by intro e; cases e⟩
theorem SAt.there {C : Addr} {H : Hp} {B : Sd} {s : Shore} (J : SAt C H B s) {x : Addr} (h : x ∈ B.own) : ∃ o, H x = some o ∧ NoTup o := by
  obtain ⟨⟨dx, h1⟩, ⟨xs, h2, h3⟩⟩ := J
  rcases mem_sown h with rfl | rfl
  · exact ⟨_, h1, fun r => by intro e; cases e⟩
  · exact ⟨_, h2, fun r => by intro e; cases e⟩
theorem CAt.chg {C : Addr} {H H' : Hp} {A : Ad} {c : Caller} {L : List Addr} (J : CAt C H A c) (k : Chg L H H') (h1 : ∀ x ∈ A.own, x ∉ L) (h2 : ∀ x ∈ L, ∀ r, H x ≠ some (.tup r)) : CAt C H' A c := by
  obtain ⟨⟨dx, a1⟩, ⟨xs, a2, a3⟩, a4, a5⟩ := J
  exact ⟨⟨dx, k _ _ a1 (h1 _ own_a)⟩, ⟨xs, k _ _ a2 (h1 _ own_lc), a3.keep fun t r e => k _ _ e fun hm => h2 t hm r e⟩, k _ _ a4 (h1 _ own_lh), a5⟩
theorem SAt.chg {C : Addr} {H H' : Hp} {B : Sd} {s : Shore} {L : List Addr} (J : SAt C H B s) (k : Chg L H H') (h1 : ∀ x ∈ B.own, x ∉ L) (h2 : ∀ x ∈ L, ∀ r, H x ≠ some (.tup r)) : SAt C H' B s := by
  obtain ⟨⟨dx, a1⟩, ⟨xs, a2, a3⟩⟩ := J
  exact ⟨⟨dx, k _ _ a1 (h1 _ sown_a)⟩, ⟨xs, k _ _ a2 (h1 _ sown_lk), a3.keep fun t r e => k _ _ e fun hm => h2 t hm r e⟩⟩
section
variable {CD CC CS : Addr} {H H' : Hp} {D : Dd} {m : MS} {s : Shore}
theorem DAt.same (J : DAt CD CC CS H D m s) (z : Same H H') : DAt CD CC CS H' D m s := by
  obtain ⟨⟨dx, h1⟩, h2, h3, h4, h5⟩ := J
  exact ⟨⟨dx, z _ _ h1⟩, z _ _ h2, fun k hk => (h3 k hk).same z, h4.same z, h5⟩
theorem DAt.there (J : DAt CD CC CS H D m s) {x : Addr} (h : Foot D x) : ∃ o, H x = some o ∧ NoTup o := by
  obtain ⟨⟨dx, h1⟩, h2, h3, h4, h5⟩ := J
  rcases h with rfl | rfl | h | ⟨k, hk, h⟩
  · exact ⟨_, h1, fun r => by intro e; cases e⟩
  · exact ⟨_, h2, fun r => by intro e; cases e⟩
  · exact h4.there h
  · exact (h3 k hk).there h
/-- a caller has changed -/
theorem DAt.caller (J : DAt CD CC CS H D m s) {k : Nat} (hk : k < 3) {c : Caller} (Jk : CAt CC H' (D.A k) c) (ch : Chg (D.A k).own H H') : DAt CD CC CS H' D (put m k c) s := by
  have nt : ∀ x ∈ (D.A k).own, ∀ r, H x ≠ some (.tup r) := fun x hx r e => by
    obtain ⟨o, e1, e2⟩ := (J.cal k hk).there hx
    rw [e] at e1
    exact e2 r (Option.some.inj e1).symm
  obtain ⟨⟨dx, h1⟩, h2, h3, h4, f, f1, f2, f3, f4⟩ := J
  refine ⟨⟨dx, ch _ _ h1 fun hm => ?_⟩, ch _ _ h2 fun hm => ?_, fun j hj => ?_, h4.chg ch (fun x hx hm => ?_) nt, f, f1, f2, f3, f4⟩
  · have := f4 k hk _ hm
    omega
  · have := f4 k hk _ hm
    omega
  · by_cases e : j = k
    · subst e
      rw [put_same]
      exact Jk
    · rw [put_ne e]
      refine (h3 j hj).chg ch (fun x hx hm => ?_) nt
      have a := f4 k hk _ hm
      have b := f4 j hj _ hx
      omega
  · have a := f4 k hk _ hm
    have b := f3 _ hx
    omega
/-- the shore has changed -/
theorem DAt.shore (J : DAt CD CC CS H D m s) {z : Shore} (Jk : SAt CS H' D.B z) (ch : Chg D.B.own H H') : DAt CD CC CS H' D m z := by
  have nt : ∀ x ∈ D.B.own, ∀ r, H x ≠ some (.tup r) := fun x hx r e => by
    obtain ⟨o, e1, e2⟩ := J.sho.there hx
    rw [e] at e1
    exact e2 r (Option.some.inj e1).symm
  obtain ⟨⟨dx, h1⟩, h2, h3, h4, f, f1, f2, f3, f4⟩ := J
  refine ⟨⟨dx, ch _ _ h1 fun hm => ?_⟩, ch _ _ h2 fun hm => ?_, fun j hj => ?_, Jk, f, f1, f2, f3, f4⟩
  · have := f3 _ hm
    omega
  · have := f3 _ hm
    omega
  · refine (h3 j hj).chg ch (fun x hx hm => ?_) nt
    have a := f3 _ hm
    have b := f4 j hj _ hx
    omega
/-- a new shore -/
theorem DAt.newShore (J : DAt CD CC CS H D m s) {B : Sd} (z : Same H H') (JB : SAt CS H' B Km448.shore0) (n : ∀ x ∈ B.own, H x = none) {dx : Addr} (hI : H D.d = some (.ins CD dx (dF D))) :
    DAt CD CC CS (upd H' D.d (.ins CD dx (dF { D with B := B }))) { D with B := B } m Km448.shore0 := by
  have th := fun {x} (h : Foot D x) => J.there h
  have J' := J
  obtain ⟨_, h2, h3, h4, f, f1, f2, f3, f4⟩ := J'
  have ch : Chg [D.d] H' (upd H' D.d (.ins CD dx (dF { D with B := B }))) := chg_upd (Chg.of_same (Same.refl _)) (.inl List.mem_cons_self)
  have nt : ∀ x ∈ [D.d], ∀ r, H' x ≠ some (.tup r) := fun x hx r e => by
    have : x = D.d := by simpa using hx
    subst this
    rw [z _ _ hI] at e
    cases e
  refine ⟨⟨dx, upd_same⟩, ?_, fun k hk => ((h3 k hk).same z).chg ch (fun x hx hm => ?_) nt, JB.chg ch (fun x hx hm => ?_) nt, fun x => if x ∈ B.own then 4 else f x, ?_, ?_, ?_, ?_⟩
  · exact upd_get (ne_of h2 hI (fun e => by cases e)) (z _ _ h2)
  · have : x = D.d := by simpa using hm
    subst this
    have := f4 k hk _ hx
    omega
  · have : x = D.d := by simpa using hm
    subst this
    rw [n _ hx] at hI
    cases hI
  · show (if D.d ∈ B.own then 4 else f D.d) = 5
    rw [if_neg (fun hm => by rw [n _ hm] at hI; cases hI)]
    exact f1
  · show (if D.cs ∈ B.own then 4 else f D.cs) = 5
    rw [if_neg (fun hm => by rw [n _ hm] at h2; cases h2)]
    exact f2
  · intro x hx
    exact if_pos hx
  · intro k hk x hx
    show (if x ∈ B.own then 4 else f x) = k
    rw [if_neg (fun hm => by
      obtain ⟨o, e, _⟩ := (h3 k hk).there hx
      rw [n _ hm] at e
      cases e)]
    exact f4 k hk x hx
def putA (A : Nat → Ad) (k : Nat) (a : Ad) : Nat → Ad := fun j => if j = k then a else A j
/-- a new caller -/
theorem DAt.newCaller (J : DAt CD CC CS H D m s) {k : Nat} (hk : k < 3) {A : Ad} {c : Caller} (z : Same H H') (JA : CAt CC H' A c) (n : ∀ x ∈ A.own, H x = none) :
    DAt CD CC CS (upd H' D.cs (.lst ([V.ref (D.A 0).a, V.ref (D.A 1).a, V.ref (D.A 2).a].set k (.ref A.a)))) { D with A := putA D.A k A } (put m k c) s := by
  have J' := J
  obtain ⟨⟨dx, hI⟩, h2, h3, h4, f, f1, f2, f3, f4⟩ := J'
  have eL : [V.ref (D.A 0).a, V.ref (D.A 1).a, V.ref (D.A 2).a].set k (.ref A.a) = [V.ref (putA D.A k A 0).a, V.ref (putA D.A k A 1).a, V.ref (putA D.A k A 2).a] := by
    have : k = 0 ∨ k = 1 ∨ k = 2 := by omega
    rcases this with rfl | rfl | rfl <;> rfl
  rw [eL]
  have ch : Chg [D.cs] H' (upd H' D.cs (.lst [V.ref (putA D.A k A 0).a, V.ref (putA D.A k A 1).a, V.ref (putA D.A k A 2).a])) := chg_upd (Chg.of_same (Same.refl _)) (.inl List.mem_cons_self)
  have nt : ∀ x ∈ [D.cs], ∀ r, H' x ≠ some (.tup r) := fun x hx r e => by
    have : x = D.cs := by simpa using hx
    subst this
    rw [z _ _ h2] at e
    cases e
  refine ⟨⟨dx, upd_get (ne_of hI h2 (fun e => by cases e)) (z _ _ hI)⟩, upd_same, fun j hj => ?_, (h4.same z).chg ch (fun x hx hm => ?_) nt, fun x => if x ∈ A.own then k else f x, ?_, ?_, ?_, ?_⟩
  · show CAt CC _ (putA D.A k A j) (put m k c j)
    by_cases e : j = k
    · subst e
      have : putA D.A j A j = A := if_pos rfl
      rw [put_same, this]
      refine JA.chg ch (fun x hx hm => ?_) nt
      have : x = D.cs := by simpa using hm
      subst this
      rw [n _ hx] at h2
      cases h2
    · have : putA D.A k A j = D.A j := if_neg e
      rw [put_ne e, this]
      refine ((h3 j hj).same z).chg ch (fun x hx hm => ?_) nt
      have : x = D.cs := by simpa using hm
      subst this
      have := f4 j hj _ hx
      omega
  · have : x = D.cs := by simpa using hm
    subst this
    have := f3 _ hx
    omega
  · show (if D.d ∈ A.own then k else f D.d) = 5
    rw [if_neg (fun hm => by rw [n _ hm] at hI; cases hI)]
    exact f1
  · show (if D.cs ∈ A.own then k else f D.cs) = 5
    rw [if_neg (fun hm => by rw [n _ hm] at h2; cases h2)]
    exact f2
  · intro x hx
    show (if x ∈ A.own then k else f x) = 4
    rw [if_neg (fun hm => by
      obtain ⟨o, e, _⟩ := h4.there hx
      rw [n _ hm] at e
      cases e)]
    exact f3 x hx
  · intro j hj x hx
    show (if x ∈ A.own then k else f x) = j
    by_cases e : j = k
    · subst e
      have e2 : putA D.A j A j = A := if_pos rfl
      have hx : x ∈ (putA D.A j A j).own := hx
      rw [e2] at hx
      exact if_pos hx
    · have e2 : putA D.A k A j = D.A j := if_neg e
      have hx : x ∈ (putA D.A k A j).own := hx
      rw [e2] at hx
      rw [if_neg (fun hm => by
        obtain ⟨o, e, _⟩ := (h3 j hj).there hx
        rw [n _ hm] at e
        cases e)]
      exact f4 j hj x hx
end

/-! ### promises -/
/-- how a call on the desk ends -/
structure DEnd (CR CD CC CS : Addr) (H : Hp) (D : Dd) (m : MS) (s : Shore) (w k : Nat) (x : Km448.Call) (Q : VK) (E : XK) : Prop where
  no : (reply w k x m s).value < 0 → ∀ (d : Addr) (H' : Hp), Same H H' → H' d = some (.xd [(("answer" : Str), .int (reply w k x m s).value)]) → E (.ref CR) (some d) H'
  yes : ∀ (p : Addr) (H' : Hp) (D' : Dd), H p = none → H' p = some (.lst ((Km448Neutral.told (reply w k x m s)).map V.int)) → D'.d = D.d → DAt CD CC CS H' D' (after w k x m s).1 (after w k x m s).2 →
    (∀ b o, H b = some o → ¬ Foot D b → H' b = some o) → (∀ x, Foot D' x → Foot D x ∨ H x = none) → Q (.ref p) H'
/-- what a call on the desk is handed -/
structure DIn (K : PySem.W.Frag) (CD CC CS : Addr) (H : Hp) (D : Dd) (m : MS) (s : Shore) (w k : Nat) (pn pr : Addr) (ns row : List Nat) : Prop where
  hw : w ≤ 16
  hk : k ≤ 2
  hn : ns.length = NUMB.getD w 0
  hrow : hasRow w = true → row.length = 6
  sn : SqL K H pn (vis ns)
  sr : SqL K H pr (vis row)
  at_ : DAt CD CC CS H D m s
  wf : ∀ k, k < 3 → WF (m k)
  wfs : WFS s
  len : s.log.length ≤ 1000
def spDInit (CD CC CS : Addr) : Sp := fun vs H Q _ => ∃ (p dx : Addr), vs = [.ref p] ∧ H p = some (.ins CD dx []) ∧
  ∀ (H' : Hp) (D : Dd), D.d = p → DAt CD CC CS H' D (fun k => Km448.caller0 k) Km448.shore0 → (∀ x, Foot D x → x = p ∨ H x = none) → (∀ b o, H b = some o → b ≠ p → H' b = some o) → Q .non H'
def spDCall (K : PySem.W.Frag) (CR CD CC CS : Addr) : Sp := fun vs H Q E => ∃ (D : Dd) (m : MS) (s : Shore) (w k : Nat) (pn pr : Addr) (ns row : List Nat), vs = [.ref D.d, .int (w : Int), .int (k : Int), .ref pn, .ref pr] ∧
  DIn K CD CC CS H D m s w k pn pr ns row ∧ DEnd CR CD CC CS H D m s w k (theCall w ns row) Q E
end CA

/-! # HRad3: the desk's __init__ -/
namespace CA
open PySem PySem.Spec PyProof.Rows L2
open Km448Neutral (nums)
open Km448 (Caller Shore What Heard)
open CM

section
variable {P : Program} {w : World} {K : PySem.W.Frag} {mg : Str → Option Value} {base : Heap} {CR CC CS CD fRI fNeed fCon fIsC fTold fBits fOfC fOfS aNUM aROW : Addr}

theorem yes_ite {σ : L2.St} {H : Hp} {A B : Hp → Prop} (h : A H) : tYes σ H (fun b H3 => if b = true then A H3 else B H3) := by
  show (if true = true then A H else B H)
  exact iteT h
/-- behind i callers made -/
structure Made (CC : Addr) (H : Hp) (L : Addr) (i : Nat) (H' : Hp) (A : Nat → Ad) : Prop where
  lst : H' L = some (.lst ((List.range i).map fun j => V.ref (A j).a))
  cal : ∀ j, j < i → CAt CC H' (A j) (Km448.caller0 j)
  new : ∀ j, j < i → ∀ x ∈ (A j).own, H x = none ∧ x ≠ L
  ap : ∀ j j', j < i → j' < i → j ≠ j' → ∀ x ∈ (A j).own, x ∉ (A j').own
theorem made_more {CC : Addr} {H H' H4 : Hp} {L : Addr} {i : Nat} {A : Nat → Ad} {A' : Ad} (hL : H L = none) (s : Same H H') (M : Made CC H L i H' A) (s4 : Same H' H4) (J : CAt CC H4 A' (Km448.caller0 i)) (n : ∀ x ∈ A'.own, H' x = none) :
    ∃ acc, H4 L = some (.lst acc) ∧ acc.length < sizeLine + i ∧ acc = ((List.range i).map fun j => V.ref (A j).a) ∧ Same H (upd H4 L (.lst (acc ++ [.ref A'.a]))) ∧ Made CC H L (i + 1) (upd H4 L (.lst (acc ++ [.ref A'.a]))) (putA A i A') := by
  have l4 := s4 _ _ M.lst
  refine ⟨_, l4, ?_, rfl, fun b o e => (upd_ne (ne_new e hL)).trans (s4 _ _ (s b o e)), ?_⟩
  · rw [List.length_map, List.length_range]
    have : 0 < sizeLine := by decide
    omega
  have ch : Chg [L] H4 (upd H4 L (.lst (((List.range i).map fun j => V.ref (A j).a) ++ [.ref A'.a]))) := chg_upd (Chg.of_same (Same.refl _)) (.inl List.mem_cons_self)
  have nt : ∀ x ∈ [L], ∀ r, H4 x ≠ some (.tup r) := fun x hx r e => by
    have : x = L := by simpa using hx
    subst this
    rw [l4] at e
    cases e
  have oth : ∀ {j}, j < i → putA A i A' j = A j := fun {j} h => if_neg (by omega)
  have me : putA A i A' i = A' := if_pos rfl
  have nL : ∀ x ∈ A'.own, x ≠ L := fun x hx e => by
    have := n x hx
    rw [e, M.lst] at this
    cases this
  refine ⟨?_, fun j hj => ?_, fun j hj x hx => ?_, fun j j' hj hj' ne x hx hx' => ?_⟩
  · rw [upd_same, List.range_succ, List.map_append]
    have e1 : (List.range i).map (fun j => V.ref (putA A i A' j).a) = (List.range i).map fun j => V.ref (A j).a := List.map_congr_left fun j hj => by
      rw [oth (List.mem_range.mp hj)]
    rw [e1]
    show _ = some (HO.lst (_ ++ [V.ref (putA A i A' i).a]))
    rw [me]
  · by_cases e : j = i
    · subst e
      rw [me]
      exact J.chg ch (fun x hx hm => nL x hx (by simpa using hm)) nt
    · rw [oth (by omega)]
      exact ((M.cal j (by omega)).same s4).chg ch (fun x hx hm => (M.new j (by omega) x hx).2 (by simpa using hm)) nt
  · by_cases e : j = i
    · subst e
      rw [me] at hx
      exact ⟨s.free (n x hx), nL x hx⟩
    · rw [oth (by omega)] at hx
      exact M.new j (by omega) x hx
  · by_cases e : j = i
    · subst e
      rw [me] at hx
      rw [oth (by omega)] at hx'
      obtain ⟨o, e1, _⟩ := (M.cal j' (by omega)).there hx'
      rw [n x hx] at e1
      cases e1
    · rw [oth (by omega)] at hx
      by_cases e' : j' = i
      · subst e'
        rw [me] at hx'
        obtain ⟨o, e1, _⟩ := (M.cal j (by omega)).there hx
        rw [n x hx'] at e1
        cases e1
      · rw [oth (by omega)] at hx'
        exact M.ap j j' (by omega) (by omega) ne x hx hx'

/-! ### __init__. Slots: self; the comprehension's own: number -/
theorem scDInit : FnScope ["self", "number"] ["self"] (defScope (sD 0)) := ⟨rfl, rfl, rfl, by decide +kernel, rfl, by decide +kernel, by decide +kernel⟩
theorem ok_dinit {f fCI fSI : Addr} {fd : FuncData} (F : Fun K "__init__" "Desk.__init__" (sD 0) f fd) (T : Txt K mg CR CC CS CD fRI fNeed fCon fIsC fTold fBits fOfC fOfS aNUM aROW)
    (MC : Mk K CC fCI) (GC : Can P w K mg base CX0 1 fCI ["self", "me"] (spCInit CC)) (MS : Mk K CS fSI) (GS : Can P w K mg base CX0 1 fSI ["self"] (spSInit CS)) :
    FnOk P w K mg base CX0 3 f fd ["self"] (spDInit CD CC CS) := by
  obtain ⟨fdC, GC, bC⟩ := GC
  obtain ⟨fdS, GS, bS⟩ := GS
  refine F.ok scDInit (fun vs H Q E h => ?_) (fun cdv A outer s H vs Q E hr h => ⟨_, pss_cons (ps_fld (pv 0) (pe_lc (own := [("number", 1)]) (g := gName 1) (tt := tYes) (te := tMake CC (spCInit CC) [] E0 (tCons (tVar 1) tNil)) rfl scDInit.nd
      (pi_range1 rfl T.range (pa_cons (pe_gi T.gCALLERS) pa_nil)) (blkOk_by (own := [("number", 1)]) (N := ["self", "number"]) (sc := defScope (sD 0)) (by decide +kernel)) (fun _ _ _ _ _ => pg_name (i := 1) scDInit.nd rfl (Or.inl rfl))
      (fun _ _ _ _ _ => pts_nil) (fun _ _ _ _ _ => by exact (pe_make MC GC hr rfl T.gCC bC .nil pass0 (pa_cons (pv 1) pa_nil)))) rfl)
    (pss_one (ps_fld (pv 0) (pe_make0 MS GS hr rfl T.gCS bS .nil pass0) rfl)), ?_⟩)
  · obtain ⟨p, dx, rfl, _⟩ := h
    rfl
  · obtain ⟨p, dx, rfl, hp, h⟩ := h
    refine ⟨3, rfl, by decide, by decide, fun L hL => ?_⟩
    have pL : p ≠ L := ne_new hp hL
    refine lc_range (lo := 0) (n := 3) (fun i H' => Same H H' ∧ ∃ A, Made CC H L i H' A) ⟨same_upd hL, fun _ => ⟨0, 0, 0⟩, upd_same, fun j hj => absurd hj (Nat.not_lt_zero _), fun j hj => absurd hj (Nat.not_lt_zero _), fun j _ hj => absurd hj (Nat.not_lt_zero _)⟩ (fun i H' hi ⟨s, Af, M⟩ => ?_) (fun H' ⟨s, Af, M⟩ => ?_)
    · rw [show (0 : Int) + (i : Int) = (i : Int) by omega]
      refine ⟨rfl, ?_⟩
      refine yes_ite ?_
      refine ⟨_, rfl, fun x dx' nx nd ne => ⟨x, dx', i, rfl, upd_same, fun H4 A' ea J' n1 n2 kp => ⟨rfl, ?_⟩⟩⟩
      have s4 : Same H' H4 := Same.made nx nd kp
      have nn : ∀ y ∈ A'.own, H' y = none := fun y hy => by
        rcases mem_own hy with rfl | rfl | rfl
        · rw [ea]; exact nx
        · exact (upd_none (upd_none n1).2).2
        · exact (upd_none (upd_none n2).2).2
      obtain ⟨acc, a1, a2, a3, a4, a5⟩ := made_more hL s M s4 J' nn
      rw [← ea]
      refine ⟨acc, a1, ?_, a4, _, a5⟩
      rw [a3, List.length_map, List.length_range]
      exact ltLine (by omega)
    · have hp1 := s _ _ hp
      refine ⟨_, rfl, p, CD, dx, [], rfl, hp1, T.clD, T.nCallers, (by show 0 < 1000; decide), ?_⟩
      refine fun x dx' nx nd ne => ⟨x, dx', rfl, upd_same, fun H2 B eb JB nB kp => ⟨rfl, ?_⟩⟩
      have s2 := Same.made nx nd kp
      have hp2 := s2 _ _ upd_same
      have px : p ≠ x := ne_new upd_same nx
      refine ⟨_, rfl, p, CD, dx, _, rfl, hp2, T.clD, T.nShore, (by show 1 < 1000; decide), ?_⟩
      -- what lies where
      have nBo : ∀ y ∈ B.own, upd H' p (.ins CD dx (putF "callers" (.ref L) [])) y = none := fun y hy => by
        rcases mem_sown hy with rfl | rfl
        · rw [eb]; exact nx
        · exact (upd_none (upd_none nB).2).2
      have nBp : ∀ y ∈ B.own, y ≠ p := fun y hy e => by
        have := nBo y hy
        rw [e, upd_same] at this
        cases this
      have nBH' : ∀ y ∈ B.own, H' y = none := fun y hy => by
        have := nBo y hy
        rw [upd_ne (nBp y hy)] at this
        exact this
      have nA : ∀ k, k < 3 → ∀ y ∈ (Af k).own, y ≠ p := fun k hk y hy e => by
        have := (M.new k hk y hy).1
        rw [e, hp] at this
        cases this
      have c1 : Chg [p] H' (upd H' p (.ins CD dx (putF "callers" (.ref L) []))) := chg_upd (Chg.of_same (Same.refl _)) (.inl List.mem_cons_self)
      have c2 : Chg [p] H' H2 := c1.trans (Chg.of_same s2)
      have c3 : Chg [p] H2 (upd H2 p (.ins CD dx (putF "shore" (.ref x) (putF "callers" (.ref L) [])))) := chg_upd (Chg.of_same (Same.refl _)) (.inl List.mem_cons_self)
      have nt : ∀ y ∈ [p], ∀ r, H' y ≠ some (.tup r) := fun y hy r e => by
        have : y = p := by simpa using hy
        subst this
        rw [hp1] at e
        cases e
      have nt2 : ∀ y ∈ [p], ∀ r, H2 y ≠ some (.tup r) := fun y hy r e => by
        have : y = p := by simpa using hy
        subst this
        rw [hp2] at e
        cases e
      have hl3 : upd H2 p (.ins CD dx (putF "shore" (.ref x) (putF "callers" (.ref L) []))) L = some (.lst [.ref (Af 0).a, .ref (Af 1).a, .ref (Af 2).a]) :=
        upd_get (Ne.symm pL) (s2 _ _ (upd_get (Ne.symm pL) M.lst))
      refine h _ ⟨p, L, Af, B⟩ rfl ⟨⟨dx, ?_⟩, hl3, fun k hk => ?_, JB.chg c3 (fun y hy hm => nBp y hy (by simpa using hm)) nt2, fun y => if y ∈ B.own then 4 else if y ∈ (Af 0).own then 0 else if y ∈ (Af 1).own then 1 else if y ∈ (Af 2).own then 2 else 5, ?_, ?_, ?_, ?_⟩ ?_ ?_
      · rw [upd_same, ← eb]
        rfl
      · exact ((M.cal k hk).chg c2 (fun y hy hm => nA k hk y hy (by simpa using hm)) nt).chg c3 (fun y hy hm => nA k hk y hy (by simpa using hm)) nt2
      · show (if p ∈ B.own then 4 else if p ∈ (Af 0).own then 0 else if p ∈ (Af 1).own then 1 else if p ∈ (Af 2).own then 2 else 5) = 5
        rw [if_neg (fun hm => nBp p hm rfl), if_neg (fun hm => nA 0 (by omega) p hm rfl), if_neg (fun hm => nA 1 (by omega) p hm rfl), if_neg (fun hm => nA 2 (by omega) p hm rfl)]
      · show (if L ∈ B.own then 4 else if L ∈ (Af 0).own then 0 else if L ∈ (Af 1).own then 1 else if L ∈ (Af 2).own then 2 else 5) = 5
        rw [if_neg (fun hm => by have := nBH' L hm; rw [M.lst] at this; cases this), if_neg (fun hm => (M.new 0 (by omega) L hm).2 rfl), if_neg (fun hm => (M.new 1 (by omega) L hm).2 rfl), if_neg (fun hm => (M.new 2 (by omega) L hm).2 rfl)]
      · intro y hy
        exact if_pos hy
      · intro k hk y hy
        have hy : y ∈ (Af k).own := hy
        show (if y ∈ B.own then 4 else if y ∈ (Af 0).own then 0 else if y ∈ (Af 1).own then 1 else if y ∈ (Af 2).own then 2 else 5) = k
        have nb : y ∉ B.own := fun hm => by
          obtain ⟨o, e, _⟩ := (M.cal k hk).there hy
          rw [nBH' y hm] at e
          cases e
        rw [if_neg nb]
        have : k = 0 ∨ k = 1 ∨ k = 2 := by omega
        rcases this with rfl | rfl | rfl
        · rw [if_pos hy]
        · rw [if_neg (M.ap 1 0 (by omega) (by omega) (by omega) y hy), if_pos hy]
        · rw [if_neg (M.ap 2 0 (by omega) (by omega) (by omega) y hy), if_neg (M.ap 2 1 (by omega) (by omega) (by omega) y hy), if_pos hy]
      · rintro y (rfl | rfl | hy | ⟨k, hk, hy⟩)
        · exact .inl rfl
        · exact .inr hL
        · exact .inr (s.free (nBH' y hy))
        · exact .inr (M.new k hk y hy).1
      · intro b o e hb
        exact upd_get hb (s2 _ _ (upd_get hb (s _ _ e)))
end
end CA

/-! # HRad4: the desk's call, answer_to -/
namespace CA
open PySem PySem.Spec PyProof.Rows L2
open Km448Neutral (nums)
open Km448 (Caller Shore What Heard)
open CM

/-! ### a method's call within a try (the word of skel/30) -/
/-- o.m(e, ..) within a try: what it raises is wished for at the slots as they stand -/
def tMethS (C : Addr) (m : Str) (sp : Sp) (E : L2.St → XK) (ta : TE) (t : TA) : TE := fun σ H Q => ta σ H fun x H1 => ∃ a dx fs, x = .ref a ∧ H1 a = some (.ins C dx fs) ∧ fs.lookup m = none ∧ t σ H1 fun vs H2 => sp (x :: vs) H2 Q (E σ)
theorem pe_methS {X : Cx} {CX : CXT} {k : Nat} {f C : Addr} {fd : FuncData} {ps : List Str} {sp : Sp} {E : L2.St → XK} {m : Str} {pos apos : Pos} {e o : Expr} {es : List Expr} {ta : TE} {t : TA} {pl : Sem Bool} (he : PE X o ta) (c : Cls X.K C) (hm : Meth X.K C m f)
    (F : FnOk X.prog X.w X.K X.mg X.base CX k f fd ps sp) (hr : Room k X.A) (hb : Binds X.K fd ps []) (hx : ∀ σ, PassesAt CX X σ (E σ)) (ha : PA X (e :: es) t)
    (hst : starEach (e :: es) X.env = (false, eval e X.env) :: starEach es X.env := by rfl) (hpl : (backTo pos (starEach es X.env)).any (·.1) = false := by rfl)
    (ht : eval (.Call (.Attribute o m apos) (e :: es) [] pos) X.env = (do
      let ov ← eval o X.env
      standAt apos.atName
      let (f, first) ← holding [ov] (getMethod ov m pl)
      callWith pos f first (backTo pos (starEach (e :: es) X.env)) (backToKw pos (keywordEach [] X.env))) := by rfl) :
    PE X (.Call (.Attribute o m apos) (e :: es) [] pos) (tMethS C m sp E ta t) := by
  refine ⟨fun pins s σ H Q I h => ?_⟩
  refine PySem.W.methodCall_KW (pl := pl) (thn (he.run pins s σ H _ I h) fun u s1 ⟨x, H1, I1, rx, a, dx, fs, ex, ea, l, q⟩ => ?_) ht
  subst ex
  obtain rfl : u = Value.ref a := rx
  refine getmeth_ok I1 ea c hm l ?_
  refine PySem.W.callWith_K (first := [.ref a]) (h₀ := X.base) I.ok.mod.kin hm.kp (thn (ha.run pos pins s1 σ H1 _ I1 q) fun us s2 ⟨vs, H2, I2, r, q2⟩ => ⟨I2.kIn, ?_⟩) hst hpl
  exact run_fnS (us := .ref a :: us) (vs := .ref a :: vs) F hr hb (hx σ) I2 (.cons rfl r) q2

/-! ### refusals -/
theorem neg_c (c : Caller) (x : Km448.Call) (h : (Km448.cDoes c x).2.value < 0) : (Km448.cDoes c x).1 = c ∧ (Km448.cDoes c x).2.out = [] := by
  cases x with
  | cStart me =>
    unfold Km448.cDoes at h ⊢
    dsimp only at h ⊢
    split at h
    · rename_i q
      rw [if_pos q]
      exact ⟨rfl, rfl⟩
    · exact absurd h (by show ¬ (0 : Int) < 0; decide)
  | cSay k x y =>
    unfold Km448.cDoes at h ⊢
    dsimp only at h ⊢
    split at h
    · rename_i q
      rw [if_pos q]
      exact ⟨rfl, rfl⟩
    · rename_i q
      rw [if_neg q]
      split at h
      · rename_i q
        rw [if_pos q]
        exact ⟨rfl, rfl⟩
      · exact absurd h (by show ¬ ((c.said.length : Nat) : Int) < 0; omega)
  | cTell =>
    unfold Km448.cDoes at h ⊢
    dsimp only at h ⊢
    cases e : c.next with
    | none => exact ⟨rfl, rfl⟩
    | some i =>
      rw [e] at h
      exact absurd h (by show ¬ ((i : Nat) : Int) < 0; omega)
  | cHear m =>
    unfold Km448.cDoes at h ⊢
    dsimp only at h ⊢
    split at h
    · rename_i q
      rw [if_pos q]
      exact ⟨rfl, rfl⟩
    · exact absurd h (by show ¬ ((_ : Nat) : Int) < 0; omega)
  | cKnown i =>
    unfold Km448.cDoes at h ⊢
    dsimp only at h ⊢
    split at h
    · rename_i q
      rw [if_pos q]
      exact ⟨rfl, rfl⟩
    · exact absurd h (by show ¬ ((_ : Nat) : Int) < 0; omega)
  | cOpen => exact absurd h (by show ¬ ((_ : Nat) : Int) < 0; omega)
  | cSaid i =>
    unfold Km448.cDoes at h ⊢
    dsimp only at h ⊢
    cases e : c.said[i]? with
    | none => exact ⟨rfl, rfl⟩
    | some w =>
      rw [e] at h
      exact absurd h (by show ¬ ((_ : Nat) : Int) < 0; omega)
  | cWould m =>
    unfold Km448.cDoes at h ⊢
    dsimp only at h ⊢
    split at h
    · rename_i q
      rw [if_pos q]
      exact ⟨rfl, rfl⟩
    · exact absurd h (by show ¬ ((_ : Nat) : Int) < 0; omega)
  | cState => exact absurd h (by show ¬ ((_ : Nat) : Int) < 0; omega)
  | _ => exact ⟨rfl, rfl⟩
theorem neg_s (s : Shore) (x : Km448.Call) (h : (Km448.sDoes s x).2.value < 0) : (Km448.sDoes s x).1 = s ∧ (Km448.sDoes s x).2.out = [] := by
  cases x with
  | sStart => exact absurd h (by show ¬ (0 : Int) < 0; decide)
  | sHear m =>
    unfold Km448.sDoes at h ⊢
    dsimp only at h ⊢
    cases e : Km448.goodCall m with
    | none => exact ⟨rfl, rfl⟩
    | some hd =>
      rw [e] at h
      dsimp only at h ⊢
      cases e2 : s.at_ hd.who hd.number with
      | none =>
        rw [e2] at h
        exact absurd h (by show ¬ (1 : Int) < 0; decide)
      | some wh =>
        rw [e2] at h
        dsimp only at h ⊢
        split at h
        · exact absurd h (by show ¬ (0 : Int) < 0; decide)
        · rename_i q
          rw [if_neg q]
          exact ⟨rfl, rfl⟩
  | sAnswer k =>
    unfold Km448.sDoes at h ⊢
    dsimp only at h ⊢
    split at h
    · rename_i q
      rw [if_pos q]
      exact ⟨rfl, rfl⟩
    · exact absurd h (by show ¬ ((_ : Nat) : Int) < 0; omega)
  | sGet i =>
    unfold Km448.sDoes at h ⊢
    dsimp only at h ⊢
    cases e : s.log[i]? with
    | none => exact ⟨rfl, rfl⟩
    | some w =>
      rw [e] at h
      exact absurd h (by show ¬ ((_ : Nat) : Int) < 0; omega)
  | sFind k i =>
    unfold Km448.sDoes at h ⊢
    dsimp only at h ⊢
    split at h
    · rename_i q
      rw [if_pos q]
      exact ⟨rfl, rfl⟩
    · rename_i q
      rw [if_neg q]
      cases e : s.at_ k i with
      | none => exact ⟨rfl, rfl⟩
      | some w =>
        rw [e] at h
        exact absurd h (by show ¬ ((_ : Nat) : Int) < 0; omega)
  | sOf k =>
    unfold Km448.sDoes at h ⊢
    dsimp only at h ⊢
    split at h
    · rename_i q
      rw [if_pos q]
      exact ⟨rfl, rfl⟩
    · exact absurd h (by show ¬ ((_ : Nat) : Int) < 0; omega)
  | sGaps k =>
    unfold Km448.sDoes at h ⊢
    dsimp only at h ⊢
    split at h
    · rename_i q
      rw [if_pos q]
      exact ⟨rfl, rfl⟩
    · exact absurd h (by show ¬ ((_ : Nat) : Int) < 0; omega)
  | sState => exact absurd h (by show ¬ ((_ : Nat) : Int) < 0; omega)
  | _ => exact ⟨rfl, rfl⟩
theorem reply_neg {w k : Nat} {x : Km448.Call} {m : MS} {s : Shore} (h : (reply w k x m s).value < 0) : Km448Neutral.told (reply w k x m s) = [(reply w k x m s).value] ∧ after w k x m s = (m, s) := by
  unfold reply at h ⊢
  unfold after
  by_cases q : w < 9
  · rw [if_pos q] at h
    rw [if_pos q, if_pos q]
    obtain ⟨e1, e2⟩ := neg_c _ _ h
    refine ⟨?_, by rw [e1, put_id]⟩
    unfold Km448Neutral.told
    rw [e2]
    rfl
  · rw [if_neg q] at h
    rw [if_neg q, if_neg q]
    obtain ⟨e1, e2⟩ := neg_s _ _ h
    refine ⟨?_, by rw [e1]⟩
    unfold Km448Neutral.told
    rw [e2]
    rfl

/-- what answer_to is handed; how it ends -/
def spAT (K : PySem.W.Frag) (CR CD CC CS : Addr) : Sp := fun vs H Q _ => ∃ (D : Dd) (m : MS) (s : Shore) (w k : Nat) (pn pr : Addr) (ns row : List Nat), vs = [.ref D.d, .int (w : Int), .int (k : Int), .ref pn, .ref pr] ∧
  DIn K CD CC CS H D m s w k pn pr ns row ∧
  ∀ (p : Addr) (H' : Hp) (D' : Dd), H p = none → H' p = some (.lst ((Km448Neutral.told (reply w k (theCall w ns row) m s)).map V.int)) → D'.d = D.d → DAt CD CC CS H' D' (after w k (theCall w ns row) m s).1 (after w k (theCall w ns row) m s).2 →
    (∀ b o, H b = some o → ¬ Foot D b → H' b = some o) → (∀ x, Foot D' x → Foot D x ∨ H x = none) → Q (.ref p) H'

theorem iteGt {A B : Prop} {w : Nat} (j : Nat) {z : Int} (hz : z = (j : Int)) (h1 : j < w → A) (h2 : ¬ j < w → B) : if decide (z < (w : Int)) = true then A else B := by
  subst hz
  by_cases e : j < w
  · rw [if_pos (decide_eq_true (by omega))]
    exact h1 e
  · rw [if_neg (by rw [decide_eq_false (by omega)]; decide)]
    exact h2 e
theorem at3 {a b c : V} {k : Nat} {f : Nat → V} (h0 : f 0 = a) (h1 : f 1 = b) (h2 : f 2 = c) (hk : k < 3) : [a, b, c][k]? = some (f k) := by
  have : k = 0 ∨ k = 1 ∨ k = 2 := by omega
  rcases this with rfl | rfl | rfl
  · rw [h0]; rfl
  · rw [h1]; rfl
  · rw [h2]; rfl

section
variable {P : Program} {w : World} {K : PySem.W.Frag} {mg : Str → Option Value} {base : Heap} {CR CC CS CD fRI fNeed fCon fIsC fTold fBits fOfC fOfS aNUM aROW : Addr}

/-! ### call. Slots: self, word, which, numbers, row -/
theorem scDCall : FnScope ["self", "word", "which", "numbers", "row"] ["self", "word", "which", "numbers", "row"] (defScope (sD 1)) := ⟨rfl, rfl, rfl, by decide +kernel, rfl, by decide +kernel, by decide +kernel⟩
theorem ok_dcall {f fCI fSI : Addr} {fd : FuncData} (F : Fun K "call" "Desk.call" (sD 1) f fd) (T : Txt K mg CR CC CS CD fRI fNeed fCon fIsC fTold fBits fOfC fOfS aNUM aROW)
    (MC : Mk K CC fCI) (GC : Can P w K mg base CX0 1 fCI ["self", "me"] (spCInit CC)) (MS : Mk K CS fSI) (GS : Can P w K mg base CX0 1 fSI ["self"] (spSInit CS))
    (GOC : Can P w K mg base (L2.CX P w) 6 fOfC ["caller", "word", "numbers", "row"] (spOfC K CR CC)) (GOS : Can P w K mg base (L2.CX P w) 6 fOfS ["shore", "word", "numbers", "row"] (spOfS K CR CS)) :
    FnOk P w K mg base (L2.CX P w) 7 f fd ["self", "word", "which", "numbers", "row"] (spDCall K CR CD CC CS) := by
  obtain ⟨fdC, GC, bC⟩ := GC
  obtain ⟨fdS, GS, bS⟩ := GS
  obtain ⟨fdOC, GOC, bOC⟩ := GOC
  obtain ⟨fdOS, GOS, bOS⟩ := GOS
  refine F.okX scDCall (fun vs H Q E h => ?_) (fun cdv A outer s H vs Q E hr h => ⟨_, pss_cons (ps_if (pt_cmpR op_eq (pv 1) (pe_gi T.gSH) (nomark _)) (pss_cons (ps_fld (pv 0) (pe_make0 MS GS (hr.mono (by decide)) rfl T.gCS bS .nil pass0) rfl) (pss_one (ps_ret (pe_lst (pa_cons pe_int pa_nil))))) pss_nil)
    (pss_cons (ps_if (pt_cmpR op_gt (pv 1) (pe_gi T.gSH) (nomark _)) (pss_one (ps_ret (pe_call GOS hr rfl T.gOfS T.kOfS bOS .nil (passes_call (takes_of rfl rfl rfl rfl) (fun _ _ _ _ h => h)) (pa_cons (pe_fld (pv 0) rfl) (pa_cons (pv 1) (pa_cons (pv 3) (pa_cons (pv 4) pa_nil))))))) pss_nil)
    (pss_cons (ps_if (pt_cmpR op_gt (pv 1) (pe_gi T.gCA) (nomark _)) (pss_one (ps_ret (pe_call GOC hr rfl T.gOfC T.kOfC bOC .nil (passes_call (takes_of rfl rfl rfl rfl) (fun _ _ _ _ h => h)) (pa_cons (pe_ix ix_list (pe_fld (pv 0) rfl) (pv 2) (fun _ _ => rfl)) (pa_cons (pv 1) (pa_cons (pv 3) (pa_cons (pv 4) pa_nil))))))) pss_nil)
    (pss_cons (ps_if (pt_cmpR op_gt (pe_ix ix_list (pv 3) pe_int (fun _ _ => rfl)) (pe_gi T.gMCALLER) (nomark _)) (pss_one (ps_ret (pe_lst (pa_cons (pe_gi T.gNOTSO) pa_nil)))) pss_nil)
    (pss_cons (ps_asg (pe_make MC GC (hr.mono (by decide)) rfl T.gCC bC .nil pass0 (pa_cons (pe_ix ix_list (pv 3) pe_int (fun _ _ => rfl)) pa_nil)) (pg_sub (pe_fld (pv 0) rfl) (pv 2) set_list))
    (pss_one (ps_ret (pe_lst (pa_cons pe_int pa_nil)))))))), ?_⟩)
  · obtain ⟨D, m, z, n, k, pn, pr, ns, row, rfl, _⟩ := h
    rfl
  · obtain ⟨D, m, z, n, k, pn, pr, ns, row, rfl, I, h⟩ := h
    obtain ⟨hw, hk, hn, hrow, sn, sr, J, wf, wfs, hlen⟩ := I
    obtain ⟨dx, hI⟩ := J.ins
    refine ⟨_, rfl, rfl, _, rfl, iteEqN 9 rfl (fun e => ?_) (fun n9 => ?_)⟩
    · -- a new shore
      subst e
      refine fun x dx' nx nd ne => ⟨x, dx', rfl, upd_same, fun H1 B eb JB nB kp => ⟨rfl, ?_⟩⟩
      have s1 := Same.made nx nd kp
      refine ⟨_, rfl, D.d, CD, dx, _, rfl, s1 _ _ hI, T.clD, T.nShore, (by show 2 < 1000; decide), (by show 1 ≤ sizeLine; decide), fun q hq => ?_⟩
      have eF : putF "shore" (.ref x) (dF D) = dF { D with B := B } := by
        rw [← eb]
        rfl
      rw [eF] at hq ⊢
      have nn : ∀ y ∈ B.own, H y = none := fun y hy => by
        rcases mem_sown hy with rfl | rfl
        · rw [eb]; exact nx
        · exact (upd_none (upd_none nB).2).2
      have J2 := J.newShore s1 JB nn hI
      obtain ⟨q1, hq1⟩ := upd_none hq
      refine h.yes q _ { D with B := B } (s1.free hq1) upd_same rfl (J2.same (same_upd hq)) (fun b o e hb => ?_) ?_
      · exact upd_get (ne_new (s1 _ _ e) hq1) (upd_get (fun q => hb (.inl q)) (s1 _ _ e))
      · rintro y (rfl | rfl | hy | ⟨j, hj, hy⟩)
        · exact .inl (.inl rfl)
        · exact .inl (.inr (.inl rfl))
        · exact .inr (nn y hy)
        · exact .inl (.inr (.inr (.inr ⟨j, hj, hy⟩)))
    refine ⟨_, rfl, _, _, rfl, rfl, _, rfl, iteGt 9 rfl (fun g9 => ?_) (fun g9 => ?_)⟩
    · -- the shore's
      have q9 : ¬ n < 9 := by omega
      have e1 : reply n k (theCall n ns row) m z = (Km448.sDoes z (theCall n ns row)).2 := if_neg q9
      have e2 : after n k (theCall n ns row) m z = (m, (Km448.sDoes z (theCall n ns row)).1) := if_neg q9
      refine ⟨_, rfl, D.d, CD, dx, _, _, rfl, hI, T.clD, T.nShore, by rfl, _, rfl, _, rfl, _, rfl, D.B, z, n, pn, pr, ns, row, rfl, by omega, hw, hn, hrow, sn, sr, J.sho, wfs, hlen, ⟨fun hv d H' s' hd => ?_, fun _ q H' hq hl JS ch => ?_⟩⟩
      · exact h.no (by rw [e1]; exact hv) d H' s' (by rw [e1]; exact hd)
      · refine h.yes q H' D hq (by rw [e1]; exact hl) rfl (by rw [e2]; exact J.shore JS ch) (fun b o e hb => ch b o e fun hm => hb (.inr (.inr (.inl hm)))) (fun x hx => .inl hx)
    refine ⟨_, rfl, _, _, rfl, rfl, _, rfl, iteGt 0 rfl (fun g0 => ?_) (fun g0 => ?_)⟩
    · -- a caller's
      have q9 : n < 9 := by omega
      have e1 : reply n k (theCall n ns row) m z = (Km448.cDoes (m k) (theCall n ns row)).2 := if_pos q9
      have e2 : after n k (theCall n ns row) m z = (put m k (Km448.cDoes (m k) (theCall n ns row)).1, z) := if_pos q9
      refine ⟨_, rfl, D.d, CD, dx, _, _, rfl, hI, T.clD, T.nCallers, by rfl, _, rfl, D.cs, _, _, _, rfl, rfl, SqL.here J.cs, atI_nat (at3 (f := fun k => V.ref (D.A k).a) rfl rfl rfl (by omega)), _, rfl, _, rfl, _, rfl,
        D.A k, m k, n, pn, pr, ns, row, rfl, by omega, by omega, hn, hrow, sn, sr, J.cal k (by omega), wf k (by omega), ⟨fun hv d H' s' hd => ?_, fun _ q H' hq hl JS ch => ?_⟩⟩
      · exact h.no (by rw [e1]; exact hv) d H' s' (by rw [e1]; exact hd)
      · refine h.yes q H' D hq (by rw [e1]; exact hl) rfl (by rw [e2]; exact J.caller (by omega) JS ch) (fun b o e hb => ch b o e fun hm => hb (.inr (.inr (.inr ⟨k, by omega, hm⟩)))) (fun x hx => .inl hx)
    -- a caller's start
    have n0 : n = 0 := by omega
    subst n0
    obtain ⟨me, rfl⟩ := len1 hn
    refine ⟨_, rfl, pn, _, ((0 : Nat) : Int), .int (me : Int), rfl, rfl, sn, atI_nat rfl, _, _, rfl, rfl, _, rfl, iteGt 3 rfl (fun g3 => ?_) (fun g3 => ?_)⟩
    · have e0 : Km448.cDoes (m k) (.cStart me) = (m k, Km448.only (-22)) := by rw [told_start, if_pos (by omega)]
      have e1 : reply 0 k (theCall 0 [me] row) m z = Km448.only (-22) := by
        show (Km448.cDoes (m k) (.cStart me)).2 = _
        rw [e0]
      have e2 : after 0 k (theCall 0 [me] row) m z = (m, z) := by
        show (put m k (Km448.cDoes (m k) (.cStart me)).1, z) = _
        rw [e0, put_id]
      refine ⟨(by show 1 ≤ sizeLine; decide), fun q hq => ?_⟩
      refine h.yes q _ D hq (by rw [e1]; exact upd_same) rfl (by rw [e2]; exact J.same (same_upd hq)) (fun b o e hb => same_upd hq b o e) (fun x hx => .inl hx)
    · have e0 : Km448.cDoes (m k) (.cStart me) = (Km448.caller0 me, Km448.only 0) := by rw [told_start, if_neg (by omega)]
      have e1 : reply 0 k (theCall 0 [me] row) m z = Km448.only 0 := by
        show (Km448.cDoes (m k) (.cStart me)).2 = _
        rw [e0]
      have e2 : after 0 k (theCall 0 [me] row) m z = (put m k (Km448.caller0 me), z) := by
        show (put m k (Km448.cDoes (m k) (.cStart me)).1, z) = _
        rw [e0]
      refine ⟨_, rfl, pn, _, ((0 : Nat) : Int), .int (me : Int), rfl, rfl, sn, atI_nat rfl, fun x dx' nx nd ne => ⟨x, dx', me, rfl, upd_same, fun H1 A' ea JA n1 n2 kp => ⟨rfl, ?_⟩⟩⟩
      have s1 := Same.made nx nd kp
      have nn : ∀ y ∈ A'.own, H y = none := fun y hy => by
        rcases mem_own hy with rfl | rfl | rfl
        · rw [ea]; exact nx
        · exact (upd_none (upd_none n1).2).2
        · exact (upd_none (upd_none n2).2).2
      have J2 := J.newCaller (k := k) (by omega) s1 JA nn
      refine ⟨_, rfl, D.d, CD, dx, _, _, rfl, s1 _ _ hI, T.clD, T.nCallers, by rfl, _, rfl, D.cs, _, (k : Int), k, rfl, rfl, s1 _ _ J.cs, ?_, (by show 1 ≤ sizeLine; decide), fun q hq => ?_⟩
      · show ixN 3 (k : Int) = some k
        unfold ixN
        rw [if_pos (Int.natCast_nonneg _), if_pos (by omega), Int.toNat_natCast]
      · rw [← ea] at hq ⊢
        obtain ⟨q1, hq1⟩ := upd_none hq
        refine h.yes q _ { D with A := putA D.A k A' } (s1.free hq1) (by rw [e1]; exact upd_same) rfl (by rw [e2]; exact J2.same (same_upd hq)) (fun b o e hb => ?_) ?_
        · exact upd_get (ne_new (s1 _ _ e) hq1) (upd_get (fun q => hb (.inr (.inl q))) (s1 _ _ e))
        · rintro y (rfl | rfl | hy | ⟨j, hj, hy⟩)
          · exact .inl (.inl rfl)
          · exact .inl (.inr (.inl rfl))
          · exact .inl (.inr (.inr (.inl hy)))
          · have hy : y ∈ (putA D.A k A' j).own := hy
            by_cases e : j = k
            · subst e
              have e3 : putA D.A j A' j = A' := if_pos rfl
              rw [e3] at hy
              exact .inr (nn y hy)
            · have e3 : putA D.A k A' j = D.A j := if_neg e
              rw [e3] at hy
              exact .inl (.inr (.inr (.inr ⟨j, hj, hy⟩)))

/-! ### answer_to. Slots: self, word, which, numbers, row, e -/
theorem scAT : FnScope ["self", "word", "which", "numbers", "row", "e"] ["self", "word", "which", "numbers", "row"] (defScope (sD 2)) := ⟨rfl, rfl, rfl, by decide +kernel, rfl, by decide +kernel, by decide +kernel⟩
theorem ok_at {f fC : Addr} {fd : FuncData} (F : Fun K "answer_to" "Desk.answer_to" (sD 2) f fd) (T : Txt K mg CR CC CS CD fRI fNeed fCon fIsC fTold fBits fOfC fOfS aNUM aROW)
    (mC : Meth K CD "call" fC) (GC : Can P w K mg base (L2.CX P w) 7 fC ["self", "word", "which", "numbers", "row"] (spDCall K CR CD CC CS)) :
    FnOk P w K mg base CX0 8 f fd ["self", "word", "which", "numbers", "row"] (spAT K CR CD CC CS) := by
  obtain ⟨fdC, GC, bC⟩ := GC
  refine F.ok scAT (fun vs H Q E h => ?_) (fun cdv A outer s H vs Q E hr h => ⟨_, pss_one (ps_try_as (i := 5) (tb := fun W => tRet (tMethS CD "call" (spDCall K CR CD CC CS) (WE W) (tVar 0) (tCons (tVar 1) (tCons (tVar 2) (tCons (tVar 3) (tCons (tVar 4) tNil))))))
      (ts := fun a cls d => tRet (tLst (tCons (tByLow CR a cls d (tVar 5)) tNil))) (Wout := fun _ _ _ _ => False) rfl rfl scAT.nd rfl rfl ⟨rfl, by decide, Or.inl T.low.gC⟩ takes0
      (fun W pn xe tk _ => pss_one (ps_ret (pe_methS (pv 0) T.clD mC GC hr bC (fun σ => passAt tk σ) (by exact (pa_cons (pv 1) (pa_cons (pv 2) (pa_cons (pv 3) (pa_cons (pv 4) pa_nil))))))))
      (fun a oe cls d pn hz hf => pss_one (ps_ret (by exact (pe_lst (pa_cons (pe_byLow T.low hz hf (pv 5)) pa_nil)))))), ?_⟩)
  · obtain ⟨D, m, z, n, k, pn, pr, ns, row, rfl, _⟩ := h
    rfl
  · obtain ⟨D, m, z, n, k, pn, pr, ns, row, rfl, I, h⟩ := h
    obtain ⟨dx, hI⟩ := I.at_.ins
    refine ⟨_, rfl, D.d, dx, _, rfl, hI, by rfl, _, rfl, _, rfl, _, rfl, _, rfl, D, m, z, n, k, pn, pr, ns, row, rfl, I, ⟨fun hv d H' s' hd => ?_, h⟩⟩
    obtain ⟨e1, e2⟩ := reply_neg hv
    refine ⟨true, T.low.te, fun _ a ha => ?_, fun q => Bool.noConfusion q⟩
    refine ⟨_, rfl, rfl, rfl, d, _, rfl, hd, (by show 1 ≤ sizeLine; decide), fun q hq => ?_⟩
    refine h q _ D (s'.free hq) ?_ rfl ?_ (fun b o e _ => same_upd_of s' hq b o e) (fun x hx => .inl hx)
    · rw [e1]
      exact upd_same
    · rw [e2]
      exact I.at_.same (same_upd_of s' hq)
end
end CA

/-! # HRad5: answers -/
namespace CA
open PySem PySem.Spec PyProof.Rows L2
open Km448Neutral (nums)
open Km448 (Caller Shore What Heard)
open CM

theorem DAt.off {CD CC CS : Addr} {H H' : Hp} {D : Dd} {m : MS} {s : Shore} {L : List Addr} (J : DAt CD CC CS H D m s) (ch : Chg L H H') (n : ∀ x ∈ L, ¬ Foot D x) (nt : ∀ x ∈ L, ∀ r, H x ≠ some (.tup r)) : DAt CD CC CS H' D m s := by
  obtain ⟨⟨dx, h1⟩, h2, h3, h4, h5⟩ := J
  exact ⟨⟨dx, ch _ _ h1 fun hm => n _ hm (.inl rfl)⟩, ch _ _ h2 fun hm => n _ hm (.inr (.inl rfl)), fun k hk => (h3 k hk).chg ch (fun x hx hm => n _ hm (.inr (.inr (.inr ⟨k, hk, hx⟩)))) nt,
    h4.chg ch (fun x hx hm => n _ hm (.inr (.inr (.inl hx)))) nt, h5⟩
theorem cut_at {l : List Int} {i j : Nat} (h : i ≤ j) (hj : j ≤ l.length) : cutV (l.map V.int) (some (i : Int)) (some (j : Int)) = ((l.drop i).take (j - i)).map V.int := by
  have e1 : ∀ (d n : Nat), n ≤ l.length → HT.sIx (l.map V.int).length d (some (n : Int)) = n := fun d n hn => by
    unfold HT.sIx
    dsimp only
    rw [if_neg (by omega), Int.toNat_natCast, List.length_map]
    omega
  unfold cutV
  rw [e1 0 i (by omega), e1 _ j hj, ← List.map_drop, ← List.map_take]
theorem numb_at {w : Nat} (h : w ≤ 16) : NUMBV[w]? = some (.int ((NUMB.getD w 0 : Nat) : Int)) := by
  have hl : w < NUMB.length := by show w < 17; omega
  have e : NUMB[w]? = some (NUMB.getD w 0) := by rw [List.getD_eq_getElem?_getD, List.getElem?_eq_getElem hl]; rfl
  exact vis_at e
theorem in_row (w : Nat) : inV (.int (w : Int)) [.int 3, .int 7, .int 10] = hasRow w := by
  have e := inV_vis w [3, 7, 10]
  show inV (.int (w : Int)) (vis [3, 7, 10]) = _
  rw [e]
  unfold hasRow
  rw [Bool.eq_iff_iff]
  simp
theorem map_int_at {l : List Int} {i : Nat} {z : Int} (h : l[i]? = some z) : (l.map V.int)[i]? = some (.int z) := by
  rw [List.getElem?_map, h]
  rfl
/-- what lies at a place of the calls -/
structure Here (l : List Int) (at_ w k : Nat) (ns row : List Nat) : Prop where
  word : l[at_]? = some (w : Int)
  which : l[at_ + 1]? = some (k : Int)
  le : at_ + 2 + ns.length ≤ l.length
  nums : (l.drop (at_ + 2)).take ns.length = Km448Neutral.nums ns
  row : (hasRow w = false ∧ row = []) ∨ (hasRow w = true ∧ row.length = 6 ∧ l[at_ + 2 + ns.length]? = some 6 ∧ at_ + 2 + ns.length + 7 ≤ l.length ∧ (l.drop (at_ + 2 + ns.length + 1)).take 6 = Km448Neutral.nums row)
theorem here_of {l : List Int} {at_ : Nat} {c : List (List Int)} {t : List Int} {w k : Nat} {ns row : List Nat} (v : View (l.drop at_) c t w k ns row) : Here l at_ w k ns row := by
  have g : ∀ i, l[at_ + i]? = (l.drop at_)[i]? := fun i => (List.getElem?_drop).symm
  have hl : (l.drop at_).length = l.length - at_ := List.length_drop
  have ln : (Km448Neutral.nums ns).length = ns.length := List.length_map ..
  obtain ⟨t', e, hr⟩ : ∃ t', l.drop at_ = (w : Int) :: (k : Int) :: (Km448Neutral.nums ns ++ t') ∧ ((hasRow w = false ∧ row = []) ∨ (hasRow w = true ∧ row.length = 6 ∧ t' = 6 :: (Km448Neutral.nums row ++ t))) := by
    rcases v.lay with ⟨h1, h2, h3, _⟩ | ⟨h1, h2, h3, _⟩
    · exact ⟨t, h3, .inl ⟨h1, h2⟩⟩
    · exact ⟨6 :: (Km448Neutral.nums row ++ t), h3, .inr ⟨h1, h2, rfl⟩⟩
  have e2 : l.drop (at_ + 2) = Km448Neutral.nums ns ++ t' := by
    rw [← List.drop_drop, e]
    rfl
  have len1 : (l.drop at_).length = 2 + ns.length + t'.length := by
    rw [e, List.length_cons, List.length_cons, List.length_append, ln]
    omega
  have e3 : l.drop (at_ + 2 + ns.length) = t' := by
    rw [← List.drop_drop, e2, ← ln, List.drop_left]
  refine ⟨?_, ?_, by omega, ?_, ?_⟩
  · have := g 0
    rw [e] at this
    exact this
  · have := g 1
    rw [e] at this
    exact this
  · rw [e2, ← ln, List.take_left]
  · rcases hr with h | ⟨h1, h2, h3⟩
    · exact .inl h
    · have lr : (Km448Neutral.nums row).length = row.length := List.length_map ..
      have lt : t'.length = 7 + t.length := by
        rw [h3, List.length_cons, List.length_append, lr, h2]
        omega
      refine .inr ⟨h1, h2, ?_, by omega, ?_⟩
      · have : (l.drop (at_ + 2 + ns.length))[0]? = l[at_ + 2 + ns.length + 0]? := List.getElem?_drop
        rw [e3, h3] at this
        exact this.symm
      · have : l.drop (at_ + 2 + ns.length + 1) = Km448Neutral.nums row ++ t := by
          rw [← List.drop_drop, e3, h3]
          rfl
        rw [this, ← h2, ← lr, List.take_left]
theorem wf_after {w k : Nat} {x : Km448.Call} {m : MS} {s : Shore} (W : ∀ j, j < 3 → WF (m j)) (hk : k < 3) : ∀ j, j < 3 → WF ((after w k x m s).1 j) := fun j hj => by
  unfold after
  split
  · show WF (put m k _ j)
    by_cases e : j = k
    · subst e
      rw [put_same]
      exact wf_does (W j hj) x
    · rw [put_ne e]
      exact W j hj
  · exact W j hj
theorem wfs_after {w k : Nat} {x : Km448.Call} {m : MS} {s : Shore} (W : WFS s) : WFS (after w k x m s).2 := by
  unfold after
  split
  · exact W
  · exact wfs_does W x
theorem log_after {w k : Nat} {x : Km448.Call} {m : MS} {s : Shore} : (after w k x m s).2.log.length ≤ s.log.length + 1 := by
  unfold after
  split
  · exact Nat.le_succ _
  · exact log_does s x
/-- how far the calls still go -/
def cLeft (n : Nat) (σ : L2.St) (_ : Hp) : Nat := match σ[3]? with
  | some (some (L2.V.int z)) => ((n : Int) - z).toNat
  | _ => 0

def spAns (K : PySem.W.Frag) : Sp := fun vs H Q _ => ∃ (a : Addr) (l : List Int), vs = [.ref a] ∧ SqL K H a (l.map V.int) ∧ PyKm448.answers_asked l = true ∧
  ∀ (H' : Hp) (p : Addr), H' p = some (.lst ((PyKm448.answers l).map V.int)) → Q (.ref p) H'

/-- between two turns -/
structure Turns (K : PySem.W.Frag) (CD CC CS : Addr) (l : List Int) (H0 H' : Hp) (f : Addr) (at_ : Nat) (fnd : List Int) (D : Dd) (m : MS) (s : Shore) (n : Nat) : Prop where
  same : Same H0 H'
  foot : ∀ x, Foot D x → H0 x = none
  fn : H0 f = none
  fl : H' f = some (.lst (fnd.map V.int))
  ff : ¬ Foot D f
  da : DAt CD CC CS H' D m s
  wf : ∀ j, j < 3 → WF (m j)
  wfs : WFS s
  len : s.log.length + n ≤ 1000
  go : Go l at_ fnd m s n

section
variable {P : Program} {w : World} {K : PySem.W.Frag} {mg : Str → Option Value} {base : Heap} {CR CC CS CD fRI fNeed fCon fIsC fTold fBits fOfC fOfS aNUM aROW : Addr}

/-! ### answers. Slots: calls, desk, found, at, word, which, here, numbers, row, told -/
theorem scAns : FnScope ["calls", "desk", "found", "at", "word", "which", "here", "numbers", "row", "told"] ["calls"] (defScope sAnswers) := ⟨rfl, rfl, rfl, by decide +kernel, rfl, by decide +kernel, by decide +kernel⟩
theorem ok_ans {f fDI : Addr} {fd : FuncData} (F : Fun K "answers" "answers" sAnswers f fd) (T : Txt K mg CR CC CS CD fRI fNeed fCon fIsC fTold fBits fOfC fOfS aNUM aROW)
    (MD : Mk K CD fDI) (GD : Can P w K mg base CX0 3 fDI ["self"] (spDInit CD CC CS)) (MA : MCan P w K mg base CX0 8 CD "answer_to" ["self", "word", "which", "numbers", "row"] (spAT K CR CD CC CS)) :
    FnOk P w K mg base CX0 9 f fd ["calls"] (spAns K) := by
  obtain ⟨fdD, GD, bD⟩ := GD
  obtain ⟨fA, mA, fdA, GA, bA⟩ := MA
  refine F.ok scAns (fun vs H Q E h => ?_) (fun cdv A outer s H vs Q E hr h => ⟨_, pss_cons (ps_set (i := 1) scAns.nd rfl (Or.inl rfl) (pe_make0 MD GD (hr.mono (by decide)) rfl T.gCD bD .nil pass0))
    (pss_cons (ps_set (i := 2) scAns.nd rfl (Or.inl rfl) (pe_lst pa_nil))
    (pss_cons (ps_set (i := 3) scAns.nd rfl (Or.inl rfl) pe_int)
    (pss_cons (ps_while PassesOwn.never (pt_cmpR op_lt (pv 3) (pe_callB call_len_seq (by rfl) T.len PySem.boot_len (pa_cons (pv 0) pa_nil)) (nomark _))
      (pss_cons (ps_set (i := 4) scAns.nd rfl (Or.inl rfl) (pe_ix ix_list (pv 0) (pv 3) (fun _ _ => rfl)))
      (pss_cons (ps_set (i := 5) scAns.nd rfl (Or.inl rfl) (pe_ix ix_list (pv 0) (pe_op op_add (pv 3) pe_int) (fun _ _ => rfl)))
      (pss_cons (ps_set (i := 6) scAns.nd rfl (Or.inl rfl) (pe_op op_add (pe_op op_add (pv 3) pe_int) (pe_ix ix_tup (pe_gr T.gNUMBERS) (pv 4) (fun _ _ => rfl))))
      (pss_cons (ps_set (i := 7) scAns.nd rfl (Or.inl rfl) (pe_slice sl_list (pv 0) (po_some (pe_op op_add (pv 3) pe_int)) (po_some (pv 6))))
      (pss_cons (ps_set (i := 3) scAns.nd rfl (Or.inl rfl) (pv 6))
      (pss_cons (ps_set (i := 8) scAns.nd rfl (Or.inl rfl) (pe_lst pa_nil))
      (C8.pss_cut (ps_if (pt_cmpR op_in_seq (pv 4) (pe_gr T.gROW) rfl) (pss_cons (ps_set (i := 3) scAns.nd rfl (Or.inl rfl) (pe_op op_add (pe_op op_add (pv 6) pe_int) (pe_ix ix_list (pv 0) (pv 6) (fun _ _ => rfl))))
        (pss_one (ps_set (i := 8) scAns.nd rfl (Or.inl rfl) (pe_slice sl_list (pv 0) (po_some (pe_op op_add (pv 6) pe_int)) (po_some (pv 3)))))) pss_nil)
      (pss_cons (ps_set (i := 9) scAns.nd rfl (Or.inl rfl) (pe_meth (pv 1) T.clD mA GA hr bA .nil pass0 (pa_cons (pv 4) (pa_cons (pv 5) (pa_cons (pv 7) (pa_cons (pv 8) pa_nil))))))
      (pss_cons (ps_expr (pe_bm PySem.F.plainAttrs_list PySem.F.slot_list_append PySem.F.type_list_append mt_append (pv 2) (pa_cons (pe_callB call_len_seq (by rfl) T.len PySem.boot_len (pa_cons (pv 9) pa_nil)) pa_nil)))
      (pss_one (ps_expr (pe_bm PySem.F.plainAttrs_list PySem.F.slot_list_extend PySem.F.type_list_extend mt_extend (pv 2) (pa_cons (pv 9) pa_nil))))))))))))))
    (pss_one (ps_ret (pv 2)))))), ?_⟩)
  · obtain ⟨a, l, rfl, _⟩ := h
    rfl
  · obtain ⟨a, l, rfl, hS, hask, h⟩ := h
    -- desk = Desk()
    refine fun x dx nx nd ne => ⟨x, dx, rfl, upd_same, fun H1 D ed J foot kp => ⟨rfl, ?_⟩⟩
    have s1 : Same H H1 := Same.made nx nd kp
    have ft : ∀ y, Foot D y → H y = none := fun y hy => by
      rcases foot y hy with rfl | e
      · exact nx
      · exact (upd_none (upd_none e).2).2
    refine ⟨Nat.zero_le _, fun f hf => ?_⟩
    have fF : ¬ Foot D f := fun hy => by
      obtain ⟨o, e, _⟩ := J.there hy
      rw [hf] at e
      cases e
    obtain ⟨⟨n0, hn0, G0⟩, hbig⟩ := go_start hask (fun k => Km448.caller0 k) Km448.shore0
    have T0 : Turns K CD CC CS l H (upd H1 f (.lst [])) f 0 [] D (fun k => Km448.caller0 k) Km448.shore0 n0 :=
      ⟨same_upd_of s1 hf, ft, s1.free hf, upd_same, fF, J.same (same_upd hf), fun j _ => wf0 j, wfs0, by show 0 + n0 ≤ 1000; omega, G0⟩
    subst ed
    refine while_by (fun σ H' => ∃ (at_ : Nat) (fnd : List Int) (D' : Dd) (m : MS) (z : Shore) (n : Nat) (v4 v5 v6 v7 v8 v9 : Option V), σ = [some (.ref a), some (.ref D'.d), some (.ref f), some (.int (at_ : Int)), v4, v5, v6, v7, v8, v9] ∧ Turns K CD CC CS l H H' f at_ fnd D' m z n) (cLeft l.length)
      ⟨0, [], D, _, _, n0, none, none, none, none, none, none, rfl, T0⟩ ?_ ?_
    · rintro σ H' ⟨at_, fnd, D', m, z, n, v4, v5, v6, v7, v8, v9, rfl, I⟩
      have hS' := I.same.seq hS
      refine ⟨_, rfl, _, rfl, a, _, rfl, .inl hS', _, _, rfl, rfl, _, rfl, ?_⟩
      rw [List.length_map]
      by_cases hend : at_ < l.length
      rotate_left
      · rw [decide_eq_false (show ¬ (at_ : Int) < (l.length : Int) by omega)]
        refine iteF ⟨_, rfl, ?_⟩
        have e := go_end I.go (by omega)
        subst e
        exact h H' f I.fl
      rw [decide_eq_true (show (at_ : Int) < (l.length : Int) by omega)]
      refine iteT ?_
      obtain ⟨wd, k, ns, row, c, t, n', en, v, G'⟩ := go_step I.go hend
      have hh := here_of v
      have hw := v.hw
      have hk := v.hk
      have hn := v.hn
      -- word, which, here
      refine ⟨_, rfl, _, rfl, a, _, (at_ : Int), .int (wd : Int), rfl, rfl, hS', atI_nat (map_int_at hh.word), ?_⟩
      refine ⟨_, rfl, _, rfl, _, _, rfl, rfl, a, _, ((at_ : Int) + 1), .int (k : Int), rfl, rfl, hS', ?_, ?_⟩
      · rw [show (at_ : Int) + 1 = ((at_ + 1 : Nat) : Int) by omega]
        exact atI_nat (map_int_at hh.which)
      refine ⟨_, rfl, _, _, rfl, rfl, _, rfl, aNUM, _, (wd : Int), .int ((NUMB.getD wd 0 : Nat) : Int), rfl, rfl, T.sNUMBERS _, atI_nat (numb_at hw), _, _, rfl, rfl, ?_⟩
      -- numbers
      refine ⟨_, rfl, _, rfl, _, _, rfl, rfl, _, rfl, _, rfl, _, rfl, a, _, rfl, hS', fun q hq => ?_⟩
      have eN : cutV (l.map V.int) (some ((at_ : Int) + 2)) (some ((at_ : Int) + 2 + ((NUMB.getD wd 0 : Nat) : Int))) = vis ns := by
        rw [← hn, show (at_ : Int) + 2 = ((at_ + 2 : Nat) : Int) by omega, show ((at_ + 2 : Nat) : Int) + (ns.length : Int) = ((at_ + 2 + ns.length : Nat) : Int) by omega, cut_at (by omega) hh.le,
          show at_ + 2 + ns.length - (at_ + 2) = ns.length by omega, hh.nums]
        rfl
      have eH : (at_ : Int) + 2 + ((NUMB.getD wd 0 : Nat) : Int) = ((at_ + 2 + ns.length : Nat) : Int) := by omega
      rw [eN]
      have s2 : Same H' (upd H' q (.lst (vis ns))) := same_upd hq
      have hq2 : upd H' q (.lst (vis ns)) q = some (.lst (vis ns)) := upd_same
      generalize upd H' q (.lst (vis ns)) = H2 at s2 hq2 ⊢
      have hS2 := s2.seq hS'
      -- at = here; row = []
      refine ⟨_, rfl, Nat.zero_le _, fun r0 hr0 => ?_⟩
      have s3 : Same H2 (upd H2 r0 (.lst [])) := same_upd hr0
      -- if word in WITH_ROW
      refine ⟨fun σ H4 => ∃ (pr : Addr) (v6 : Option V), σ = [some (.ref a), some (.ref D'.d), some (.ref f), some (.int ((at_ + (2 + ns.length + (if hasRow wd = true then 7 else 0)) : Nat) : Int)), some (.int (wd : Int)), some (.int (k : Int)), v6, some (.ref q), some (.ref pr), v9] ∧ Same H2 H4 ∧ H4 pr = some (.lst (vis row)), ?_, ?_⟩
      · refine ⟨_, rfl, aROW, _, rfl, .inr (T.sROW _), rfl, rfl, _, rfl, ?_⟩
        rw [if_neg Bool.false_ne_true, in_row]
        rcases hh.row with ⟨r1, r2⟩ | ⟨r1, r2, r3, r4, r5⟩
        · rw [r1]
          refine iteF ⟨r0, some (.int ((at_ : Int) + 2 + ((NUMB.getD wd 0 : Nat) : Int))), ?_, s3, ?_⟩
          · rw [if_neg Bool.false_ne_true, show ((at_ + (2 + ns.length + 0) : Nat) : Int) = (at_ : Int) + 2 + ((NUMB.getD wd 0 : Nat) : Int) by omega]
            rfl
          · rw [r2]
            exact upd_same
        · rw [r1]
          refine iteT ⟨_, rfl, _, _, rfl, rfl, _, rfl, _, rfl, a, _, _, .int 6, rfl, rfl, s3.seq hS2, ?_, _, _, rfl, rfl, ?_⟩
          · rw [eH]
            exact atI_nat (map_int_at r3)
          refine ⟨_, rfl, _, rfl, _, _, rfl, rfl, _, rfl, _, rfl, _, rfl, a, _, rfl, s3.seq hS2, fun pr hpr => ?_⟩
          have eR : cutV (l.map V.int) (some ((at_ : Int) + 2 + ((NUMB.getD wd 0 : Nat) : Int) + 1)) (some ((at_ : Int) + 2 + ((NUMB.getD wd 0 : Nat) : Int) + 1 + 6)) = vis row := by
            rw [eH, show ((at_ + 2 + ns.length : Nat) : Int) + 1 = ((at_ + 2 + ns.length + 1 : Nat) : Int) by omega, show ((at_ + 2 + ns.length + 1 : Nat) : Int) + 6 = ((at_ + 2 + ns.length + 7 : Nat) : Int) by omega, cut_at (by omega) r4,
              show at_ + 2 + ns.length + 7 - (at_ + 2 + ns.length + 1) = 6 by omega, r5]
            rfl
          refine ⟨pr, some (.int ((at_ : Int) + 2 + ((NUMB.getD wd 0 : Nat) : Int))), ?_, same_upd_of s3 hpr, ?_⟩
          · rw [if_pos rfl, show ((at_ + (2 + ns.length + 7) : Nat) : Int) = (at_ : Int) + 2 + ((NUMB.getD wd 0 : Nat) : Int) + 1 + 6 by omega]
            rfl
          · rw [← eR]
            exact upd_same
      · rintro σ H4 ⟨pr, v6', rfl, s4, hpr⟩
        have sA : Same H' H4 := s2.trans s4
        obtain ⟨dx', hI⟩ := I.da.ins
        refine ⟨_, rfl, D'.d, dx', _, rfl, sA _ _ hI, by rfl, _, rfl, _, rfl, _, rfl, _, rfl, D', m, z, wd, k, q, pr, ns, row, rfl, ⟨hw, hk, hn, fun e => ?_, SqL.here (s4 _ _ hq2), SqL.here hpr, I.da.same sA, I.wf, I.wfs, by have := I.len; omega⟩, fun p H5 D'' hp hl ed J' kp ft' => ?_⟩
        · rcases hh.row with ⟨r1, _⟩ | ⟨_, r2, _⟩
          · rw [r1] at e
            cases e
          · exact r2
        have hf4 := sA _ _ I.fl
        have hf5 := kp _ _ hf4 I.ff
        have bnd := go_bound G'
        rw [List.length_append, List.length_cons] at bnd
        have pf : f ≠ p := ne_new hf4 hp
        -- found.append(len(told))
        refine ⟨_, rfl, .inl ⟨rfl, _, SqL.here hf5⟩, _, rfl, p, _, rfl, .inl (SqL.here hl), f, _, _, rfl, rfl, hf5, ?_, ?_⟩
        · rw [List.length_map]
          exact ltLine (by omega)
        -- found.extend(told)
        refine ⟨_, rfl, .inl ⟨rfl, _, SqL.here upd_same⟩, _, rfl, f, p, _, _, rfl, rfl, upd_same, upd_get (Ne.symm pf) hl, ?_, ?_⟩
        · rw [List.length_append, List.length_map, List.length_map, List.length_singleton]
          exact leLine (by omega)
        rw [upd_upd, List.length_map]
        have eL : fnd.map V.int ++ [V.int ((Km448Neutral.told (reply wd k (theCall wd ns row) m z)).length : Int)] ++ (Km448Neutral.told (reply wd k (theCall wd ns row) m z)).map V.int =
            (fnd ++ ((Km448Neutral.told (reply wd k (theCall wd ns row) m z)).length : Int) :: Km448Neutral.told (reply wd k (theCall wd ns row) m z)).map V.int := by
          rw [List.map_append, List.map_cons, List.append_assoc]
          rfl
        rw [eL]
        have ff'' : ¬ Foot D'' f := fun hm => by
          rcases ft' f hm with hm | hm
          · exact I.ff hm
          · rw [hf4] at hm
            cases hm
        refine ⟨⟨at_ + (2 + ns.length + (if hasRow wd = true then 7 else 0)), _, D'', _, _, n', some (.int (wd : Int)), some (.int (k : Int)), v6', some (.ref q), some (.ref pr), some (.ref p), by rw [ed]; rfl, ⟨fun b o e => ?_, fun x hx => ?_, I.fn, upd_same, ff'', ?_, wf_after I.wf (by omega), wfs_after I.wfs, ?_, G'⟩⟩, ?_⟩
        · have b1 : b ≠ f := ne_new e I.fn
          refine upd_get b1 (kp _ _ (sA _ _ (I.same _ _ e)) fun hm => ?_)
          rw [I.foot b hm] at e
          cases e
        · rcases ft' x hx with hm | hm
          · exact I.foot x hm
          · exact (I.same.trans sA).free hm
        · refine J'.off (L := [f]) (chg_upd (Chg.of_same (Same.refl _)) (.inl List.mem_cons_self)) (fun x hx => ?_) (fun x hx r e => ?_)
          · have : x = f := by simpa using hx
            rw [this]
            exact ff''
          · have : x = f := by simpa using hx
            rw [this, hf5] at e
            cases e
        · have h1 := log_after (w := wd) (k := k) (x := theCall wd ns row) (m := m) (s := z)
          have h2 := I.len
          omega
        · show ((l.length : Int) - ((at_ + (2 + ns.length + (if hasRow wd = true then 7 else 0)) : Nat) : Int)).toNat < ((l.length : Int) - (at_ : Int)).toNat
          generalize (if hasRow wd = true then 7 else 0) = b7
          omega
    · rintro σ H' Q1 Q2 hQ ⟨v, e1, v2, e2, p, ys, e3, e4, i, j, e5, e6, b, e7, e8⟩
      exact ⟨v, e1, v2, e2, p, ys, e3, e4, i, j, e5, e6, b, e7, hQ _ _ e8⟩
end
end CA

/-! # HEnd: what the top has written, collected; the last theorem (printed by gen_end.py) -/
namespace CA
open PySem PySem.Spec PyProof.Rows L2
open Km448Neutral (nums)
open Km448 (Caller Shore What Heard)
open CM
/-- an error of the class at S is what «except S» names -/
theorem exm_self {K : PySem.W.Frag} {S : Addr} (h1 : PySem.W.subIn K (.ref S) (.type "BaseException") = some true) (h2 : PySem.W.isClsIn K S = true) (h3 : PySem.W.typeIn K (.ref S) = some (.type "type")) (h4 : PySem.W.subIn K (.ref S) (.ref S) = some true) :
    PySem.W.exmOne K (.ref S) (.ref S) = some true := by
  have e1 : (PySem.W.subIn K (.ref S) (.type "BaseException") == some true) = true := by rw [h1] <;> rfl
  have e2 : ((PySem.W.clsIn K S).isSome && PySem.W.typeIn K (.ref S) == some (.type "type")) = true := by
    have h2' : (PySem.W.clsIn K S).isSome = true := h2
    rw [h2', h3] <;> rfl
  show (if (PySem.W.subIn K (.ref S) (.type "BaseException") == some true) = true then (if ((PySem.W.clsIn K S).isSome && PySem.W.typeIn K (.ref S) == some (.type "type")) = true then PySem.W.subIn K (.ref S) (.ref S) else none) else none) = some true
  rw [if_pos e1, if_pos e2]
  exact h4
/-- from what the top has left of each def to the promise of answers -/
theorem all_ok {P : Program} {w : World} {K : PySem.W.Frag} {mg : Str → Option Value} {base : Heap} {CR CC CS CD fRI a_NUMBERS a_WITH_ROW : Addr} {f_need f_is_content f_is_call f_told_by f_bits_of f_of_caller f_of_shore f_answers f_C_init f_C_all_open f_C_may_call f_C_say f_C_next_told f_C_tell f_C_is_good f_C_newly f_C_hear f_C_would f_C_known f_C_still_open f_C_said f_C_state f_S_init f_S_of_call f_S_hear f_S_numbers_of f_S_answer_for f_S_get f_S_find f_S_of_caller f_S_gaps f_S_state f_D_init f_D_call f_D_answer_to : Addr}
    (T : Txt K mg CR CC CS CD fRI f_need f_is_content f_is_call f_told_by f_bits_of f_of_caller f_of_shore a_NUMBERS a_WITH_ROW)
    (MC : Mk K CC f_C_init) (MS : Mk K CS f_S_init) (MD : Mk K CD f_D_init)
    (m_C_all_open : Meth K CC "all_open" f_C_all_open)
    (m_C_may_call : Meth K CC "may_call" f_C_may_call)
    (m_C_say : Meth K CC "say" f_C_say)
    (m_C_next_told : Meth K CC "next_told" f_C_next_told)
    (m_C_tell : Meth K CC "tell" f_C_tell)
    (m_C_is_good : Meth K CC "is_good" f_C_is_good)
    (m_C_newly : Meth K CC "newly" f_C_newly)
    (m_C_hear : Meth K CC "hear" f_C_hear)
    (m_C_would : Meth K CC "would" f_C_would)
    (m_C_known : Meth K CC "known" f_C_known)
    (m_C_still_open : Meth K CC "still_open" f_C_still_open)
    (m_C_said : Meth K CC "said" f_C_said)
    (m_C_state : Meth K CC "state" f_C_state)
    (m_S_of_call : Meth K CS "of_call" f_S_of_call)
    (m_S_hear : Meth K CS "hear" f_S_hear)
    (m_S_numbers_of : Meth K CS "numbers_of" f_S_numbers_of)
    (m_S_answer_for : Meth K CS "answer_for" f_S_answer_for)
    (m_S_get : Meth K CS "get" f_S_get)
    (m_S_find : Meth K CS "find" f_S_find)
    (m_S_of_caller : Meth K CS "of_caller" f_S_of_caller)
    (m_S_gaps : Meth K CS "gaps" f_S_gaps)
    (m_S_state : Meth K CS "state" f_S_state)
    (m_D_call : Meth K CD "call" f_D_call)
    (m_D_answer_to : Meth K CD "answer_to" f_D_answer_to)
    (F_need : ∃ fd, Fun K "need" "need" sNeed f_need fd)
    (F_is_content : ∃ fd, Fun K "is_content" "is_content" sContent f_is_content fd)
    (F_is_call : ∃ fd, Fun K "is_call" "is_call" sIsCall f_is_call fd)
    (F_told_by : ∃ fd, Fun K "told_by" "told_by" sToldBy f_told_by fd)
    (F_bits_of : ∃ fd, Fun K "bits_of" "bits_of" sBitsOf f_bits_of fd)
    (F_of_caller : ∃ fd, Fun K "of_caller" "of_caller" sOfCaller f_of_caller fd)
    (F_of_shore : ∃ fd, Fun K "of_shore" "of_shore" sOfShore f_of_shore fd)
    (F_C_init : ∃ fd, Fun K "__init__" "Caller.__init__" (sC 0) f_C_init fd)
    (F_C_all_open : ∃ fd, Fun K "all_open" "Caller.all_open" (sC 1) f_C_all_open fd)
    (F_C_may_call : ∃ fd, Fun K "may_call" "Caller.may_call" (sC 2) f_C_may_call fd)
    (F_C_say : ∃ fd, Fun K "say" "Caller.say" (sC 3) f_C_say fd)
    (F_C_next_told : ∃ fd, Fun K "next_told" "Caller.next_told" (sC 4) f_C_next_told fd)
    (F_C_tell : ∃ fd, Fun K "tell" "Caller.tell" (sC 5) f_C_tell fd)
    (F_C_is_good : ∃ fd, Fun K "is_good" "Caller.is_good" (sC 6) f_C_is_good fd)
    (F_C_newly : ∃ fd, Fun K "newly" "Caller.newly" (sC 7) f_C_newly fd)
    (F_C_hear : ∃ fd, Fun K "hear" "Caller.hear" (sC 8) f_C_hear fd)
    (F_C_would : ∃ fd, Fun K "would" "Caller.would" (sC 9) f_C_would fd)
    (F_C_known : ∃ fd, Fun K "known" "Caller.known" (sC 10) f_C_known fd)
    (F_C_still_open : ∃ fd, Fun K "still_open" "Caller.still_open" (sC 11) f_C_still_open fd)
    (F_C_said : ∃ fd, Fun K "said" "Caller.said" (sC 12) f_C_said fd)
    (F_C_state : ∃ fd, Fun K "state" "Caller.state" (sC 13) f_C_state fd)
    (F_S_init : ∃ fd, Fun K "__init__" "Shore.__init__" (sS 0) f_S_init fd)
    (F_S_of_call : ∃ fd, Fun K "of_call" "Shore.of_call" (sS 1) f_S_of_call fd)
    (F_S_hear : ∃ fd, Fun K "hear" "Shore.hear" (sS 2) f_S_hear fd)
    (F_S_numbers_of : ∃ fd, Fun K "numbers_of" "Shore.numbers_of" (sS 3) f_S_numbers_of fd)
    (F_S_answer_for : ∃ fd, Fun K "answer_for" "Shore.answer_for" (sS 4) f_S_answer_for fd)
    (F_S_get : ∃ fd, Fun K "get" "Shore.get" (sS 5) f_S_get fd)
    (F_S_find : ∃ fd, Fun K "find" "Shore.find" (sS 6) f_S_find fd)
    (F_S_of_caller : ∃ fd, Fun K "of_caller" "Shore.of_caller" (sS 7) f_S_of_caller fd)
    (F_S_gaps : ∃ fd, Fun K "gaps" "Shore.gaps" (sS 8) f_S_gaps fd)
    (F_S_state : ∃ fd, Fun K "state" "Shore.state" (sS 9) f_S_state fd)
    (F_D_init : ∃ fd, Fun K "__init__" "Desk.__init__" (sD 0) f_D_init fd)
    (F_D_call : ∃ fd, Fun K "call" "Desk.call" (sD 1) f_D_call fd)
    (F_D_answer_to : ∃ fd, Fun K "answer_to" "Desk.answer_to" (sD 2) f_D_answer_to fd)
    {fd : FuncData} (F : Fun K "answers" "answers" sAnswers f_answers fd) : FnOk P w K mg base CX0 9 f_answers fd ["calls"] (spAns K) := by
  obtain ⟨d_need, F_need⟩ := F_need
  obtain ⟨d_is_content, F_is_content⟩ := F_is_content
  obtain ⟨d_is_call, F_is_call⟩ := F_is_call
  obtain ⟨d_told_by, F_told_by⟩ := F_told_by
  obtain ⟨d_bits_of, F_bits_of⟩ := F_bits_of
  obtain ⟨d_of_caller, F_of_caller⟩ := F_of_caller
  obtain ⟨d_of_shore, F_of_shore⟩ := F_of_shore
  obtain ⟨d_C_init, F_C_init⟩ := F_C_init
  obtain ⟨d_C_all_open, F_C_all_open⟩ := F_C_all_open
  obtain ⟨d_C_may_call, F_C_may_call⟩ := F_C_may_call
  obtain ⟨d_C_say, F_C_say⟩ := F_C_say
  obtain ⟨d_C_next_told, F_C_next_told⟩ := F_C_next_told
  obtain ⟨d_C_tell, F_C_tell⟩ := F_C_tell
  obtain ⟨d_C_is_good, F_C_is_good⟩ := F_C_is_good
  obtain ⟨d_C_newly, F_C_newly⟩ := F_C_newly
  obtain ⟨d_C_hear, F_C_hear⟩ := F_C_hear
  obtain ⟨d_C_would, F_C_would⟩ := F_C_would
  obtain ⟨d_C_known, F_C_known⟩ := F_C_known
  obtain ⟨d_C_still_open, F_C_still_open⟩ := F_C_still_open
  obtain ⟨d_C_said, F_C_said⟩ := F_C_said
  obtain ⟨d_C_state, F_C_state⟩ := F_C_state
  obtain ⟨d_S_init, F_S_init⟩ := F_S_init
  obtain ⟨d_S_of_call, F_S_of_call⟩ := F_S_of_call
  obtain ⟨d_S_hear, F_S_hear⟩ := F_S_hear
  obtain ⟨d_S_numbers_of, F_S_numbers_of⟩ := F_S_numbers_of
  obtain ⟨d_S_answer_for, F_S_answer_for⟩ := F_S_answer_for
  obtain ⟨d_S_get, F_S_get⟩ := F_S_get
  obtain ⟨d_S_find, F_S_find⟩ := F_S_find
  obtain ⟨d_S_of_caller, F_S_of_caller⟩ := F_S_of_caller
  obtain ⟨d_S_gaps, F_S_gaps⟩ := F_S_gaps
  obtain ⟨d_S_state, F_S_state⟩ := F_S_state
  obtain ⟨d_D_init, F_D_init⟩ := F_D_init
  obtain ⟨d_D_call, F_D_call⟩ := F_D_call
  obtain ⟨d_D_answer_to, F_D_answer_to⟩ := F_D_answer_to
  have g_need : Can P w K mg base (L2.CX P w) 3 f_need ["truth", "answer"] (spNeed CR) := ⟨_, ok_need F_need T, F_need.binds (ps := ["truth", "answer"]) fun _ _ _ _ _ _ us hl => match us, hl with | [_, _], _ => rfl⟩
  have g_is_content : Can P w K mg base CX0 1 f_is_content ["kind", "x", "y"] spCon := ⟨_, ok_con F_is_content T, F_is_content.binds (ps := ["kind", "x", "y"]) fun _ _ _ _ _ _ us hl => match us, hl with | [_, _, _], _ => rfl⟩
  have g_is_call : Can P w K mg base CX0 2 f_is_call ["message"] (spIsC K) := ⟨_, ok_isc F_is_call T g_is_content, F_is_call.binds (ps := ["message"]) fun _ _ _ _ _ _ us hl => match us, hl with | [_], _ => rfl⟩
  have g_told_by : Can P w K mg base CX0 1 f_told_by ["whole", "bits"] spTold := ⟨_, ok_told F_told_by T, F_told_by.binds (ps := ["whole", "bits"]) fun _ _ _ _ _ _ us hl => match us, hl with | [_, _], _ => rfl⟩
  have g_bits_of : Can P w K mg base CX0 1 f_bits_of ["numbers"] (spBits K) := ⟨_, ok_bits F_bits_of, F_bits_of.binds (ps := ["numbers"]) fun _ _ _ _ _ _ us hl => match us, hl with | [_], _ => rfl⟩
  have g_C_init : Can P w K mg base CX0 1 f_C_init ["self", "me"] (spCInit CC) := ⟨_, ok_cinit F_C_init T, F_C_init.binds (ps := ["self", "me"]) fun _ _ _ _ _ _ us hl => match us, hl with | [_, _], _ => rfl⟩
  have g_C_all_open : Can P w K mg base CX0 1 f_C_all_open ["self"] (spAll CC) := ⟨_, ok_all F_C_all_open T, F_C_all_open.binds (ps := ["self"]) fun _ _ _ _ _ _ us hl => match us, hl with | [_], _ => rfl⟩
  have g_C_may_call : Can P w K mg base CX0 2 f_C_may_call ["self"] (spMay CC) := ⟨_, ok_may F_C_may_call T m_C_all_open g_C_all_open, F_C_may_call.binds (ps := ["self"]) fun _ _ _ _ _ _ us hl => match us, hl with | [_], _ => rfl⟩
  have g_C_say : Can P w K mg base (L2.CX P w) 4 f_C_say ["self", "kind", "x", "y"] (spSay CR CC) := ⟨_, ok_say F_C_say T g_need g_is_content m_C_may_call g_C_may_call, F_C_say.binds (ps := ["self", "kind", "x", "y"]) fun _ _ _ _ _ _ us hl => match us, hl with | [_, _, _, _], _ => rfl⟩
  have g_C_next_told : Can P w K mg base (L2.CX P w) 4 f_C_next_told ["self"] (spNext CR CC) := ⟨_, ok_next F_C_next_told T g_need m_C_all_open g_C_all_open, F_C_next_told.binds (ps := ["self"]) fun _ _ _ _ _ _ us hl => match us, hl with | [_], _ => rfl⟩
  have g_C_tell : Can P w K mg base (L2.CX P w) 5 f_C_tell ["self"] (spTell CR CC) := ⟨_, ok_tell F_C_tell T m_C_next_told g_C_next_told, F_C_tell.binds (ps := ["self"]) fun _ _ _ _ _ _ us hl => match us, hl with | [_], _ => rfl⟩
  have g_C_is_good : Can P w K mg base CX0 2 f_C_is_good ["self", "message"] (spGood K CC) := ⟨_, ok_good F_C_is_good T g_told_by, F_C_is_good.binds (ps := ["self", "message"]) fun _ _ _ _ _ _ us hl => match us, hl with | [_, _], _ => rfl⟩
  have g_C_newly : Can P w K mg base (L2.CX P w) 4 f_C_newly ["self", "message"] (spNewly K CR CC) := ⟨_, ok_newly F_C_newly T g_need g_told_by m_C_is_good g_C_is_good, F_C_newly.binds (ps := ["self", "message"]) fun _ _ _ _ _ _ us hl => match us, hl with | [_, _], _ => rfl⟩
  have g_C_hear : Can P w K mg base (L2.CX P w) 5 f_C_hear ["self", "message"] (spHear K CR CC) := ⟨_, ok_hear F_C_hear T m_C_newly g_C_newly m_C_all_open g_C_all_open, F_C_hear.binds (ps := ["self", "message"]) fun _ _ _ _ _ _ us hl => match us, hl with | [_, _], _ => rfl⟩
  have g_C_would : Can P w K mg base (L2.CX P w) 5 f_C_would ["self", "message"] (spWould K CR CC) := ⟨_, ok_would F_C_would T m_C_newly g_C_newly, F_C_would.binds (ps := ["self", "message"]) fun _ _ _ _ _ _ us hl => match us, hl with | [_, _], _ => rfl⟩
  have g_C_known : Can P w K mg base (L2.CX P w) 4 f_C_known ["self", "number"] (spKnown CR CC) := ⟨_, ok_known F_C_known T g_need, F_C_known.binds (ps := ["self", "number"]) fun _ _ _ _ _ _ us hl => match us, hl with | [_, _], _ => rfl⟩
  have g_C_still_open : Can P w K mg base CX0 2 f_C_still_open ["self"] (spStill CR CC) := ⟨_, ok_still F_C_still_open T m_C_all_open g_C_all_open g_bits_of, F_C_still_open.binds (ps := ["self"]) fun _ _ _ _ _ _ us hl => match us, hl with | [_], _ => rfl⟩
  have g_C_said : Can P w K mg base (L2.CX P w) 4 f_C_said ["self", "number"] (spSaid CR CC) := ⟨_, ok_said F_C_said T g_need, F_C_said.binds (ps := ["self", "number"]) fun _ _ _ _ _ _ us hl => match us, hl with | [_, _], _ => rfl⟩
  have g_C_state : Can P w K mg base CX0 1 f_C_state ["self"] (spState CR CC) := ⟨_, ok_state F_C_state T, F_C_state.binds (ps := ["self"]) fun _ _ _ _ _ _ us hl => match us, hl with | [_], _ => rfl⟩
  have g_S_init : Can P w K mg base CX0 1 f_S_init ["self"] (spSInit CS) := ⟨_, ok_sinit F_S_init T, F_S_init.binds (ps := ["self"]) fun _ _ _ _ _ _ us hl => match us, hl with | [_], _ => rfl⟩
  have g_S_of_call : Can P w K mg base CX0 1 f_S_of_call ["self", "caller", "number"] (spOfCall CS) := ⟨_, ok_ofcall F_S_of_call T, F_S_of_call.binds (ps := ["self", "caller", "number"]) fun _ _ _ _ _ _ us hl => match us, hl with | [_, _, _], _ => rfl⟩
  have g_S_hear : Can P w K mg base (L2.CX P w) 4 f_S_hear ["self", "message"] (spSHear K CR CS) := ⟨_, ok_shear F_S_hear T g_need g_is_call m_S_of_call g_S_of_call, F_S_hear.binds (ps := ["self", "message"]) fun _ _ _ _ _ _ us hl => match us, hl with | [_, _], _ => rfl⟩
  have g_S_numbers_of : Can P w K mg base (L2.CX P w) 4 f_S_numbers_of ["self", "caller"] (spNums CR CS) := ⟨_, ok_nums F_S_numbers_of T g_need, F_S_numbers_of.binds (ps := ["self", "caller"]) fun _ _ _ _ _ _ us hl => match us, hl with | [_, _], _ => rfl⟩
  have g_S_answer_for : Can P w K mg base (L2.CX P w) 5 f_S_answer_for ["self", "caller"] (spAns1 CR CS) := ⟨_, ok_ans1 F_S_answer_for T m_S_numbers_of g_S_numbers_of g_bits_of, F_S_answer_for.binds (ps := ["self", "caller"]) fun _ _ _ _ _ _ us hl => match us, hl with | [_, _], _ => rfl⟩
  have g_S_get : Can P w K mg base (L2.CX P w) 4 f_S_get ["self", "at"] (spGet CR CS) := ⟨_, ok_get F_S_get T g_need, F_S_get.binds (ps := ["self", "at"]) fun _ _ _ _ _ _ us hl => match us, hl with | [_, _], _ => rfl⟩
  have g_S_find : Can P w K mg base (L2.CX P w) 4 f_S_find ["self", "caller", "number"] (spFind CR CS) := ⟨_, ok_find F_S_find T g_need m_S_of_call g_S_of_call, F_S_find.binds (ps := ["self", "caller", "number"]) fun _ _ _ _ _ _ us hl => match us, hl with | [_, _, _], _ => rfl⟩
  have g_S_of_caller : Can P w K mg base (L2.CX P w) 5 f_S_of_caller ["self", "caller"] (spOf CR CS) := ⟨_, ok_of F_S_of_caller T m_S_numbers_of g_S_numbers_of g_bits_of, F_S_of_caller.binds (ps := ["self", "caller"]) fun _ _ _ _ _ _ us hl => match us, hl with | [_, _], _ => rfl⟩
  have g_S_gaps : Can P w K mg base (L2.CX P w) 5 f_S_gaps ["self", "caller"] (spGaps CR CS) := ⟨_, ok_gaps F_S_gaps T m_S_numbers_of g_S_numbers_of g_bits_of, F_S_gaps.binds (ps := ["self", "caller"]) fun _ _ _ _ _ _ us hl => match us, hl with | [_, _], _ => rfl⟩
  have g_S_state : Can P w K mg base CX0 1 f_S_state ["self"] (spSState CR CS) := ⟨_, ok_sstate F_S_state T, F_S_state.binds (ps := ["self"]) fun _ _ _ _ _ _ us hl => match us, hl with | [_], _ => rfl⟩
  have g_of_caller : Can P w K mg base (L2.CX P w) 6 f_of_caller ["caller", "word", "numbers", "row"] (spOfC K CR CC) := ⟨_, ok_ofc F_of_caller T ⟨_, m_C_say, g_C_say⟩ ⟨_, m_C_tell, g_C_tell⟩ ⟨_, m_C_hear, g_C_hear⟩ ⟨_, m_C_known, g_C_known⟩ ⟨_, m_C_still_open, g_C_still_open⟩ ⟨_, m_C_said, g_C_said⟩ ⟨_, m_C_would, g_C_would⟩ ⟨_, m_C_state, g_C_state⟩, F_of_caller.binds (ps := ["caller", "word", "numbers", "row"]) fun _ _ _ _ _ _ us hl => match us, hl with | [_, _, _, _], _ => rfl⟩
  have g_of_shore : Can P w K mg base (L2.CX P w) 6 f_of_shore ["shore", "word", "numbers", "row"] (spOfS K CR CS) := ⟨_, ok_ofs F_of_shore T ⟨_, m_S_hear, g_S_hear⟩ ⟨_, m_S_answer_for, g_S_answer_for⟩ ⟨_, m_S_get, g_S_get⟩ ⟨_, m_S_find, g_S_find⟩ ⟨_, m_S_of_caller, g_S_of_caller⟩ ⟨_, m_S_gaps, g_S_gaps⟩ ⟨_, m_S_state, g_S_state⟩, F_of_shore.binds (ps := ["shore", "word", "numbers", "row"]) fun _ _ _ _ _ _ us hl => match us, hl with | [_, _, _, _], _ => rfl⟩
  have g_D_init : Can P w K mg base CX0 3 f_D_init ["self"] (spDInit CD CC CS) := ⟨_, ok_dinit F_D_init T MC g_C_init MS g_S_init, F_D_init.binds (ps := ["self"]) fun _ _ _ _ _ _ us hl => match us, hl with | [_], _ => rfl⟩
  have g_D_call : Can P w K mg base (L2.CX P w) 7 f_D_call ["self", "word", "which", "numbers", "row"] (spDCall K CR CD CC CS) := ⟨_, ok_dcall F_D_call T MC g_C_init MS g_S_init g_of_caller g_of_shore, F_D_call.binds (ps := ["self", "word", "which", "numbers", "row"]) fun _ _ _ _ _ _ us hl => match us, hl with | [_, _, _, _, _], _ => rfl⟩
  have g_D_answer_to : Can P w K mg base CX0 8 f_D_answer_to ["self", "word", "which", "numbers", "row"] (spAT K CR CD CC CS) := ⟨_, ok_at F_D_answer_to T m_D_call g_D_call, F_D_answer_to.binds (ps := ["self", "word", "which", "numbers", "row"]) fun _ _ _ _ _ _ us hl => match us, hl with | [_, _, _, _, _], _ => rfl⟩
  exact ok_ans F T MD g_D_init ⟨_, m_D_answer_to, g_D_answer_to⟩
theorem all_mk {P : Program} {w : World} {K : PySem.W.Frag} {h : Heap} {mg : Str → Option Value} {fa CR CC CS CD fRI a_NUMBERS a_WITH_ROW : Addr} {f_need f_is_content f_is_call f_told_by f_bits_of f_of_caller f_of_shore f_answers f_C_init f_C_all_open f_C_may_call f_C_say f_C_next_told f_C_tell f_C_is_good f_C_newly f_C_hear f_C_would f_C_known f_C_still_open f_C_said f_C_state f_S_init f_S_of_call f_S_hear f_S_numbers_of f_S_answer_for f_S_get f_S_find f_S_of_caller f_S_gaps f_S_state f_D_init f_D_call f_D_answer_to : Addr} (X : K.In h) (G : h.Ns mainGlobals mg) (hfa : mg "answers" = some (.ref fa))
    {nmR qR : Str} {NR : Addr} {bsR : List Value} {snR : List Str} {subR : List Value} {abR : Bool} {colR : Option Bool} {ddR : Option Addr} {m0 m1 m2 m3 m5 : Option Value} {odR anR : Option Addr} {slR : Array (Option Value)} {ocR dcR pmR cdR ctR : Value}
    {t_CALL t_ANSWER t_MOST_CALLER t_MOST_CALLS t_MOST_KIND t_MOST_NUMBER t_BEHIND t_BITS t_NO_CALL t_NONE t_NOT_SO t_FULL t_NO_MESSAGE t_OTHERWISE t_CALLERS t_CA_START t_SH_START : Tok} {o_NUMBERS o_WITH_ROW : Obj}
    {od_need an_need od_is_content an_is_content od_is_call an_is_call od_told_by an_told_by od_bits_of an_bits_of od_of_caller an_of_caller od_of_shore an_of_shore od_answers an_answers od_C_init an_C_init od_C_all_open an_C_all_open od_C_may_call an_C_may_call od_C_say an_C_say od_C_next_told an_C_next_told od_C_tell an_C_tell od_C_is_good an_C_is_good od_C_newly an_C_newly od_C_hear an_C_hear od_C_would an_C_would od_C_known an_C_known od_C_still_open an_C_still_open od_C_said an_C_said od_C_state an_C_state od_S_init an_S_init od_S_of_call an_S_of_call od_S_hear an_S_hear od_S_numbers_of an_S_numbers_of od_S_answer_for an_S_answer_for od_S_get an_S_get od_S_find an_S_find od_S_of_caller an_S_of_caller od_S_gaps an_S_gaps od_S_state an_S_state od_D_init an_D_init od_D_call an_D_call od_D_answer_to an_D_answer_to : Option Addr} {sl_need sl_is_content sl_is_call sl_told_by sl_bits_of sl_of_caller sl_of_shore sl_answers sl_C_init sl_C_all_open sl_C_may_call sl_C_say sl_C_next_told sl_C_tell sl_C_is_good sl_C_newly sl_C_hear sl_C_would sl_C_known sl_C_still_open sl_C_said sl_C_state sl_S_init sl_S_of_call sl_S_hear sl_S_numbers_of sl_S_answer_for sl_S_get sl_S_find sl_S_of_caller sl_S_gaps sl_S_state sl_D_init sl_D_call sl_D_answer_to : Array (Option Value)}
    {oc_need kv_need dc_need pm_need cd_need ct_need oc_is_content kv_is_content dc_is_content pm_is_content cd_is_content ct_is_content oc_is_call kv_is_call dc_is_call pm_is_call cd_is_call ct_is_call oc_told_by kv_told_by dc_told_by pm_told_by cd_told_by ct_told_by oc_bits_of kv_bits_of dc_bits_of pm_bits_of cd_bits_of ct_bits_of oc_of_caller kv_of_caller dc_of_caller pm_of_caller cd_of_caller ct_of_caller oc_of_shore kv_of_shore dc_of_shore pm_of_shore cd_of_shore ct_of_shore oc_answers kv_answers dc_answers pm_answers cd_answers ct_answers oc_C_init kv_C_init dc_C_init pm_C_init cd_C_init ct_C_init oc_C_all_open kv_C_all_open dc_C_all_open pm_C_all_open cd_C_all_open ct_C_all_open oc_C_may_call kv_C_may_call dc_C_may_call pm_C_may_call cd_C_may_call ct_C_may_call oc_C_say kv_C_say dc_C_say pm_C_say cd_C_say ct_C_say oc_C_next_told kv_C_next_told dc_C_next_told pm_C_next_told cd_C_next_told ct_C_next_told oc_C_tell kv_C_tell dc_C_tell pm_C_tell cd_C_tell ct_C_tell oc_C_is_good kv_C_is_good dc_C_is_good pm_C_is_good cd_C_is_good ct_C_is_good oc_C_newly kv_C_newly dc_C_newly pm_C_newly cd_C_newly ct_C_newly oc_C_hear kv_C_hear dc_C_hear pm_C_hear cd_C_hear ct_C_hear oc_C_would kv_C_would dc_C_would pm_C_would cd_C_would ct_C_would oc_C_known kv_C_known dc_C_known pm_C_known cd_C_known ct_C_known oc_C_still_open kv_C_still_open dc_C_still_open pm_C_still_open cd_C_still_open ct_C_still_open oc_C_said kv_C_said dc_C_said pm_C_said cd_C_said ct_C_said oc_C_state kv_C_state dc_C_state pm_C_state cd_C_state ct_C_state oc_S_init kv_S_init dc_S_init pm_S_init cd_S_init ct_S_init oc_S_of_call kv_S_of_call dc_S_of_call pm_S_of_call cd_S_of_call ct_S_of_call oc_S_hear kv_S_hear dc_S_hear pm_S_hear cd_S_hear ct_S_hear oc_S_numbers_of kv_S_numbers_of dc_S_numbers_of pm_S_numbers_of cd_S_numbers_of ct_S_numbers_of oc_S_answer_for kv_S_answer_for dc_S_answer_for pm_S_answer_for cd_S_answer_for ct_S_answer_for oc_S_get kv_S_get dc_S_get pm_S_get cd_S_get ct_S_get oc_S_find kv_S_find dc_S_find pm_S_find cd_S_find ct_S_find oc_S_of_caller kv_S_of_caller dc_S_of_caller pm_S_of_caller cd_S_of_caller ct_S_of_caller oc_S_gaps kv_S_gaps dc_S_gaps pm_S_gaps cd_S_gaps ct_S_gaps oc_S_state kv_S_state dc_S_state pm_S_state cd_S_state ct_S_state oc_D_init kv_D_init dc_D_init pm_D_init cd_D_init ct_D_init oc_D_call kv_D_call dc_D_call pm_D_call cd_D_call ct_D_call oc_D_answer_to kv_D_answer_to dc_D_answer_to pm_D_answer_to cd_D_answer_to ct_D_answer_to : Value}
    (aR : PySem.W.nsIn K mainGlobals "Refused" = some (some (.ref CR)))
    (xR : K.lookup CR = some (excClassObj nmR qR CR NR bsR [.type "ValueError", .type "Exception", .type "BaseException", .type "object"] true snR subR abR colR ddR m0 m1 m2 m3 m5 "ValueError.__new__"))
    (saR : PySem.W.findIn K (.ref CR) "__setattr__" = some (some (.builtin "object.__setattr__")))
    (gaR : PySem.W.findIn K (.ref CR) "__getattribute__" = some (some (.builtin "BaseException.__getattribute__")))
    (ggR : PySem.W.findIn K (.ref CR) "__getattr__" = some none)
    (nbR : PySem.W.findIn K (.ref CR) "answer" = some none)
    (aRI : PySem.W.findIn K (.ref CR) "__init__" = some (some (.ref fRI)))
    (tRI : PySem.W.typeIn K (.ref fRI) = some (.type "function"))
    (lRI : K.lookup fRI = some ⟨ocR, odR, .func (PySem.W.fnOf "__init__" "Refused.__init__" (PySem.LowX.iA ⟨18, 17, 18, 21⟩ ⟨18, 23, 18, 29⟩) (PySem.LowX.iB ⟨19, 8, 19, 12⟩ ⟨19, 8, 19, 19⟩ ⟨19, 22, 19, 28⟩ ⟨19, 8, 19, 28⟩) PySem.LowX.iS .none .none dcR pmR anR cdR ctR), slR⟩)
    (cRI : PySem.W.codeIn K cdR "Refused.__init__" = true)
    (kR : PySem.W.keepIn K (.ref CR) = true)
    (eR : PySem.W.subIn K (.ref CR) (.type "BaseException") = some true)
    (tR : PySem.W.typeIn K (.ref CR) = some (.type "type"))
    (hR : PySem.W.hasDictIn K CR = true)
    (iR : PySem.W.isClsIn K CR = true)
    (sR : PySem.W.subIn K (.ref CR) (.ref CR) = some true)
    (aCC : PySem.W.nsIn K mainGlobals "Caller" = some (some (.ref CC)))
    (pgCC : PySem.W.plainGet K CC Str.empty = true)
    (hdCC : PySem.W.hasDictIn K CC = true)
    (poCC : PySem.W.plainOver K CC = true)
    (saCC : PySem.W.findIn K (.ref CC) "__setattr__" = some (some (.builtin "object.__setattr__")))
    (mkCC : PySem.W.makesIn K CC = true)
    (kcCC : PySem.W.keepIn K (.ref CC) = true)
    (nCC_me : PySem.W.findIn K (.ref CC) "me" = some none)
    (nCC_calls : PySem.W.findIn K (.ref CC) "calls" = some none)
    (nCC_heard : PySem.W.findIn K (.ref CC) "heard" = some none)
    (nCC_last : PySem.W.findIn K (.ref CC) "last" = some none)
    (nCC_tellings : PySem.W.findIn K (.ref CC) "tellings" = some none)
    (aCS : PySem.W.nsIn K mainGlobals "Shore" = some (some (.ref CS)))
    (pgCS : PySem.W.plainGet K CS Str.empty = true)
    (hdCS : PySem.W.hasDictIn K CS = true)
    (poCS : PySem.W.plainOver K CS = true)
    (saCS : PySem.W.findIn K (.ref CS) "__setattr__" = some (some (.builtin "object.__setattr__")))
    (mkCS : PySem.W.makesIn K CS = true)
    (kcCS : PySem.W.keepIn K (.ref CS) = true)
    (nCS_kept : PySem.W.findIn K (.ref CS) "kept" = some none)
    (nCS_again : PySem.W.findIn K (.ref CS) "again" = some none)
    (aCD : PySem.W.nsIn K mainGlobals "Desk" = some (some (.ref CD)))
    (pgCD : PySem.W.plainGet K CD Str.empty = true)
    (hdCD : PySem.W.hasDictIn K CD = true)
    (poCD : PySem.W.plainOver K CD = true)
    (saCD : PySem.W.findIn K (.ref CD) "__setattr__" = some (some (.builtin "object.__setattr__")))
    (mkCD : PySem.W.makesIn K CD = true)
    (kcCD : PySem.W.keepIn K (.ref CD) = true)
    (nCD_callers : PySem.W.findIn K (.ref CD) "callers" = some none)
    (nCD_shore : PySem.W.findIn K (.ref CD) "shore" = some none)
    (g_CALL : PySem.W.nsIn K mainGlobals "CALL" = some (some (.int 1 t_CALL)))
    (g_ANSWER : PySem.W.nsIn K mainGlobals "ANSWER" = some (some (.int 2 t_ANSWER)))
    (g_MOST_CALLER : PySem.W.nsIn K mainGlobals "MOST_CALLER" = some (some (.int 3 t_MOST_CALLER)))
    (g_MOST_CALLS : PySem.W.nsIn K mainGlobals "MOST_CALLS" = some (some (.int 30 t_MOST_CALLS)))
    (g_MOST_KIND : PySem.W.nsIn K mainGlobals "MOST_KIND" = some (some (.int 9 t_MOST_KIND)))
    (g_MOST_NUMBER : PySem.W.nsIn K mainGlobals "MOST_NUMBER" = some (some (.int 1000000 t_MOST_NUMBER)))
    (g_BEHIND : PySem.W.nsIn K mainGlobals "BEHIND" = some (some (.int 8 t_BEHIND)))
    (g_BITS : PySem.W.nsIn K mainGlobals "BITS" = some (some (.int 256 t_BITS)))
    (g_NO_CALL : PySem.W.nsIn K mainGlobals "NO_CALL" = some (some (.int (-2) t_NO_CALL)))
    (g_NONE : PySem.W.nsIn K mainGlobals "NONE" = some (some (.int (-6) t_NONE)))
    (g_NOT_SO : PySem.W.nsIn K mainGlobals "NOT_SO" = some (some (.int (-22) t_NOT_SO)))
    (g_FULL : PySem.W.nsIn K mainGlobals "FULL" = some (some (.int (-28) t_FULL)))
    (g_NO_MESSAGE : PySem.W.nsIn K mainGlobals "NO_MESSAGE" = some (some (.int (-71) t_NO_MESSAGE)))
    (g_OTHERWISE : PySem.W.nsIn K mainGlobals "OTHERWISE" = some (some (.int (-74) t_OTHERWISE)))
    (g_CALLERS : PySem.W.nsIn K mainGlobals "CALLERS" = some (some (.int 3 t_CALLERS)))
    (g_CA_START : PySem.W.nsIn K mainGlobals "CA_START" = some (some (.int 0 t_CA_START)))
    (g_SH_START : PySem.W.nsIn K mainGlobals "SH_START" = some (some (.int 9 t_SH_START)))
    (g_NUMBERS : PySem.W.nsIn K mainGlobals "NUMBERS" = some (some (.ref a_NUMBERS)))
    (l_NUMBERS : K.lookup a_NUMBERS = some o_NUMBERS)
    (v_NUMBERS : o_NUMBERS.cls = .type "tuple" ∧ ∃ (its : Array Value) (n : Nat), o_NUMBERS.data = .seq its n ∧ its.size ≤ sizeLine ∧ Vals NUMBV its.toList)
    (g_WITH_ROW : PySem.W.nsIn K mainGlobals "WITH_ROW" = some (some (.ref a_WITH_ROW)))
    (l_WITH_ROW : K.lookup a_WITH_ROW = some o_WITH_ROW)
    (v_WITH_ROW : o_WITH_ROW.cls = .type "tuple" ∧ ∃ (its : Array Value) (n : Nat), o_WITH_ROW.data = .seq its n ∧ its.size ≤ sizeLine ∧ Vals [.int 3, .int 7, .int 10] its.toList)
    (b_len : PySem.W.nsIn K mainGlobals "len" = some none)
    (b_range : PySem.W.nsIn K mainGlobals "range" = some none)
    (b_list : PySem.W.nsIn K mainGlobals "list" = some none)
    (b_tuple : PySem.W.nsIn K mainGlobals "tuple" = some none)
    (b_min : PySem.W.nsIn K mainGlobals "min" = some none)
    (b_max : PySem.W.nsIn K mainGlobals "max" = some none)
    (b_sorted : PySem.W.nsIn K mainGlobals "sorted" = some none)
    (b_int : PySem.W.nsIn K mainGlobals "int" = some none)
    (a_need : PySem.W.nsIn K mainGlobals "need" = some (some (.ref f_need)))
    (l_need : K.lookup f_need = some ⟨oc_need, od_need, .func (PySem.W.fnOf "need" "need" (defArgs sNeed) (defBody sNeed) (defScope sNeed) .none kv_need dc_need pm_need an_need cd_need ct_need), sl_need⟩)
    (c_need : PySem.W.codeIn K cd_need "need" = true)
    (k_need : PySem.W.keepIn K (.ref f_need) = true)
    (a_is_content : PySem.W.nsIn K mainGlobals "is_content" = some (some (.ref f_is_content)))
    (l_is_content : K.lookup f_is_content = some ⟨oc_is_content, od_is_content, .func (PySem.W.fnOf "is_content" "is_content" (defArgs sContent) (defBody sContent) (defScope sContent) .none kv_is_content dc_is_content pm_is_content an_is_content cd_is_content ct_is_content), sl_is_content⟩)
    (c_is_content : PySem.W.codeIn K cd_is_content "is_content" = true)
    (k_is_content : PySem.W.keepIn K (.ref f_is_content) = true)
    (a_is_call : PySem.W.nsIn K mainGlobals "is_call" = some (some (.ref f_is_call)))
    (l_is_call : K.lookup f_is_call = some ⟨oc_is_call, od_is_call, .func (PySem.W.fnOf "is_call" "is_call" (defArgs sIsCall) (defBody sIsCall) (defScope sIsCall) .none kv_is_call dc_is_call pm_is_call an_is_call cd_is_call ct_is_call), sl_is_call⟩)
    (c_is_call : PySem.W.codeIn K cd_is_call "is_call" = true)
    (k_is_call : PySem.W.keepIn K (.ref f_is_call) = true)
    (a_told_by : PySem.W.nsIn K mainGlobals "told_by" = some (some (.ref f_told_by)))
    (l_told_by : K.lookup f_told_by = some ⟨oc_told_by, od_told_by, .func (PySem.W.fnOf "told_by" "told_by" (defArgs sToldBy) (defBody sToldBy) (defScope sToldBy) .none kv_told_by dc_told_by pm_told_by an_told_by cd_told_by ct_told_by), sl_told_by⟩)
    (c_told_by : PySem.W.codeIn K cd_told_by "told_by" = true)
    (k_told_by : PySem.W.keepIn K (.ref f_told_by) = true)
    (a_bits_of : PySem.W.nsIn K mainGlobals "bits_of" = some (some (.ref f_bits_of)))
    (l_bits_of : K.lookup f_bits_of = some ⟨oc_bits_of, od_bits_of, .func (PySem.W.fnOf "bits_of" "bits_of" (defArgs sBitsOf) (defBody sBitsOf) (defScope sBitsOf) .none kv_bits_of dc_bits_of pm_bits_of an_bits_of cd_bits_of ct_bits_of), sl_bits_of⟩)
    (c_bits_of : PySem.W.codeIn K cd_bits_of "bits_of" = true)
    (k_bits_of : PySem.W.keepIn K (.ref f_bits_of) = true)
    (a_of_caller : PySem.W.nsIn K mainGlobals "of_caller" = some (some (.ref f_of_caller)))
    (l_of_caller : K.lookup f_of_caller = some ⟨oc_of_caller, od_of_caller, .func (PySem.W.fnOf "of_caller" "of_caller" (defArgs sOfCaller) (defBody sOfCaller) (defScope sOfCaller) .none kv_of_caller dc_of_caller pm_of_caller an_of_caller cd_of_caller ct_of_caller), sl_of_caller⟩)
    (c_of_caller : PySem.W.codeIn K cd_of_caller "of_caller" = true)
    (k_of_caller : PySem.W.keepIn K (.ref f_of_caller) = true)
    (a_of_shore : PySem.W.nsIn K mainGlobals "of_shore" = some (some (.ref f_of_shore)))
    (l_of_shore : K.lookup f_of_shore = some ⟨oc_of_shore, od_of_shore, .func (PySem.W.fnOf "of_shore" "of_shore" (defArgs sOfShore) (defBody sOfShore) (defScope sOfShore) .none kv_of_shore dc_of_shore pm_of_shore an_of_shore cd_of_shore ct_of_shore), sl_of_shore⟩)
    (c_of_shore : PySem.W.codeIn K cd_of_shore "of_shore" = true)
    (k_of_shore : PySem.W.keepIn K (.ref f_of_shore) = true)
    (a_answers : PySem.W.nsIn K mainGlobals "answers" = some (some (.ref f_answers)))
    (l_answers : K.lookup f_answers = some ⟨oc_answers, od_answers, .func (PySem.W.fnOf "answers" "answers" (defArgs sAnswers) (defBody sAnswers) (defScope sAnswers) .none kv_answers dc_answers pm_answers an_answers cd_answers ct_answers), sl_answers⟩)
    (c_answers : PySem.W.codeIn K cd_answers "answers" = true)
    (k_answers : PySem.W.keepIn K (.ref f_answers) = true)
    (a_C_init : PySem.W.findIn K (.ref CC) "__init__" = some (some (.ref f_C_init)))
    (i_C_init : PySem.W.isFn K (.ref f_C_init) = true)
    (l_C_init : K.lookup f_C_init = some ⟨oc_C_init, od_C_init, .func (PySem.W.fnOf "__init__" "Caller.__init__" (defArgs (sC 0)) (defBody (sC 0)) (defScope (sC 0)) .none kv_C_init dc_C_init pm_C_init an_C_init cd_C_init ct_C_init), sl_C_init⟩)
    (c_C_init : PySem.W.codeIn K cd_C_init "Caller.__init__" = true)
    (k_C_init : PySem.W.keepIn K (.ref f_C_init) = true)
    (a_C_all_open : PySem.W.findIn K (.ref CC) "all_open" = some (some (.ref f_C_all_open)))
    (i_C_all_open : PySem.W.isFn K (.ref f_C_all_open) = true)
    (l_C_all_open : K.lookup f_C_all_open = some ⟨oc_C_all_open, od_C_all_open, .func (PySem.W.fnOf "all_open" "Caller.all_open" (defArgs (sC 1)) (defBody (sC 1)) (defScope (sC 1)) .none kv_C_all_open dc_C_all_open pm_C_all_open an_C_all_open cd_C_all_open ct_C_all_open), sl_C_all_open⟩)
    (c_C_all_open : PySem.W.codeIn K cd_C_all_open "Caller.all_open" = true)
    (k_C_all_open : PySem.W.keepIn K (.ref f_C_all_open) = true)
    (a_C_may_call : PySem.W.findIn K (.ref CC) "may_call" = some (some (.ref f_C_may_call)))
    (i_C_may_call : PySem.W.isFn K (.ref f_C_may_call) = true)
    (l_C_may_call : K.lookup f_C_may_call = some ⟨oc_C_may_call, od_C_may_call, .func (PySem.W.fnOf "may_call" "Caller.may_call" (defArgs (sC 2)) (defBody (sC 2)) (defScope (sC 2)) .none kv_C_may_call dc_C_may_call pm_C_may_call an_C_may_call cd_C_may_call ct_C_may_call), sl_C_may_call⟩)
    (c_C_may_call : PySem.W.codeIn K cd_C_may_call "Caller.may_call" = true)
    (k_C_may_call : PySem.W.keepIn K (.ref f_C_may_call) = true)
    (a_C_say : PySem.W.findIn K (.ref CC) "say" = some (some (.ref f_C_say)))
    (i_C_say : PySem.W.isFn K (.ref f_C_say) = true)
    (l_C_say : K.lookup f_C_say = some ⟨oc_C_say, od_C_say, .func (PySem.W.fnOf "say" "Caller.say" (defArgs (sC 3)) (defBody (sC 3)) (defScope (sC 3)) .none kv_C_say dc_C_say pm_C_say an_C_say cd_C_say ct_C_say), sl_C_say⟩)
    (c_C_say : PySem.W.codeIn K cd_C_say "Caller.say" = true)
    (k_C_say : PySem.W.keepIn K (.ref f_C_say) = true)
    (a_C_next_told : PySem.W.findIn K (.ref CC) "next_told" = some (some (.ref f_C_next_told)))
    (i_C_next_told : PySem.W.isFn K (.ref f_C_next_told) = true)
    (l_C_next_told : K.lookup f_C_next_told = some ⟨oc_C_next_told, od_C_next_told, .func (PySem.W.fnOf "next_told" "Caller.next_told" (defArgs (sC 4)) (defBody (sC 4)) (defScope (sC 4)) .none kv_C_next_told dc_C_next_told pm_C_next_told an_C_next_told cd_C_next_told ct_C_next_told), sl_C_next_told⟩)
    (c_C_next_told : PySem.W.codeIn K cd_C_next_told "Caller.next_told" = true)
    (k_C_next_told : PySem.W.keepIn K (.ref f_C_next_told) = true)
    (a_C_tell : PySem.W.findIn K (.ref CC) "tell" = some (some (.ref f_C_tell)))
    (i_C_tell : PySem.W.isFn K (.ref f_C_tell) = true)
    (l_C_tell : K.lookup f_C_tell = some ⟨oc_C_tell, od_C_tell, .func (PySem.W.fnOf "tell" "Caller.tell" (defArgs (sC 5)) (defBody (sC 5)) (defScope (sC 5)) .none kv_C_tell dc_C_tell pm_C_tell an_C_tell cd_C_tell ct_C_tell), sl_C_tell⟩)
    (c_C_tell : PySem.W.codeIn K cd_C_tell "Caller.tell" = true)
    (k_C_tell : PySem.W.keepIn K (.ref f_C_tell) = true)
    (a_C_is_good : PySem.W.findIn K (.ref CC) "is_good" = some (some (.ref f_C_is_good)))
    (i_C_is_good : PySem.W.isFn K (.ref f_C_is_good) = true)
    (l_C_is_good : K.lookup f_C_is_good = some ⟨oc_C_is_good, od_C_is_good, .func (PySem.W.fnOf "is_good" "Caller.is_good" (defArgs (sC 6)) (defBody (sC 6)) (defScope (sC 6)) .none kv_C_is_good dc_C_is_good pm_C_is_good an_C_is_good cd_C_is_good ct_C_is_good), sl_C_is_good⟩)
    (c_C_is_good : PySem.W.codeIn K cd_C_is_good "Caller.is_good" = true)
    (k_C_is_good : PySem.W.keepIn K (.ref f_C_is_good) = true)
    (a_C_newly : PySem.W.findIn K (.ref CC) "newly" = some (some (.ref f_C_newly)))
    (i_C_newly : PySem.W.isFn K (.ref f_C_newly) = true)
    (l_C_newly : K.lookup f_C_newly = some ⟨oc_C_newly, od_C_newly, .func (PySem.W.fnOf "newly" "Caller.newly" (defArgs (sC 7)) (defBody (sC 7)) (defScope (sC 7)) .none kv_C_newly dc_C_newly pm_C_newly an_C_newly cd_C_newly ct_C_newly), sl_C_newly⟩)
    (c_C_newly : PySem.W.codeIn K cd_C_newly "Caller.newly" = true)
    (k_C_newly : PySem.W.keepIn K (.ref f_C_newly) = true)
    (a_C_hear : PySem.W.findIn K (.ref CC) "hear" = some (some (.ref f_C_hear)))
    (i_C_hear : PySem.W.isFn K (.ref f_C_hear) = true)
    (l_C_hear : K.lookup f_C_hear = some ⟨oc_C_hear, od_C_hear, .func (PySem.W.fnOf "hear" "Caller.hear" (defArgs (sC 8)) (defBody (sC 8)) (defScope (sC 8)) .none kv_C_hear dc_C_hear pm_C_hear an_C_hear cd_C_hear ct_C_hear), sl_C_hear⟩)
    (c_C_hear : PySem.W.codeIn K cd_C_hear "Caller.hear" = true)
    (k_C_hear : PySem.W.keepIn K (.ref f_C_hear) = true)
    (a_C_would : PySem.W.findIn K (.ref CC) "would" = some (some (.ref f_C_would)))
    (i_C_would : PySem.W.isFn K (.ref f_C_would) = true)
    (l_C_would : K.lookup f_C_would = some ⟨oc_C_would, od_C_would, .func (PySem.W.fnOf "would" "Caller.would" (defArgs (sC 9)) (defBody (sC 9)) (defScope (sC 9)) .none kv_C_would dc_C_would pm_C_would an_C_would cd_C_would ct_C_would), sl_C_would⟩)
    (c_C_would : PySem.W.codeIn K cd_C_would "Caller.would" = true)
    (k_C_would : PySem.W.keepIn K (.ref f_C_would) = true)
    (a_C_known : PySem.W.findIn K (.ref CC) "known" = some (some (.ref f_C_known)))
    (i_C_known : PySem.W.isFn K (.ref f_C_known) = true)
    (l_C_known : K.lookup f_C_known = some ⟨oc_C_known, od_C_known, .func (PySem.W.fnOf "known" "Caller.known" (defArgs (sC 10)) (defBody (sC 10)) (defScope (sC 10)) .none kv_C_known dc_C_known pm_C_known an_C_known cd_C_known ct_C_known), sl_C_known⟩)
    (c_C_known : PySem.W.codeIn K cd_C_known "Caller.known" = true)
    (k_C_known : PySem.W.keepIn K (.ref f_C_known) = true)
    (a_C_still_open : PySem.W.findIn K (.ref CC) "still_open" = some (some (.ref f_C_still_open)))
    (i_C_still_open : PySem.W.isFn K (.ref f_C_still_open) = true)
    (l_C_still_open : K.lookup f_C_still_open = some ⟨oc_C_still_open, od_C_still_open, .func (PySem.W.fnOf "still_open" "Caller.still_open" (defArgs (sC 11)) (defBody (sC 11)) (defScope (sC 11)) .none kv_C_still_open dc_C_still_open pm_C_still_open an_C_still_open cd_C_still_open ct_C_still_open), sl_C_still_open⟩)
    (c_C_still_open : PySem.W.codeIn K cd_C_still_open "Caller.still_open" = true)
    (k_C_still_open : PySem.W.keepIn K (.ref f_C_still_open) = true)
    (a_C_said : PySem.W.findIn K (.ref CC) "said" = some (some (.ref f_C_said)))
    (i_C_said : PySem.W.isFn K (.ref f_C_said) = true)
    (l_C_said : K.lookup f_C_said = some ⟨oc_C_said, od_C_said, .func (PySem.W.fnOf "said" "Caller.said" (defArgs (sC 12)) (defBody (sC 12)) (defScope (sC 12)) .none kv_C_said dc_C_said pm_C_said an_C_said cd_C_said ct_C_said), sl_C_said⟩)
    (c_C_said : PySem.W.codeIn K cd_C_said "Caller.said" = true)
    (k_C_said : PySem.W.keepIn K (.ref f_C_said) = true)
    (a_C_state : PySem.W.findIn K (.ref CC) "state" = some (some (.ref f_C_state)))
    (i_C_state : PySem.W.isFn K (.ref f_C_state) = true)
    (l_C_state : K.lookup f_C_state = some ⟨oc_C_state, od_C_state, .func (PySem.W.fnOf "state" "Caller.state" (defArgs (sC 13)) (defBody (sC 13)) (defScope (sC 13)) .none kv_C_state dc_C_state pm_C_state an_C_state cd_C_state ct_C_state), sl_C_state⟩)
    (c_C_state : PySem.W.codeIn K cd_C_state "Caller.state" = true)
    (k_C_state : PySem.W.keepIn K (.ref f_C_state) = true)
    (a_S_init : PySem.W.findIn K (.ref CS) "__init__" = some (some (.ref f_S_init)))
    (i_S_init : PySem.W.isFn K (.ref f_S_init) = true)
    (l_S_init : K.lookup f_S_init = some ⟨oc_S_init, od_S_init, .func (PySem.W.fnOf "__init__" "Shore.__init__" (defArgs (sS 0)) (defBody (sS 0)) (defScope (sS 0)) .none kv_S_init dc_S_init pm_S_init an_S_init cd_S_init ct_S_init), sl_S_init⟩)
    (c_S_init : PySem.W.codeIn K cd_S_init "Shore.__init__" = true)
    (k_S_init : PySem.W.keepIn K (.ref f_S_init) = true)
    (a_S_of_call : PySem.W.findIn K (.ref CS) "of_call" = some (some (.ref f_S_of_call)))
    (i_S_of_call : PySem.W.isFn K (.ref f_S_of_call) = true)
    (l_S_of_call : K.lookup f_S_of_call = some ⟨oc_S_of_call, od_S_of_call, .func (PySem.W.fnOf "of_call" "Shore.of_call" (defArgs (sS 1)) (defBody (sS 1)) (defScope (sS 1)) .none kv_S_of_call dc_S_of_call pm_S_of_call an_S_of_call cd_S_of_call ct_S_of_call), sl_S_of_call⟩)
    (c_S_of_call : PySem.W.codeIn K cd_S_of_call "Shore.of_call" = true)
    (k_S_of_call : PySem.W.keepIn K (.ref f_S_of_call) = true)
    (a_S_hear : PySem.W.findIn K (.ref CS) "hear" = some (some (.ref f_S_hear)))
    (i_S_hear : PySem.W.isFn K (.ref f_S_hear) = true)
    (l_S_hear : K.lookup f_S_hear = some ⟨oc_S_hear, od_S_hear, .func (PySem.W.fnOf "hear" "Shore.hear" (defArgs (sS 2)) (defBody (sS 2)) (defScope (sS 2)) .none kv_S_hear dc_S_hear pm_S_hear an_S_hear cd_S_hear ct_S_hear), sl_S_hear⟩)
    (c_S_hear : PySem.W.codeIn K cd_S_hear "Shore.hear" = true)
    (k_S_hear : PySem.W.keepIn K (.ref f_S_hear) = true)
    (a_S_numbers_of : PySem.W.findIn K (.ref CS) "numbers_of" = some (some (.ref f_S_numbers_of)))
    (i_S_numbers_of : PySem.W.isFn K (.ref f_S_numbers_of) = true)
    (l_S_numbers_of : K.lookup f_S_numbers_of = some ⟨oc_S_numbers_of, od_S_numbers_of, .func (PySem.W.fnOf "numbers_of" "Shore.numbers_of" (defArgs (sS 3)) (defBody (sS 3)) (defScope (sS 3)) .none kv_S_numbers_of dc_S_numbers_of pm_S_numbers_of an_S_numbers_of cd_S_numbers_of ct_S_numbers_of), sl_S_numbers_of⟩)
    (c_S_numbers_of : PySem.W.codeIn K cd_S_numbers_of "Shore.numbers_of" = true)
    (k_S_numbers_of : PySem.W.keepIn K (.ref f_S_numbers_of) = true)
    (a_S_answer_for : PySem.W.findIn K (.ref CS) "answer_for" = some (some (.ref f_S_answer_for)))
    (i_S_answer_for : PySem.W.isFn K (.ref f_S_answer_for) = true)
    (l_S_answer_for : K.lookup f_S_answer_for = some ⟨oc_S_answer_for, od_S_answer_for, .func (PySem.W.fnOf "answer_for" "Shore.answer_for" (defArgs (sS 4)) (defBody (sS 4)) (defScope (sS 4)) .none kv_S_answer_for dc_S_answer_for pm_S_answer_for an_S_answer_for cd_S_answer_for ct_S_answer_for), sl_S_answer_for⟩)
    (c_S_answer_for : PySem.W.codeIn K cd_S_answer_for "Shore.answer_for" = true)
    (k_S_answer_for : PySem.W.keepIn K (.ref f_S_answer_for) = true)
    (a_S_get : PySem.W.findIn K (.ref CS) "get" = some (some (.ref f_S_get)))
    (i_S_get : PySem.W.isFn K (.ref f_S_get) = true)
    (l_S_get : K.lookup f_S_get = some ⟨oc_S_get, od_S_get, .func (PySem.W.fnOf "get" "Shore.get" (defArgs (sS 5)) (defBody (sS 5)) (defScope (sS 5)) .none kv_S_get dc_S_get pm_S_get an_S_get cd_S_get ct_S_get), sl_S_get⟩)
    (c_S_get : PySem.W.codeIn K cd_S_get "Shore.get" = true)
    (k_S_get : PySem.W.keepIn K (.ref f_S_get) = true)
    (a_S_find : PySem.W.findIn K (.ref CS) "find" = some (some (.ref f_S_find)))
    (i_S_find : PySem.W.isFn K (.ref f_S_find) = true)
    (l_S_find : K.lookup f_S_find = some ⟨oc_S_find, od_S_find, .func (PySem.W.fnOf "find" "Shore.find" (defArgs (sS 6)) (defBody (sS 6)) (defScope (sS 6)) .none kv_S_find dc_S_find pm_S_find an_S_find cd_S_find ct_S_find), sl_S_find⟩)
    (c_S_find : PySem.W.codeIn K cd_S_find "Shore.find" = true)
    (k_S_find : PySem.W.keepIn K (.ref f_S_find) = true)
    (a_S_of_caller : PySem.W.findIn K (.ref CS) "of_caller" = some (some (.ref f_S_of_caller)))
    (i_S_of_caller : PySem.W.isFn K (.ref f_S_of_caller) = true)
    (l_S_of_caller : K.lookup f_S_of_caller = some ⟨oc_S_of_caller, od_S_of_caller, .func (PySem.W.fnOf "of_caller" "Shore.of_caller" (defArgs (sS 7)) (defBody (sS 7)) (defScope (sS 7)) .none kv_S_of_caller dc_S_of_caller pm_S_of_caller an_S_of_caller cd_S_of_caller ct_S_of_caller), sl_S_of_caller⟩)
    (c_S_of_caller : PySem.W.codeIn K cd_S_of_caller "Shore.of_caller" = true)
    (k_S_of_caller : PySem.W.keepIn K (.ref f_S_of_caller) = true)
    (a_S_gaps : PySem.W.findIn K (.ref CS) "gaps" = some (some (.ref f_S_gaps)))
    (i_S_gaps : PySem.W.isFn K (.ref f_S_gaps) = true)
    (l_S_gaps : K.lookup f_S_gaps = some ⟨oc_S_gaps, od_S_gaps, .func (PySem.W.fnOf "gaps" "Shore.gaps" (defArgs (sS 8)) (defBody (sS 8)) (defScope (sS 8)) .none kv_S_gaps dc_S_gaps pm_S_gaps an_S_gaps cd_S_gaps ct_S_gaps), sl_S_gaps⟩)
    (c_S_gaps : PySem.W.codeIn K cd_S_gaps "Shore.gaps" = true)
    (k_S_gaps : PySem.W.keepIn K (.ref f_S_gaps) = true)
    (a_S_state : PySem.W.findIn K (.ref CS) "state" = some (some (.ref f_S_state)))
    (i_S_state : PySem.W.isFn K (.ref f_S_state) = true)
    (l_S_state : K.lookup f_S_state = some ⟨oc_S_state, od_S_state, .func (PySem.W.fnOf "state" "Shore.state" (defArgs (sS 9)) (defBody (sS 9)) (defScope (sS 9)) .none kv_S_state dc_S_state pm_S_state an_S_state cd_S_state ct_S_state), sl_S_state⟩)
    (c_S_state : PySem.W.codeIn K cd_S_state "Shore.state" = true)
    (k_S_state : PySem.W.keepIn K (.ref f_S_state) = true)
    (a_D_init : PySem.W.findIn K (.ref CD) "__init__" = some (some (.ref f_D_init)))
    (i_D_init : PySem.W.isFn K (.ref f_D_init) = true)
    (l_D_init : K.lookup f_D_init = some ⟨oc_D_init, od_D_init, .func (PySem.W.fnOf "__init__" "Desk.__init__" (defArgs (sD 0)) (defBody (sD 0)) (defScope (sD 0)) .none kv_D_init dc_D_init pm_D_init an_D_init cd_D_init ct_D_init), sl_D_init⟩)
    (c_D_init : PySem.W.codeIn K cd_D_init "Desk.__init__" = true)
    (k_D_init : PySem.W.keepIn K (.ref f_D_init) = true)
    (a_D_call : PySem.W.findIn K (.ref CD) "call" = some (some (.ref f_D_call)))
    (i_D_call : PySem.W.isFn K (.ref f_D_call) = true)
    (l_D_call : K.lookup f_D_call = some ⟨oc_D_call, od_D_call, .func (PySem.W.fnOf "call" "Desk.call" (defArgs (sD 1)) (defBody (sD 1)) (defScope (sD 1)) .none kv_D_call dc_D_call pm_D_call an_D_call cd_D_call ct_D_call), sl_D_call⟩)
    (c_D_call : PySem.W.codeIn K cd_D_call "Desk.call" = true)
    (k_D_call : PySem.W.keepIn K (.ref f_D_call) = true)
    (a_D_answer_to : PySem.W.findIn K (.ref CD) "answer_to" = some (some (.ref f_D_answer_to)))
    (i_D_answer_to : PySem.W.isFn K (.ref f_D_answer_to) = true)
    (l_D_answer_to : K.lookup f_D_answer_to = some ⟨oc_D_answer_to, od_D_answer_to, .func (PySem.W.fnOf "answer_to" "Desk.answer_to" (defArgs (sD 2)) (defBody (sD 2)) (defScope (sD 2)) .none kv_D_answer_to dc_D_answer_to pm_D_answer_to an_D_answer_to cd_D_answer_to ct_D_answer_to), sl_D_answer_to⟩)
    (c_D_answer_to : PySem.W.codeIn K cd_D_answer_to "Desk.answer_to" = true)
    (k_D_answer_to : PySem.W.keepIn K (.ref f_D_answer_to) = true)
    : ∃ fd : FuncData, (∀ (s : Shared) (us : List Value), us.length = (["calls"] : List Str).length → BindsTo s fd ⟨us, []⟩ ((["calls"] : List Str).zip us)) ∧ ∀ base : Heap, K.In base → base.Ns mainGlobals mg → FnOk P w K mg base CX0 9 fa fd ["calls"] (spAns K) := by
  have e := hfa.symm.trans (PySem.W.mg_of X G a_answers)
  cases e
  have low : PySem.LowX.LowTxt K mg CR fRI :=
    { gC := PySem.W.mg_of X G aR, cls := ⟨nmR, qR, NR, bsR, _, snR, subR, abR, colR, ddR, m0, m1, m2, m3, m5, xR, by decide +kernel⟩, sa := saR, ga := gaR, gg := ggR, noN := nbR, iC := aRI, tC := tRI, kC := kR, exC := eR, tyC := tR, hdC := hR, te := exm_self eR iR tR sR,
      fn := ⟨_, _, _, _, _, _, _, _, _, _, _, _, _, _, lRI, cRI⟩ }
  have T : Txt K mg CR CC CS CD fRI f_need f_is_content f_is_call f_told_by f_bits_of f_of_caller f_of_shore a_NUMBERS a_WITH_ROW :=
    { low := low, clC := ⟨pgCC, hdCC, poCC, saCC⟩, clS := ⟨pgCS, hdCS, poCS, saCS⟩, clD := ⟨pgCD, hdCD, poCD, saCD⟩, nMe := nCC_me, nCalls := nCC_calls, nHeard := nCC_heard, nLast := nCC_last, nTell := nCC_tellings, nKept := nCS_kept, nAgain := nCS_again, nCallers := nCD_callers, nShore := nCD_shore, gCALL := ⟨_, PySem.W.mg_of X G g_CALL⟩, gANSWER := ⟨_, PySem.W.mg_of X G g_ANSWER⟩, gMCALLER := ⟨_, PySem.W.mg_of X G g_MOST_CALLER⟩, gMCALLS := ⟨_, PySem.W.mg_of X G g_MOST_CALLS⟩, gMKIND := ⟨_, PySem.W.mg_of X G g_MOST_KIND⟩, gMNUM := ⟨_, PySem.W.mg_of X G g_MOST_NUMBER⟩, gBEHIND := ⟨_, PySem.W.mg_of X G g_BEHIND⟩, gBITS := ⟨_, PySem.W.mg_of X G g_BITS⟩, gNOCALL := ⟨_, PySem.W.mg_of X G g_NO_CALL⟩, gNONE := ⟨_, PySem.W.mg_of X G g_NONE⟩, gNOTSO := ⟨_, PySem.W.mg_of X G g_NOT_SO⟩, gFULL := ⟨_, PySem.W.mg_of X G g_FULL⟩, gNOMSG := ⟨_, PySem.W.mg_of X G g_NO_MESSAGE⟩, gOTHER := ⟨_, PySem.W.mg_of X G g_OTHERWISE⟩, gCALLERS := ⟨_, PySem.W.mg_of X G g_CALLERS⟩, gCA := ⟨_, PySem.W.mg_of X G g_CA_START⟩, gSH := ⟨_, PySem.W.mg_of X G g_SH_START⟩, gNUMBERS := PySem.W.mg_of X G g_NUMBERS, sNUMBERS := fun _ => by obtain ⟨q1, its, n, q2, q3, q4⟩ := v_NUMBERS; exact .inr ⟨_, its, n, l_NUMBERS, q1, q2, q3, q4⟩, gROW := PySem.W.mg_of X G g_WITH_ROW, sROW := fun _ => by obtain ⟨q1, its, n, q2, q3, q4⟩ := v_WITH_ROW; exact .inr ⟨_, its, n, l_WITH_ROW, q1, q2, q3, q4⟩, gNeed := PySem.W.mg_of X G a_need, kNeed := k_need, gCon := PySem.W.mg_of X G a_is_content, kCon := k_is_content, gIsC := PySem.W.mg_of X G a_is_call, kIsC := k_is_call, gTold := PySem.W.mg_of X G a_told_by, kTold := k_told_by, gBits := PySem.W.mg_of X G a_bits_of, kBits := k_bits_of, gOfC := PySem.W.mg_of X G a_of_caller, kOfC := k_of_caller, gOfS := PySem.W.mg_of X G a_of_shore, kOfS := k_of_shore, gCC := PySem.W.mg_of X G aCC, gCS := PySem.W.mg_of X G aCS, gCD := PySem.W.mg_of X G aCD, len := PySem.W.mg_none_of X G b_len, range := PySem.W.mg_none_of X G b_range, list := PySem.W.mg_none_of X G b_list, tuple := PySem.W.mg_none_of X G b_tuple, min := PySem.W.mg_none_of X G b_min, max := PySem.W.mg_none_of X G b_max, sorted := PySem.W.mg_none_of X G b_sorted, int := PySem.W.mg_none_of X G b_int }
  have F_need := fun_mk (st := sNeed) l_need c_need k_need
  have F_is_content := fun_mk (st := sContent) l_is_content c_is_content k_is_content
  have F_is_call := fun_mk (st := sIsCall) l_is_call c_is_call k_is_call
  have F_told_by := fun_mk (st := sToldBy) l_told_by c_told_by k_told_by
  have F_bits_of := fun_mk (st := sBitsOf) l_bits_of c_bits_of k_bits_of
  have F_of_caller := fun_mk (st := sOfCaller) l_of_caller c_of_caller k_of_caller
  have F_of_shore := fun_mk (st := sOfShore) l_of_shore c_of_shore k_of_shore
  have F_answers := fun_mk (st := sAnswers) l_answers c_answers k_answers
  have F_C_init := fun_mk (st := (sC 0)) l_C_init c_C_init k_C_init
  have F_C_all_open := fun_mk (st := (sC 1)) l_C_all_open c_C_all_open k_C_all_open
  have F_C_may_call := fun_mk (st := (sC 2)) l_C_may_call c_C_may_call k_C_may_call
  have F_C_say := fun_mk (st := (sC 3)) l_C_say c_C_say k_C_say
  have F_C_next_told := fun_mk (st := (sC 4)) l_C_next_told c_C_next_told k_C_next_told
  have F_C_tell := fun_mk (st := (sC 5)) l_C_tell c_C_tell k_C_tell
  have F_C_is_good := fun_mk (st := (sC 6)) l_C_is_good c_C_is_good k_C_is_good
  have F_C_newly := fun_mk (st := (sC 7)) l_C_newly c_C_newly k_C_newly
  have F_C_hear := fun_mk (st := (sC 8)) l_C_hear c_C_hear k_C_hear
  have F_C_would := fun_mk (st := (sC 9)) l_C_would c_C_would k_C_would
  have F_C_known := fun_mk (st := (sC 10)) l_C_known c_C_known k_C_known
  have F_C_still_open := fun_mk (st := (sC 11)) l_C_still_open c_C_still_open k_C_still_open
  have F_C_said := fun_mk (st := (sC 12)) l_C_said c_C_said k_C_said
  have F_C_state := fun_mk (st := (sC 13)) l_C_state c_C_state k_C_state
  have F_S_init := fun_mk (st := (sS 0)) l_S_init c_S_init k_S_init
  have F_S_of_call := fun_mk (st := (sS 1)) l_S_of_call c_S_of_call k_S_of_call
  have F_S_hear := fun_mk (st := (sS 2)) l_S_hear c_S_hear k_S_hear
  have F_S_numbers_of := fun_mk (st := (sS 3)) l_S_numbers_of c_S_numbers_of k_S_numbers_of
  have F_S_answer_for := fun_mk (st := (sS 4)) l_S_answer_for c_S_answer_for k_S_answer_for
  have F_S_get := fun_mk (st := (sS 5)) l_S_get c_S_get k_S_get
  have F_S_find := fun_mk (st := (sS 6)) l_S_find c_S_find k_S_find
  have F_S_of_caller := fun_mk (st := (sS 7)) l_S_of_caller c_S_of_caller k_S_of_caller
  have F_S_gaps := fun_mk (st := (sS 8)) l_S_gaps c_S_gaps k_S_gaps
  have F_S_state := fun_mk (st := (sS 9)) l_S_state c_S_state k_S_state
  have F_D_init := fun_mk (st := (sD 0)) l_D_init c_D_init k_D_init
  have F_D_call := fun_mk (st := (sD 1)) l_D_call c_D_call k_D_call
  have F_D_answer_to := fun_mk (st := (sD 2)) l_D_answer_to c_D_answer_to k_D_answer_to
  exact ⟨PySem.W.fnOf "answers" "answers" (defArgs sAnswers) (defBody sAnswers) (defScope sAnswers) .none kv_answers dc_answers pm_answers an_answers cd_answers ct_answers, fun s us hu => match us, hu with | [_], _ => .of_eq rfl, fun base _ _ =>
    all_ok T ⟨mkCC, a_C_init, i_C_init, kcCC⟩ ⟨mkCS, a_S_init, i_S_init, kcCS⟩ ⟨mkCD, a_D_init, i_D_init, kcCD⟩ ⟨a_C_all_open, i_C_all_open, k_C_all_open⟩ ⟨a_C_may_call, i_C_may_call, k_C_may_call⟩ ⟨a_C_say, i_C_say, k_C_say⟩ ⟨a_C_next_told, i_C_next_told, k_C_next_told⟩ ⟨a_C_tell, i_C_tell, k_C_tell⟩ ⟨a_C_is_good, i_C_is_good, k_C_is_good⟩ ⟨a_C_newly, i_C_newly, k_C_newly⟩ ⟨a_C_hear, i_C_hear, k_C_hear⟩ ⟨a_C_would, i_C_would, k_C_would⟩ ⟨a_C_known, i_C_known, k_C_known⟩ ⟨a_C_still_open, i_C_still_open, k_C_still_open⟩ ⟨a_C_said, i_C_said, k_C_said⟩ ⟨a_C_state, i_C_state, k_C_state⟩ ⟨a_S_of_call, i_S_of_call, k_S_of_call⟩ ⟨a_S_hear, i_S_hear, k_S_hear⟩ ⟨a_S_numbers_of, i_S_numbers_of, k_S_numbers_of⟩ ⟨a_S_answer_for, i_S_answer_for, k_S_answer_for⟩ ⟨a_S_get, i_S_get, k_S_get⟩ ⟨a_S_find, i_S_find, k_S_find⟩ ⟨a_S_of_caller, i_S_of_caller, k_S_of_caller⟩ ⟨a_S_gaps, i_S_gaps, k_S_gaps⟩ ⟨a_S_state, i_S_state, k_S_state⟩ ⟨a_D_call, i_D_call, k_D_call⟩ ⟨a_D_answer_to, i_D_answer_to, k_D_answer_to⟩ ⟨_, F_need⟩ ⟨_, F_is_content⟩ ⟨_, F_is_call⟩ ⟨_, F_told_by⟩ ⟨_, F_bits_of⟩ ⟨_, F_of_caller⟩ ⟨_, F_of_shore⟩ ⟨_, F_C_init⟩ ⟨_, F_C_all_open⟩ ⟨_, F_C_may_call⟩ ⟨_, F_C_say⟩ ⟨_, F_C_next_told⟩ ⟨_, F_C_tell⟩ ⟨_, F_C_is_good⟩ ⟨_, F_C_newly⟩ ⟨_, F_C_hear⟩ ⟨_, F_C_would⟩ ⟨_, F_C_known⟩ ⟨_, F_C_still_open⟩ ⟨_, F_C_said⟩ ⟨_, F_C_state⟩ ⟨_, F_S_init⟩ ⟨_, F_S_of_call⟩ ⟨_, F_S_hear⟩ ⟨_, F_S_numbers_of⟩ ⟨_, F_S_answer_for⟩ ⟨_, F_S_get⟩ ⟨_, F_S_find⟩ ⟨_, F_S_of_caller⟩ ⟨_, F_S_gaps⟩ ⟨_, F_S_state⟩ ⟨_, F_D_init⟩ ⟨_, F_D_call⟩ ⟨_, F_D_answer_to⟩ F_answers⟩
end CA
open PySem PySem.W PyProof.Rows
set_option maxRecDepth 100000 in
set_option maxHeartbeats 8000000 in
theorem PySem.Challenge.cw_calledshores_s01_answers_holds : PySem.Challenge.rw_calledshores_s01_answers.Holds := by
  w_on; k_headS; (case hw => exact ⟨[.list [.int 9, .int 0]], by decide +kernel, by decide +kernel⟩)
  k_fillS
  refine L2.walk_specK (r := PySem.Challenge.rw_calledshores_s01_answers) (k := 9) (CX := L2.CX0) (ps := ["calls"]) (sp := CA.spAns) (by decide +kernel) rfl rfl ⟨rfl, by decide, by decide⟩ (fun w h Y => PySem.W.kIn_of Y) ?F ?S (fun _ _ _ _ z => z)
  case F =>
    intro w mg fa h Y KX G hmg
    refine' CA.all_mk KX G hmg ?aR ?xR ?saR ?gaR ?ggR ?nbR ?aRI ?tRI ?lRI ?cRI ?kR ?eR ?tR ?hR ?iR ?sR ?aCC ?pgCC ?hdCC ?poCC ?saCC ?mkCC ?kcCC ?nCC_me ?nCC_calls ?nCC_heard ?nCC_last ?nCC_tellings ?aCS ?pgCS ?hdCS ?poCS ?saCS ?mkCS ?kcCS ?nCS_kept ?nCS_again ?aCD ?pgCD ?hdCD ?poCD ?saCD ?mkCD ?kcCD ?nCD_callers ?nCD_shore ?g_CALL ?g_ANSWER ?g_MOST_CALLER ?g_MOST_CALLS ?g_MOST_KIND ?g_MOST_NUMBER ?g_BEHIND ?g_BITS ?g_NO_CALL ?g_NONE ?g_NOT_SO ?g_FULL ?g_NO_MESSAGE ?g_OTHERWISE ?g_CALLERS ?g_CA_START ?g_SH_START ?g_NUMBERS ?l_NUMBERS ?v_NUMBERS ?g_WITH_ROW ?l_WITH_ROW ?v_WITH_ROW ?b_len ?b_range ?b_list ?b_tuple ?b_min ?b_max ?b_sorted ?b_int ?a_need ?l_need ?c_need ?k_need ?a_is_content ?l_is_content ?c_is_content ?k_is_content ?a_is_call ?l_is_call ?c_is_call ?k_is_call ?a_told_by ?l_told_by ?c_told_by ?k_told_by ?a_bits_of ?l_bits_of ?c_bits_of ?k_bits_of ?a_of_caller ?l_of_caller ?c_of_caller ?k_of_caller ?a_of_shore ?l_of_shore ?c_of_shore ?k_of_shore ?a_answers ?l_answers ?c_answers ?k_answers ?a_C_init ?i_C_init ?l_C_init ?c_C_init ?k_C_init ?a_C_all_open ?i_C_all_open ?l_C_all_open ?c_C_all_open ?k_C_all_open ?a_C_may_call ?i_C_may_call ?l_C_may_call ?c_C_may_call ?k_C_may_call ?a_C_say ?i_C_say ?l_C_say ?c_C_say ?k_C_say ?a_C_next_told ?i_C_next_told ?l_C_next_told ?c_C_next_told ?k_C_next_told ?a_C_tell ?i_C_tell ?l_C_tell ?c_C_tell ?k_C_tell ?a_C_is_good ?i_C_is_good ?l_C_is_good ?c_C_is_good ?k_C_is_good ?a_C_newly ?i_C_newly ?l_C_newly ?c_C_newly ?k_C_newly ?a_C_hear ?i_C_hear ?l_C_hear ?c_C_hear ?k_C_hear ?a_C_would ?i_C_would ?l_C_would ?c_C_would ?k_C_would ?a_C_known ?i_C_known ?l_C_known ?c_C_known ?k_C_known ?a_C_still_open ?i_C_still_open ?l_C_still_open ?c_C_still_open ?k_C_still_open ?a_C_said ?i_C_said ?l_C_said ?c_C_said ?k_C_said ?a_C_state ?i_C_state ?l_C_state ?c_C_state ?k_C_state ?a_S_init ?i_S_init ?l_S_init ?c_S_init ?k_S_init ?a_S_of_call ?i_S_of_call ?l_S_of_call ?c_S_of_call ?k_S_of_call ?a_S_hear ?i_S_hear ?l_S_hear ?c_S_hear ?k_S_hear ?a_S_numbers_of ?i_S_numbers_of ?l_S_numbers_of ?c_S_numbers_of ?k_S_numbers_of ?a_S_answer_for ?i_S_answer_for ?l_S_answer_for ?c_S_answer_for ?k_S_answer_for ?a_S_get ?i_S_get ?l_S_get ?c_S_get ?k_S_get ?a_S_find ?i_S_find ?l_S_find ?c_S_find ?k_S_find ?a_S_of_caller ?i_S_of_caller ?l_S_of_caller ?c_S_of_caller ?k_S_of_caller ?a_S_gaps ?i_S_gaps ?l_S_gaps ?c_S_gaps ?k_S_gaps ?a_S_state ?i_S_state ?l_S_state ?c_S_state ?k_S_state ?a_D_init ?i_D_init ?l_D_init ?c_D_init ?k_D_init ?a_D_call ?i_D_call ?l_D_call ?c_D_call ?k_D_call ?a_D_answer_to ?i_D_answer_to ?l_D_answer_to ?c_D_answer_to ?k_D_answer_to
    (case aR => k_is)
    (case xR => k_is)
    (case saR => k_is)
    (case gaR => k_is)
    (case ggR => k_is)
    (case nbR => k_is)
    (case aRI => k_is)
    (case tRI => k_is)
    (case lRI => k_is)
    (case cRI => k_is)
    (case kR => k_is)
    (case eR => k_is)
    (case tR => k_is)
    (case hR => k_is)
    (case iR => k_is)
    (case sR => first | rfl | k_is)
    (case aCC => k_is)
    (case pgCC => k_is)
    (case hdCC => k_is)
    (case poCC => k_is)
    (case saCC => k_is)
    (case mkCC => k_is)
    (case kcCC => k_is)
    (case nCC_me => k_is)
    (case nCC_calls => k_is)
    (case nCC_heard => k_is)
    (case nCC_last => k_is)
    (case nCC_tellings => k_is)
    (case aCS => k_is)
    (case pgCS => k_is)
    (case hdCS => k_is)
    (case poCS => k_is)
    (case saCS => k_is)
    (case mkCS => k_is)
    (case kcCS => k_is)
    (case nCS_kept => k_is)
    (case nCS_again => k_is)
    (case aCD => k_is)
    (case pgCD => k_is)
    (case hdCD => k_is)
    (case poCD => k_is)
    (case saCD => k_is)
    (case mkCD => k_is)
    (case kcCD => k_is)
    (case nCD_callers => k_is)
    (case nCD_shore => k_is)
    (case g_CALL => k_is)
    (case g_ANSWER => k_is)
    (case g_MOST_CALLER => k_is)
    (case g_MOST_CALLS => k_is)
    (case g_MOST_KIND => k_is)
    (case g_MOST_NUMBER => k_is)
    (case g_BEHIND => k_is)
    (case g_BITS => k_is)
    (case g_NO_CALL => k_is)
    (case g_NONE => k_is)
    (case g_NOT_SO => k_is)
    (case g_FULL => k_is)
    (case g_NO_MESSAGE => k_is)
    (case g_OTHERWISE => k_is)
    (case g_CALLERS => k_is)
    (case g_CA_START => k_is)
    (case g_SH_START => k_is)
    (case g_NUMBERS => k_is)
    (case l_NUMBERS => k_is)
    (case v_NUMBERS => exact ⟨rfl, _, _, rfl, by decide, (.cons ⟨_, rfl⟩ (.cons ⟨_, rfl⟩ (.cons ⟨_, rfl⟩ (.cons ⟨_, rfl⟩ (.cons ⟨_, rfl⟩ (.cons ⟨_, rfl⟩ (.cons ⟨_, rfl⟩ (.cons ⟨_, rfl⟩ (.cons ⟨_, rfl⟩ (.cons ⟨_, rfl⟩ (.cons ⟨_, rfl⟩ (.cons ⟨_, rfl⟩ (.cons ⟨_, rfl⟩ (.cons ⟨_, rfl⟩ (.cons ⟨_, rfl⟩ (.cons ⟨_, rfl⟩ (.cons ⟨_, rfl⟩ .nil)))))))))))))))))⟩)
    (case g_WITH_ROW => k_is)
    (case l_WITH_ROW => k_is)
    (case v_WITH_ROW => exact ⟨rfl, _, _, rfl, by decide, (.cons ⟨_, rfl⟩ (.cons ⟨_, rfl⟩ (.cons ⟨_, rfl⟩ .nil)))⟩)
    (case b_len => k_is)
    (case b_range => k_is)
    (case b_list => k_is)
    (case b_tuple => k_is)
    (case b_min => k_is)
    (case b_max => k_is)
    (case b_sorted => k_is)
    (case b_int => k_is)
    (case a_need => k_is)
    (case l_need => k_is)
    (case c_need => k_is)
    (case k_need => k_is)
    (case a_is_content => k_is)
    (case l_is_content => k_is)
    (case c_is_content => k_is)
    (case k_is_content => k_is)
    (case a_is_call => k_is)
    (case l_is_call => k_is)
    (case c_is_call => k_is)
    (case k_is_call => k_is)
    (case a_told_by => k_is)
    (case l_told_by => k_is)
    (case c_told_by => k_is)
    (case k_told_by => k_is)
    (case a_bits_of => k_is)
    (case l_bits_of => k_is)
    (case c_bits_of => k_is)
    (case k_bits_of => k_is)
    (case a_of_caller => k_is)
    (case l_of_caller => k_is)
    (case c_of_caller => k_is)
    (case k_of_caller => k_is)
    (case a_of_shore => k_is)
    (case l_of_shore => k_is)
    (case c_of_shore => k_is)
    (case k_of_shore => k_is)
    (case a_answers => k_is)
    (case l_answers => k_is)
    (case c_answers => k_is)
    (case k_answers => k_is)
    (case a_C_init => k_is)
    (case i_C_init => k_is)
    (case l_C_init => k_is)
    (case c_C_init => k_is)
    (case k_C_init => k_is)
    (case a_C_all_open => k_is)
    (case i_C_all_open => k_is)
    (case l_C_all_open => k_is)
    (case c_C_all_open => k_is)
    (case k_C_all_open => k_is)
    (case a_C_may_call => k_is)
    (case i_C_may_call => k_is)
    (case l_C_may_call => k_is)
    (case c_C_may_call => k_is)
    (case k_C_may_call => k_is)
    (case a_C_say => k_is)
    (case i_C_say => k_is)
    (case l_C_say => k_is)
    (case c_C_say => k_is)
    (case k_C_say => k_is)
    (case a_C_next_told => k_is)
    (case i_C_next_told => k_is)
    (case l_C_next_told => k_is)
    (case c_C_next_told => k_is)
    (case k_C_next_told => k_is)
    (case a_C_tell => k_is)
    (case i_C_tell => k_is)
    (case l_C_tell => k_is)
    (case c_C_tell => k_is)
    (case k_C_tell => k_is)
    (case a_C_is_good => k_is)
    (case i_C_is_good => k_is)
    (case l_C_is_good => k_is)
    (case c_C_is_good => k_is)
    (case k_C_is_good => k_is)
    (case a_C_newly => k_is)
    (case i_C_newly => k_is)
    (case l_C_newly => k_is)
    (case c_C_newly => k_is)
    (case k_C_newly => k_is)
    (case a_C_hear => k_is)
    (case i_C_hear => k_is)
    (case l_C_hear => k_is)
    (case c_C_hear => k_is)
    (case k_C_hear => k_is)
    (case a_C_would => k_is)
    (case i_C_would => k_is)
    (case l_C_would => k_is)
    (case c_C_would => k_is)
    (case k_C_would => k_is)
    (case a_C_known => k_is)
    (case i_C_known => k_is)
    (case l_C_known => k_is)
    (case c_C_known => k_is)
    (case k_C_known => k_is)
    (case a_C_still_open => k_is)
    (case i_C_still_open => k_is)
    (case l_C_still_open => k_is)
    (case c_C_still_open => k_is)
    (case k_C_still_open => k_is)
    (case a_C_said => k_is)
    (case i_C_said => k_is)
    (case l_C_said => k_is)
    (case c_C_said => k_is)
    (case k_C_said => k_is)
    (case a_C_state => k_is)
    (case i_C_state => k_is)
    (case l_C_state => k_is)
    (case c_C_state => k_is)
    (case k_C_state => k_is)
    (case a_S_init => k_is)
    (case i_S_init => k_is)
    (case l_S_init => k_is)
    (case c_S_init => k_is)
    (case k_S_init => k_is)
    (case a_S_of_call => k_is)
    (case i_S_of_call => k_is)
    (case l_S_of_call => k_is)
    (case c_S_of_call => k_is)
    (case k_S_of_call => k_is)
    (case a_S_hear => k_is)
    (case i_S_hear => k_is)
    (case l_S_hear => k_is)
    (case c_S_hear => k_is)
    (case k_S_hear => k_is)
    (case a_S_numbers_of => k_is)
    (case i_S_numbers_of => k_is)
    (case l_S_numbers_of => k_is)
    (case c_S_numbers_of => k_is)
    (case k_S_numbers_of => k_is)
    (case a_S_answer_for => k_is)
    (case i_S_answer_for => k_is)
    (case l_S_answer_for => k_is)
    (case c_S_answer_for => k_is)
    (case k_S_answer_for => k_is)
    (case a_S_get => k_is)
    (case i_S_get => k_is)
    (case l_S_get => k_is)
    (case c_S_get => k_is)
    (case k_S_get => k_is)
    (case a_S_find => k_is)
    (case i_S_find => k_is)
    (case l_S_find => k_is)
    (case c_S_find => k_is)
    (case k_S_find => k_is)
    (case a_S_of_caller => k_is)
    (case i_S_of_caller => k_is)
    (case l_S_of_caller => k_is)
    (case c_S_of_caller => k_is)
    (case k_S_of_caller => k_is)
    (case a_S_gaps => k_is)
    (case i_S_gaps => k_is)
    (case l_S_gaps => k_is)
    (case c_S_gaps => k_is)
    (case k_S_gaps => k_is)
    (case a_S_state => k_is)
    (case i_S_state => k_is)
    (case l_S_state => k_is)
    (case c_S_state => k_is)
    (case k_S_state => k_is)
    (case a_D_init => k_is)
    (case i_D_init => k_is)
    (case l_D_init => k_is)
    (case c_D_init => k_is)
    (case k_D_init => k_is)
    (case a_D_call => k_is)
    (case i_D_call => k_is)
    (case l_D_call => k_is)
    (case c_D_call => k_is)
    (case k_D_call => k_is)
    (case a_D_answer_to => k_is)
    (case i_D_answer_to => k_is)
    (case l_D_answer_to => k_is)
    (case c_D_answer_to => k_is)
    (case k_D_answer_to => k_is)
  case S =>
    intro K H xs a hO hwi hask hx
    cases hx with
    | cons h1 h2 =>
      cases h2
      cases h1 with
      | lst hs ha =>
        have e := L2.ints_dw a.1 _ ha
        subst e
        exact ⟨_, a.1, rfl, hs, hask, fun H' p hp => .lst (L2.SqL.of hp) (L2.dw_ints _)⟩
#print axioms PySem.Challenge.cw_calledshores_s01_answers_holds
