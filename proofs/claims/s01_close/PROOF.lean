import PyProof.Rows.All
import Wide.All
import OpenK.AllK
import Wide.FinOn
import Open.SpecLaws
import KE.OsGo
import HandS.ForSpec
import HandS.ForMost
import HandS.Evl
import HandS.WideBits
import HandS.SortRule
import HandS.Rev
import PySem.Challenge.RW_belowness_s01_close
set_option Elab.async false
set_option linter.all false
set_option maxRecDepth 100000
set_option maxHeartbeats 4000000
namespace Bel
open Nat
/-! ### bits -/
theorem sub_testBit : ∀ (i a x : Nat), (∀ j, x.testBit j = true → a.testBit j = true) → (a - x).testBit i = (a.testBit i && !x.testBit i)
  | 0, a, x, h => by
    have h0 := h 0
    have hle := Nat.le_of_testBit h
    simp only [Nat.testBit_zero, decide_eq_true_eq] at h0
    rw [Nat.testBit_zero, Nat.testBit_zero, Nat.testBit_zero]
    by_cases hx : x % 2 = 1
    · have ha := h0 hx
      have : (a - x) % 2 = 0 := by omega
      simp [hx, ha, this]
    · by_cases ha : a % 2 = 1
      · have : (a - x) % 2 = 1 := by omega
        simp [hx, ha, this]
      · have : ¬ (a - x) % 2 = 1 := by omega
        simp [hx, ha, this]
  | i + 1, a, x, h => by
    have h0 := h 0
    have hle := Nat.le_of_testBit h
    simp only [Nat.testBit_zero, decide_eq_true_eq] at h0
    have e : (a - x) / 2 = a / 2 - x / 2 := by omega
    rw [Nat.testBit_succ, Nat.testBit_succ, Nat.testBit_succ, e]
    exact sub_testBit i _ _ fun j hj => by
      have := h (j + 1)
      rw [Nat.testBit_succ, Nat.testBit_succ] at this
      exact this hj
/-- a without what b has -/
def less (a b : Nat) : Nat := a - (a &&& b)
theorem less_bit (a b i : Nat) : (less a b).testBit i = (a.testBit i && !b.testBit i) := by
  unfold less
  rw [sub_testBit i a (a &&& b) (fun j hj => by rw [Nat.testBit_and, Bool.and_eq_true] at hj; exact hj.1), Nat.testBit_and]
  cases a.testBit i <;> cases b.testBit i <;> rfl
theorem less_le (a b : Nat) : less a b ≤ a := Nat.sub_le _ _
/-- one bit taken away -/
theorem drop_bit {m i : Nat} (h : m.testBit i = true) (j : Nat) : (m - 2 ^ i).testBit j = (m.testBit j && !decide (i = j)) := by
  rw [sub_testBit j m (2 ^ i) (fun k hk => by
    rw [Nat.testBit_two_pow, decide_eq_true_eq] at hk
    subst hk
    exact h), Nat.testBit_two_pow]
theorem bit_le {m i : Nat} (h : m.testBit i = true) : 2 ^ i ≤ m := Nat.ge_two_pow_of_testBit h
theorem bit_lt {m n i : Nat} (hm : m < 2 ^ n) (h : m.testBit i = true) : i < n := by
  have h1 := bit_le h
  exact (Nat.pow_lt_pow_iff_right (by decide : 1 < 2)).mp (Nat.lt_of_le_of_lt h1 hm)
theorem lt_of_bits {m n : Nat} (h : ∀ i, m.testBit i = true → i < n) : m < 2 ^ n := Nat.lt_pow_two_of_testBit m fun i hi => by
  cases q : m.testBit i with
  | false => rfl
  | true => exact absurd (h i q) (by omega)
/-- the lowest bit -/
theorem low_ex : ∀ (m : Nat), m ≠ 0 → ∃ v, m.testBit v = true ∧ (∀ j, j < v → m.testBit j = false) ∧ m &&& (m - 1) = m - 2 ^ v := by
  intro m
  induction m using Nat.strongRecOn with
  | _ m ih =>
    intro hm
    by_cases h : m % 2 = 1
    · refine ⟨0, by rw [Nat.testBit_zero, decide_eq_true h], fun j hj => by omega, ?_⟩
      apply Nat.eq_of_testBit_eq
      intro i
      rw [Nat.testBit_and]
      cases i with
      | zero =>
        have : ¬ (m - 1) % 2 = 1 := by omega
        simp [this]
      | succ i =>
        have : (m - 1) / 2 = m / 2 := by omega
        rw [Nat.pow_zero, Nat.testBit_succ, Nat.testBit_succ, this, Bool.and_self]
    · obtain ⟨v, h1, h2, h3⟩ := ih (m / 2) (by omega) (by omega)
      refine ⟨v + 1, by rw [Nat.testBit_succ]; exact h1, fun j hj => ?_, ?_⟩
      · cases j with
        | zero => rw [Nat.testBit_zero, decide_eq_false h]
        | succ j => rw [Nat.testBit_succ]; exact h2 j (by omega)
      · apply Nat.eq_of_testBit_eq
        intro i
        have hle := bit_le h1
        have e : 2 ^ (v + 1) = 2 * 2 ^ v := by rw [Nat.pow_succ, Nat.mul_comm]
        rw [Nat.testBit_and, e]
        cases i with
        | zero =>
          rw [Nat.testBit_zero, Nat.testBit_zero, Nat.testBit_zero]
          have : ¬ (m - 2 * 2 ^ v) % 2 = 1 := by omega
          simp [h, this]
        | succ i =>
          rw [Nat.testBit_succ, Nat.testBit_succ, Nat.testBit_succ]
          have a1 : (m - 1) / 2 = m / 2 - 1 := by omega
          have a2 : (m - 2 * 2 ^ v) / 2 = m / 2 - 2 ^ v := by omega
          rw [a1, a2, ← h3, Nat.testBit_and]
/-! ### members -/
theorem mem_members {n m i : Nat} : i ∈ Rb22.members n m ↔ i < n ∧ m.testBit i = true := by
  unfold Rb22.members
  rw [List.mem_filter, List.mem_range]
theorem filter_ext {α : Type} {p q : α → Bool} : ∀ {l : List α}, (∀ a ∈ l, p a = q a) → l.filter p = l.filter q
  | [], _ => rfl
  | a :: l, h => by
    rw [List.filter_cons, List.filter_cons, h a (List.mem_cons_self ..), filter_ext (fun b hb => h b (List.mem_cons_of_mem _ hb))]
theorem filter_none {α : Type} {p : α → Bool} {l : List α} (h : ∀ a ∈ l, p a = false) : l.filter p = [] := by
  rw [List.filter_eq_nil_iff]
  intro a ha
  rw [h a ha]
  decide
theorem range_split {v n : Nat} (h : v < n) : List.range n = List.range v ++ v :: List.range' (v + 1) (n - v - 1) := by
  have e : n = v + (1 + (n - v - 1)) := by omega
  rw [List.range_eq_range', List.range_eq_range']
  conv => lhs; rw [e]
  rw [← List.range'_append_1, Nat.zero_add, ← List.range'_append_1]
  rfl
theorem members_zero (n : Nat) : Rb22.members n 0 = [] := filter_none fun a _ => Nat.zero_testBit a
theorem members_low {n m v : Nat} (hm : m < 2 ^ n) (h1 : m.testBit v = true) (h2 : ∀ j, j < v → m.testBit j = false) : Rb22.members n m = v :: Rb22.members n (m - 2 ^ v) := by
  have hv : v < n := bit_lt hm h1
  unfold Rb22.members
  rw [range_split hv, List.filter_append, List.filter_append, List.filter_cons, List.filter_cons, if_pos h1,
    filter_none (l := List.range v) (p := fun i => m.testBit i) (fun a ha => h2 a (List.mem_range.mp ha)),
    filter_none (l := List.range v) (p := fun i => (m - 2 ^ v).testBit i) (fun a ha => by rw [drop_bit h1, h2 a (List.mem_range.mp ha)]; rfl),
    if_neg (by rw [drop_bit h1]; simp)]
  rw [List.nil_append, List.nil_append]
  congr 1
  refine filter_ext fun a ha => ?_
  have : v ≠ a := by
    rw [List.mem_range'_1] at ha
    omega
  rw [drop_bit h1, decide_eq_false this]
  simp
theorem members_sub_lt {n m v : Nat} (hm : m < 2 ^ n) : m - 2 ^ v < 2 ^ n := Nat.lt_of_le_of_lt (Nat.sub_le _ _) hm
theorem members_len_le (n m : Nat) : (Rb22.members n m).length ≤ n := by
  have := List.length_filter_le (fun i => m.testBit i) (List.range n)
  rw [List.length_range] at this
  exact this
/-! ### setOf -/
theorem setOf_go : ∀ (l : List Nat) (a j : Nat), (l.foldl (fun m i => m ||| 2 ^ i) a).testBit j = (a.testBit j || decide (j ∈ l))
  | [], a, j => by simp
  | x :: l, a, j => by
    rw [List.foldl_cons, setOf_go l, Nat.testBit_or, Nat.testBit_two_pow]
    by_cases h : x = j
    · subst h; simp
    · have : ¬ j = x := fun e => h e.symm
      simp [h, this]
theorem setOf_bit (l : List Nat) (j : Nat) : (Rb22.setOf l).testBit j = decide (j ∈ l) := by
  unfold Rb22.setOf
  rw [setOf_go]
  simp
theorem setOf_filter_bit {r : List Nat} (p : Nat → Bool) (j : Nat) : (Rb22.setOf ((Rb22.things r).filter p)).testBit j = (decide (j < r.length) && p j) := by
  rw [setOf_bit]
  unfold Rb22.things
  by_cases h : j < r.length <;> cases hp : p j <;> simp [h, hp]
theorem setOf_snoc (l : List Nat) (i : Nat) : Rb22.setOf (l ++ [i]) = Rb22.setOf l ||| 2 ^ i := by
  unfold Rb22.setOf
  rw [List.foldl_append]
  rfl
theorem or_add {m i : Nat} (h : m < 2 ^ i) : m ||| 2 ^ i = m + 2 ^ i := Nat.or_two_pow_eq_add_of_lt h
end Bel
namespace Bel
theorem bool_ext {a b : Bool} (h : a = true ↔ b = true) : a = b := by
  cases a <;> cases b <;> simp_all
/-! ### an order -/
structure Ord (r : List Nat) : Prop where
  lt : ∀ i, i < r.length → r.getD i 0 < 2 ^ r.length
  refl : ∀ i, i < r.length → (r.getD i 0).testBit i = true
  anti : ∀ i j, i < r.length → j < r.length → (r.getD i 0).testBit j = true → (r.getD j 0).testBit i = true → i = j
  trans : ∀ i j k, i < r.length → j < r.length → (r.getD i 0).testBit j = true → (r.getD j 0).testBit k = true → (r.getD i 0).testBit k = true
theorem or_eq_iff {a b : Nat} : (a ||| b) = b ↔ ∀ k, a.testBit k = true → b.testBit k = true := by
  constructor
  · intro h k hk
    rw [← h, Nat.testBit_or, hk]
    rfl
  · intro h
    apply Nat.eq_of_testBit_eq
    intro k
    rw [Nat.testBit_or]
    cases q : a.testBit k with
    | false => rfl
    | true => rw [h k q]; rfl
theorem ord_of {r : List Nat} (h : Rb22.isOrder r = true) : Ord r := by
  unfold Rb22.isOrder Rb22.things Rb22.le at h
  rw [List.all_eq_true] at h
  have g : ∀ i, i < r.length → (r.getD i 0).testBit i = true ∧ r.getD i 0 < 2 ^ r.length ∧ ∀ j, j < r.length → (r.getD i 0).testBit j = true → (i = j ∨ (r.getD j 0).testBit i = false) ∧ (r.getD j 0 ||| r.getD i 0) = r.getD i 0 := by
    intro i hi
    have q := h i (List.mem_range.mpr hi)
    rw [Bool.and_eq_true, Bool.and_eq_true, decide_eq_true_eq, List.all_eq_true] at q
    refine ⟨q.1.1, q.1.2, fun j hj hb => ?_⟩
    have q2 := q.2 j (List.mem_range.mpr hj)
    rw [hb] at q2
    simp only [Bool.not_true, Bool.false_or, Bool.and_eq_true, Bool.or_eq_true, beq_iff_eq, Bool.not_eq_true'] at q2
    exact q2
  refine ⟨fun i hi => (g i hi).2.1, fun i hi => (g i hi).1, fun i j hi hj h1 h2 => ?_, fun i j k hi hj h1 h2 => ?_⟩
  · rcases ((g i hi).2.2 j hj h1).1 with e | e
    · exact e
    · rw [e] at h2; cases h2
  · exact or_eq_iff.mp ((g i hi).2.2 j hj h1).2 k h2
end Bel
namespace Bel
/-! ### lists -/
theorem take_snoc {α : Type} : ∀ {l : List α} {i : Nat} {x : α}, l[i]? = some x → l.take (i + 1) = l.take i ++ [x]
  | [], i, x, h => by simp at h
  | a :: l, 0, x, h => by
    have e : a = x := Option.some.inj h
    subst e
    rfl
  | a :: l, i + 1, x, h => by
    show a :: l.take (i + 1) = a :: (l.take i ++ [x])
    rw [take_snoc (l := l) (i := i) (x := x) h]
theorem drop_cons {α : Type} : ∀ {l : List α} {i : Nat} {x : α}, l[i]? = some x → l.drop i = x :: l.drop (i + 1)
  | [], i, x, h => by simp at h
  | a :: l, 0, x, h => by
    have e : a = x := Option.some.inj h
    subst e
    rfl
  | a :: l, i + 1, x, h => drop_cons (l := l) (i := i) (x := x) h
theorem find_none {α : Type} {p : α → Bool} : ∀ {l : List α}, (∀ y ∈ l, p y = false) → l.find? p = none
  | [], _ => rfl
  | a :: l, h => by
    rw [List.find?_cons, h a (List.mem_cons_self ..)]
    exact find_none fun y hy => h y (List.mem_cons_of_mem _ hy)
theorem find_at {α : Type} {p : α → Bool} : ∀ {l : List α} {i : Nat} {x : α}, (∀ y ∈ l.take i, p y = false) → l[i]? = some x → p x = true → l.find? p = some x
  | [], i, x, _, h, _ => by simp at h
  | a :: l, 0, x, _, h, hp => by
    have e : a = x := Option.some.inj h
    subst e
    rw [List.find?_cons, hp]
  | a :: l, i + 1, x, hn, h, hp => by
    have ha : p a = false := hn a (by rw [List.take_succ_cons]; exact List.mem_cons_self ..)
    rw [List.find?_cons, ha]
    exact find_at (l := l) (i := i) (fun y hy => hn y (by rw [List.take_succ_cons]; exact List.mem_cons_of_mem _ hy)) h hp
theorem find_ext {α : Type} {p q : α → Bool} : ∀ {l : List α}, (∀ y ∈ l, p y = q y) → l.find? p = l.find? q
  | [], _ => rfl
  | a :: l, h => by
    rw [List.find?_cons, List.find?_cons, h a (List.mem_cons_self ..), find_ext fun y hy => h y (List.mem_cons_of_mem _ hy)]
theorem mem_take_more {α : Type} {P : α → Prop} {l : List α} {i : Nat} {x : α} (h : ∀ y ∈ l.take i, P y) (hx : l[i]? = some x) (hp : P x) : ∀ y ∈ l.take (i + 1), P y := by
  rw [take_snoc hx]
  intro y hy
  rw [List.mem_append, List.mem_singleton] at hy
  rcases hy with hy | rfl
  · exact h y hy
  · exact hp
theorem getD_map {f : Nat → Nat} {n i : Nat} (h : i < n) : ((List.range n).map f).getD i 0 = f i := by
  rw [List.getD_eq_getElem?_getD, List.getElem?_map, List.getElem?_range h]
  rfl
theorem get_getD {l : List Nat} {i m : Nat} (h : l[i]? = some m) : l.getD i 0 = m := by
  rw [List.getD_eq_getElem?_getD, h]
  rfl
theorem list_ext_getD {l l' : List Nat} (hl : l.length = l'.length) (h : ∀ i, i < l.length → l.getD i 0 = l'.getD i 0) : l = l' := by
  apply List.ext_getElem? 
  intro i
  by_cases hi : i < l.length
  · have q := h i hi
    rw [List.getD_eq_getElem?_getD, List.getD_eq_getElem?_getD, List.getElem?_eq_getElem hi, List.getElem?_eq_getElem (by omega)] at q
    rw [List.getElem?_eq_getElem hi, List.getElem?_eq_getElem (by omega)]
    exact congrArg some q
  · rw [List.getElem?_eq_none (by omega), List.getElem?_eq_none (by omega)]
end Bel
namespace Bel
/-! ### the other way up -/
theorem turned_len (r : List Nat) : (Rb22.turned r).length = r.length := by
  unfold Rb22.turned Rb22.things
  rw [List.length_map, List.length_range]
theorem turned_bit (r : List Nat) {i : Nat} (hi : i < r.length) (j : Nat) : ((Rb22.turned r).getD i 0).testBit j = (decide (j < r.length) && (r.getD j 0).testBit i) := by
  unfold Rb22.turned
  rw [show Rb22.things r = List.range r.length from rfl, getD_map hi, ← show Rb22.things r = List.range r.length from rfl, setOf_filter_bit]
  rfl
theorem ord_turned {r : List Nat} (O : Ord r) : Ord (Rb22.turned r) := by
  refine ⟨?_, ?_, ?_, ?_⟩
  · intro i hi
    rw [turned_len] at hi ⊢
    refine lt_of_bits fun j hj => ?_
    rw [turned_bit r hi, Bool.and_eq_true, decide_eq_true_eq] at hj
    exact hj.1
  · intro i hi
    rw [turned_len] at hi
    rw [turned_bit r hi, O.refl i hi, decide_eq_true hi]
    rfl
  · intro i j hi hj h1 h2
    rw [turned_len] at hi hj
    rw [turned_bit r hi, Bool.and_eq_true] at h1
    rw [turned_bit r hj, Bool.and_eq_true] at h2
    exact O.anti i j hi hj h2.2 h1.2
  · intro i j k hi hj h1 h2
    rw [turned_len] at hi hj
    rw [turned_bit r hi, Bool.and_eq_true] at h1
    rw [turned_bit r hj, Bool.and_eq_true, decide_eq_true_eq] at h2
    rw [turned_bit r hi, Bool.and_eq_true, decide_eq_true_eq]
    exact ⟨h2.1, O.trans k j i h2.1 hj h2.2 h1.2⟩
end Bel
namespace Bel
/-- the first t things turned over -/
def turnedTo (r : List Nat) (t o : Nat) : Nat := Rb22.setOf ((List.range t).filter fun j => (r.getD j 0).testBit o)
theorem turnedTo_zero (r : List Nat) (o : Nat) : turnedTo r 0 o = 0 := rfl
theorem turnedTo_lt (r : List Nat) (t o : Nat) : turnedTo r t o < 2 ^ t := by
  refine lt_of_bits fun j hj => ?_
  unfold turnedTo at hj
  rw [setOf_bit, decide_eq_true_eq, List.mem_filter, List.mem_range] at hj
  exact hj.1
theorem turnedTo_succ (r : List Nat) (t o : Nat) : turnedTo r (t + 1) o = turnedTo r t o + (if (r.getD t 0).testBit o = true then 2 ^ t else 0) := by
  have hl := turnedTo_lt r t o
  unfold turnedTo at hl ⊢
  rw [List.range_succ, List.filter_append, List.filter_cons, List.filter_nil]
  split
  · rw [setOf_snoc, or_add hl]
  · rw [List.append_nil, Nat.add_zero]
theorem turnedTo_all {r l : List Nat} (hl : l.length = r.length) (h : ∀ o, o < r.length → l.getD o 0 = turnedTo r r.length o) : l = Rb22.turned r := by
  refine list_ext_getD (by rw [hl, turned_len]) fun i hi => ?_
  rw [hl] at hi
  rw [h i hi]
  unfold Rb22.turned
  rw [show Rb22.things r = List.range r.length from rfl, getD_map hi]
  rfl
theorem members_nodup (n m : Nat) : (Rb22.members n m).Nodup := List.Pairwise.filter _ List.nodup_range
theorem nodup_take {α : Type} {l : List α} (h : l.Nodup) {i : Nat} {x : α} (hx : l[i]? = some x) : x ∉ l.take i := by
  intro hm
  obtain ⟨j, hj, e⟩ := List.mem_take_iff_getElem.mp hm
  have h1 := (List.getElem?_eq_some_iff.mp hx)
  have : j = i := (List.getElem_inj h).mp (e.trans h1.2.symm)
  omega
theorem getD_set {l : List Nat} {i j v : Nat} (hi : i < l.length) : (l.set i v).getD j 0 = if i = j then v else l.getD j 0 := by
  rw [List.getD_eq_getElem?_getD, List.getD_eq_getElem?_getD, List.getElem?_set]
  by_cases h : i = j
  · rw [if_pos h, if_pos h, if_pos hi]
    rfl
  · rw [if_neg h, if_neg h]
end Bel
namespace Bel
/-! ### close -/
def thr (l : List Nat) (k o : Nat) : Nat := if (l.getD o 0).testBit k = true then l.getD o 0 ||| l.getD k 0 else l.getD o 0
theorem thr_self (l : List Nat) (k : Nat) : thr l k k = l.getD k 0 := by
  unfold thr
  split
  · exact Nat.or_self _
  · rfl
theorem through_len (l : List Nat) (k : Nat) : (Rb22.through l k).length = l.length := by
  unfold Rb22.through
  rw [List.length_map]
theorem through_at (l : List Nat) (k : Nat) {o : Nat} (h : o < l.length) : (Rb22.through l k).getD o 0 = thr l k o := by
  unfold Rb22.through thr
  have e : l.getD o 0 = l[o] := by
    rw [List.getD_eq_getElem?_getD, List.getElem?_eq_getElem h]
    rfl
  rw [e, List.getD_eq_getElem?_getD, List.getElem?_map, List.getElem?_eq_getElem h]
  rfl
def own0 (r : List Nat) : List Nat := (Rb22.things r).map fun i => r.getD i 0 ||| 2 ^ i
def clTo (r : List Nat) (k : Nat) : List Nat := (List.range k).foldl Rb22.through (own0 r)
theorem clTo_succ (r : List Nat) (k : Nat) : clTo r (k + 1) = Rb22.through (clTo r k) k := by
  unfold clTo
  rw [List.range_succ, List.foldl_append]
  rfl
theorem own0_len (r : List Nat) : (own0 r).length = r.length := by
  unfold own0 Rb22.things
  rw [List.length_map, List.length_range]
theorem own0_at (r : List Nat) {i : Nat} (h : i < r.length) : (own0 r).getD i 0 = r.getD i 0 ||| 2 ^ i := by
  unfold own0 Rb22.things
  rw [getD_map h]
theorem clTo_len (r : List Nat) : ∀ k, (clTo r k).length = r.length
  | 0 => own0_len r
  | k + 1 => by rw [clTo_succ, through_len, clTo_len r k]
theorem clTo_all (r : List Nat) : clTo r r.length = Rb22.closure r := rfl
theorem thr_bit (l : List Nat) (k o j : Nat) : (thr l k o).testBit j = true ↔ (l.getD o 0).testBit j = true ∨ ((l.getD o 0).testBit k = true ∧ (l.getD k 0).testBit j = true) := by
  unfold thr
  split
  · rename_i h
    rw [Nat.testBit_or, Bool.or_eq_true]
    constructor
    · rintro (a | a)
      · exact .inl a
      · exact .inr ⟨h, a⟩
    · rintro (a | a)
      · exact .inl a
      · exact .inr a.2
  · rename_i h
    constructor
    · exact .inl
    · rintro (a | a)
      · exact a
      · exact absurd a.1 h
/-- Warshall: through the first k things it is closed -/
theorem clTo_closed (r : List Nat) : ∀ k, k ≤ r.length → ∀ i j, i < r.length → j < k → ((clTo r k).getD i 0).testBit j = true → ∀ b, ((clTo r k).getD j 0).testBit b = true → ((clTo r k).getD i 0).testBit b = true
  | 0, _, _, j, _, hj, _, _, _ => by omega
  | k + 1, hk, i, j, hi, hj, h1, b, h2 => by
    have ih := clTo_closed r k (by omega)
    have hlen := clTo_len r k
    rw [clTo_succ] at h1 h2 ⊢
    rw [through_at _ _ (by omega), thr_bit] at h1 h2 ⊢
    by_cases e : j = k
    · subst e
      have hij : ((clTo r j).getD i 0).testBit j = true := by
        rcases h1 with a | a
        · exact a
        · exact a.1
      have hjb : ((clTo r j).getD j 0).testBit b = true := by
        rcases h2 with a | a
        · exact a
        · exact a.2
      exact .inr ⟨hij, hjb⟩
    · have hjk : j < k := by omega
      rcases h1 with a | a
      · rcases h2 with c | c
        · exact .inl (ih i j hi hjk a b c)
        · exact .inr ⟨ih i j hi hjk a k c.1, c.2⟩
      · rcases h2 with c | c
        · exact .inr ⟨a.1, ih k j (by omega) hjk a.2 b c⟩
        · exact .inr ⟨a.1, c.2⟩
theorem clTo_refl (r : List Nat) : ∀ k, k ≤ r.length → ∀ i, i < r.length → ((clTo r k).getD i 0).testBit i = true
  | 0, _, i, hi => by
    show ((own0 r).getD i 0).testBit i = true
    rw [own0_at r hi, Nat.testBit_or, Nat.testBit_two_pow_self, Bool.or_true]
  | k + 1, hk, i, hi => by
    rw [clTo_succ, through_at _ _ (by rw [clTo_len]; exact hi), thr_bit]
    exact .inl (clTo_refl r k (by omega) i hi)
theorem closure_len (r : List Nat) : (Rb22.closure r).length = r.length := by rw [← clTo_all, clTo_len]
/-- what the program looks at -/
def ordB (r : List Nat) : Bool := (List.range r.length).all fun i => decide (r.getD i 0 < 2 ^ r.length) && (List.range i).all fun j => !((r.getD i 0).testBit j && (r.getD j 0).testBit i)
theorem ordB_closure (r : List Nat) : Rb22.isOrder (Rb22.closure r) = ordB (Rb22.closure r) := by
  have hc := clTo_closed r r.length (Nat.le_refl _)
  have hr := clTo_refl r r.length (Nat.le_refl _)
  rw [clTo_all] at hc hr
  have hl := closure_len r
  generalize Rb22.closure r = c at hc hr hl
  rw [← hl] at hc hr
  unfold Rb22.isOrder ordB Rb22.things Rb22.le
  apply bool_ext
  rw [List.all_eq_true, List.all_eq_true]
  constructor
  · intro h i hi
    have q := h i hi
    have hi' := List.mem_range.mp hi
    rw [Bool.and_eq_true, Bool.and_eq_true] at q
    rw [Bool.and_eq_true]
    refine ⟨q.1.2, List.all_eq_true.mpr fun j hj => ?_⟩
    have hj' := List.mem_range.mp hj
    have q2 := List.all_eq_true.mp q.2 j (List.mem_range.mpr (by omega))
    cases e1 : (c.getD i 0).testBit j with
    | false => rfl
    | true =>
      rw [e1] at q2
      simp only [Bool.not_true, Bool.false_or, Bool.and_eq_true, Bool.or_eq_true, beq_iff_eq, Bool.not_eq_true'] at q2
      rcases q2.1 with e | e
      · omega
      · rw [e]; rfl
  · intro h i hi
    have q := h i hi
    have hi' := List.mem_range.mp hi
    rw [Bool.and_eq_true] at q
    rw [Bool.and_eq_true, Bool.and_eq_true]
    refine ⟨⟨hr i hi', q.1⟩, List.all_eq_true.mpr fun j hj => ?_⟩
    have hj' := List.mem_range.mp hj
    cases e1 : (c.getD i 0).testBit j with
    | false => rfl
    | true =>
      simp only [Bool.not_true, Bool.false_or, Bool.and_eq_true, Bool.or_eq_true, beq_iff_eq, Bool.not_eq_true']
      refine ⟨?_, or_eq_iff.mpr fun b hb => hc i j hi' hj' e1 b hb⟩
      by_cases e : i = j
      · exact .inl e
      · right
        by_cases hij : j < i
        · have q2 := List.all_eq_true.mp q.2 j (List.mem_range.mpr hij)
          rw [e1] at q2
          cases e2 : (c.getD j 0).testBit i with
          | false => rfl
          | true => rw [e2] at q2; cases q2
        · have q3 := h j hj
          rw [Bool.and_eq_true] at q3
          have q2 := List.all_eq_true.mp q3.2 i (List.mem_range.mpr (by omega))
          rw [e1] at q2
          cases e2 : (c.getD j 0).testBit i with
          | false => rfl
          | true => rw [e2] at q2; cases q2
/-- what is found out so far -/
def ordTo (r : List Nat) (i : Nat) : Prop := ∀ i', i' < i → (decide (r.getD i' 0 < 2 ^ r.length) && (List.range i').all fun j => !((r.getD i' 0).testBit j && (r.getD j 0).testBit i')) = true
theorem ordB_false {r : List Nat} {i : Nat} (hi : i < r.length) (h : (decide (r.getD i 0 < 2 ^ r.length) && (List.range i).all fun j => !((r.getD i 0).testBit j && (r.getD j 0).testBit i)) = false) : ordB r = false := by
  unfold ordB
  rw [Bool.eq_false_iff]
  intro q
  rw [List.all_eq_true.mp q i (List.mem_range.mpr hi)] at h
  cases h
theorem ordB_true {r : List Nat} (h : ordTo r r.length) : ordB r = true := List.all_eq_true.mpr fun i hi => h i (List.mem_range.mp hi)
end Bel
namespace Bel
open PySem PySem.Spec PyProof.Rows L2 Evl
open PySem.W (Codec)
/-! ### rules of our own -/
/-- a def of the text, as its callers know it -/
structure Cal (P : Program) (w : World) (K : PySem.W.Frag) (mg : Str → Option Value) (base : Heap) (x : Str) (k : Nat) (ps : List Str) (sp : Sp) : Prop where
  ex : ∃ (f : Addr) (fd : FuncData), mg x = some (.ref f) ∧ PySem.W.keepIn K (.ref f) = true ∧ Binds K fd ps [] ∧ FnOk P w K mg base CX0 k f fd ps sp
theorem pe_own {X : Cx} {k : Nat} {x : Str} {ps : List Str} {sp : Sp} {e : Expr} {es : List Expr} {p pos : Pos} {t : TA} (C : Cal X.prog X.w X.K X.mg X.base x k ps sp) (hr : Room k X.A) (hg : Gl X x) (ha : PA X (e :: es) t)
    (hdb : (x == ("__debug__" : Str)) = false := by decide) (he : starEach (e :: es) X.env = (false, eval e X.env) :: starEach es X.env := by rfl) (hpl : (backTo pos (starEach es X.env)).any (·.1) = false := by rfl) :
    PE X (.Call (.Name x p) (e :: es) [] pos) (tCall sp [] E0 t) := by
  obtain ⟨f, fd, hm, hk, hb, F⟩ := C.ex
  exact pe_call F hr hg hm hk hb .nil pass0 ha hdb he hpl
/-- a constant of the module's -/
theorem pe_cst {X : Cx} {x : Str} {v : V} {pos : Pos} (hg : Gl X x) (h : ∃ u, X.mg x = some u ∧ RelV v u) (hd : (x == ("__debug__" : Str)) = false := by decide) : PE X (.Name x pos) (tC v) := by
  obtain ⟨u, hm, r⟩ := h
  exact pe_glob hg hm r hd
/-- xs[i], to be stored anew -/
def rGetL (K : PySem.W.Frag) : V → V → Hp → VK → Prop := fun o i H Q => ∃ (p : Addr) (xs : List V) (j : Nat) (v : V), o = .ref p ∧ i = .int (j : Int) ∧ SqL K H p xs ∧ xs[j]? = some v ∧ Q v H
theorem get_list {X : Cx} : PGet X (rGetL X.K) := by
  intro pins s σ H o i ov iv Q I ro ri h
  obtain ⟨p, xs, j, z, rfl, rfl, hq, he, q⟩ := h
  cases ro
  obtain ⟨t, rfl⟩ := ri
  obtain ⟨its, r, pl, hz⟩ := I.list hq
  obtain ⟨w, ew, rw'⟩ := r.get he
  have hn := line63
  have hj := (List.getElem?_eq_some_iff.mp he).1
  exact wpAny_getItem_list pl.isList (Int.natCast_nonneg _) (by omega) (by rw [Int.toNat_natCast]; simpa using ew) ⟨z, H, I, rw', q⟩
/-! ### numbers -/
abbrev nV (m : Nat) : V := V.int (m : Int)
abbrev nsV (l : List Nat) : List V := l.map nV
theorem nsV_get {l : List Nat} {j m : Nat} (h : l[j]? = some m) : (nsV l)[j]? = some (nV m) := by rw [List.getElem?_map, h]; rfl
theorem nsV_of {l : List Nat} {j : Nat} {x : V} (h : (nsV l)[j]? = some x) : ∃ m, l[j]? = some m ∧ x = nV m := by
  rw [List.getElem?_map] at h
  cases e : l[j]? with
  | none => rw [e] at h; cases h
  | some m => rw [e] at h; exact ⟨m, rfl, (Option.some.inj h).symm⟩
theorem nsV_len (l : List Nat) : (nsV l).length = l.length := List.length_map ..
theorem nsV_at {l : List Nat} {j : Nat} (h : j < l.length) : l[j]? = some (l.getD j 0) := by
  rw [List.getD_eq_getElem?_getD, List.getElem?_eq_getElem h]
  rfl
theorem bitAnd_N (a b : Nat) : Builtin.bitAnd (a : Int) (b : Int) = ((a &&& b : Nat) : Int) := by
  rw [bitAnd_pp (Int.natCast_nonneg _) (Int.natCast_nonneg _), Int.toNat_natCast, Int.toNat_natCast]
theorem bitOr_N (a b : Nat) : Builtin.bitOr (a : Int) (b : Int) = ((a ||| b : Nat) : Int) := by
  rw [bitOr_nn (Int.natCast_nonneg _) (Int.natCast_nonneg _), Int.toNat_natCast, Int.toNat_natCast]
theorem bitLess_N (a b : Nat) : Builtin.bitAnd (a : Int) (Builtin.bitNot (b : Int)) = ((less a b : Nat) : Int) := by
  have nn : Builtin.bitNot (Builtin.bitNot (b : Int)) = (b : Int) := by
    show -(-(b : Int) - 1) - 1 = b
    omega
  rw [bitAnd_pn (Int.natCast_nonneg _) (by show ¬ 0 ≤ -(b : Int) - 1; omega), nn, Int.toNat_natCast, Int.toNat_natCast]
  unfold less
  have := Nat.and_le_left (n := a) (m := b)
  omega
/-- the lowest bit of a number -/
theorem bitLow_N {m : Nat} (h : m ≠ 0) : Builtin.bitAnd (m : Int) (0 - (m : Int)) = ((m - (m &&& (m - 1)) : Nat) : Int) := by
  have nn : Builtin.bitNot (0 - (m : Int)) = ((m - 1 : Nat) : Int) := by
    show -(0 - (m : Int)) - 1 = _
    omega
  rw [bitAnd_pn (Int.natCast_nonneg _) (by omega), nn, Int.toNat_natCast, Int.toNat_natCast]
  have := Nat.and_le_left (n := m) (m := m - 1)
  omega
theorem cast_pow (k : Nat) : ((2 ^ k : Nat) : Int) = (2 : Int) ^ k := PySem.W.kbt_cast k
theorem intBits_N {m : Nat} (h : m ≠ 0) : Builtin.Int.intBits (m : Int) = m.log2 + 1 := by
  unfold Builtin.Int.intBits
  rw [if_neg (by simpa using h), Int.natAbs_natCast]
theorem shr_bit (m j : Nat) : Builtin.bitAnd ((m : Int) / 2 ^ ((j : Int)).toNat) 1 = (((m.testBit j).toNat : Nat) : Int) := by
  have e : ((m : Int) / 2 ^ ((j : Int)).toNat) = ((m / 2 ^ j : Nat) : Int) := by
    rw [Int.toNat_natCast, Int.natCast_ediv, cast_pow]
  rw [e, show (1 : Int) = ((1 : Nat) : Int) from rfl, bitAnd_N, Nat.and_one_is_mod, ← Nat.toNat_testBit]
section
variable {K : PySem.W.Frag} {σ : L2.St} {H : Hp} {ta tb te : TE}
theorem ev_shl {k : Nat} (h : Ev ta σ H (nV k)) (hk : k ≤ 1000000) : Ev (tOp (rI CPow fun i j => .int (i * 2 ^ j.toNat)) (tC (.int 1)) ta) σ H (nV (2 ^ k)) :=
  ev_is (ev_op ev_c h (rv_I ⟨by omega, by omega, by decide⟩)) (by rw [Int.toNat_natCast, Int.one_mul, ← cast_pow])
theorem ev_and {a b : Nat} (ha : Ev ta σ H (nV a)) (hb : Ev tb σ H (nV b)) : Ev (tOp (rI0 fun i j => .int (Builtin.bitAnd i j)) ta tb) σ H (nV (a &&& b)) :=
  ev_is (ev_op ha hb rv_I0) (by rw [bitAnd_N])
theorem ev_or {a b : Nat} (ha : Ev ta σ H (nV a)) (hb : Ev tb σ H (nV b)) : Ev (tOp (rI0 fun i j => .int (Builtin.bitOr i j)) ta tb) σ H (nV (a ||| b)) :=
  ev_is (ev_op ha hb rv_I0) (by rw [bitOr_N])
theorem ev_less {a b : Nat} (ha : Ev ta σ H (nV a)) (hb : Ev tb σ H (nV b)) : Ev (tOp (rI0 fun i j => .int (Builtin.bitAnd i j)) ta (tUn (rU fun i => .int (Builtin.bitNot i)) tb)) σ H (nV (less a b)) :=
  ev_is (ev_op ha (ev_un hb (fun H1 _ _ q => ⟨_, rfl, q H1 (Ex.refl H1)⟩)) rv_I0) (by rw [bitLess_N])
theorem ev_sub {a b : Nat} (ha : Ev ta σ H (nV a)) (hb : Ev tb σ H (nV b)) (h : b ≤ a) : Ev (tOp (rI0 fun i j => .int (i - j)) ta tb) σ H (nV (a - b)) :=
  ev_is (ev_op ha hb rv_I0) (by rw [← Int.ofNat_sub h])
theorem ev_add {a b : Nat} (ha : Ev ta σ H (nV a)) (hb : Ev tb σ H (nV b)) : Ev (tOp (rI0 fun i j => .int (i + j)) ta tb) σ H (nV (a + b)) :=
  ev_is (ev_op ha hb rv_I0) (by rw [← Int.natCast_add])
theorem ev_ix {p : Addr} {xs : List V} {j : Nat} {v : V} (hp : SqL K H p xs) (hj : xs[j]? = some v) (ha : Ev ta σ H (.ref p)) (hb : Ev tb σ H (nV j)) : Ev (tOp (rIxL K) ta tb) σ H v :=
  ev_op ha hb (rv_ixL hp (atI_nat hj))
theorem ev_ixN {p : Addr} {l : List Nat} {j m : Nat} (hp : SqL K H p (nsV l)) (hj : l[j]? = some m) (ha : Ev ta σ H (.ref p)) (hb : Ev tb σ H (nV j)) : Ev (tOp (rIxL K) ta tb) σ H (nV m) :=
  ev_ix hp (nsV_get hj) ha hb
theorem nV_eq {a b : Nat} : decide (nV a = nV b) = decide (a = b) := by
  by_cases h : a = b
  · subst h; simp
  · rw [decide_eq_false h, decide_eq_false]
    intro q
    injection q with q
    exact h (by omega)
theorem ev_eqN {a b : Nat} (ha : Ev ta σ H (nV a)) (hb : Ev tb σ H (nV b)) : Ev (tOp rEq ta tb) σ H (.bl (decide (a = b))) :=
  ev_is (ev_op ha hb (rv_eq rfl)) (by rw [nV_eq])
theorem ev_neN {a b : Nat} (ha : Ev ta σ H (nV a)) (hb : Ev tb σ H (nV b)) : Ev (tOp rNe ta tb) σ H (.bl (!decide (a = b))) :=
  ev_is (ev_op ha hb (rv_ne rfl)) (by rw [nV_eq])
/-- m >> j & 1 == 1 -/
theorem ev_bit {m j : Nat} (ha : Ev ta σ H (nV m)) (hb : Ev tb σ H (nV j)) :
    Ev (tOp rEq (tOp (rI0 fun i j => .int (Builtin.bitAnd i j)) (tOp (rI (fun _ j => 0 ≤ j) fun i j => .int (i / 2 ^ j.toNat)) ta tb) (tC (.int 1))) (tC (.int 1))) σ H (.bl (m.testBit j)) :=
  ev_is (ev_op (ev_op (ev_op ha hb (rv_I (Int.natCast_nonneg _))) ev_c rv_I0) ev_c (rv_eq rfl)) (by
    show V.bl (decide (V.int (Builtin.bitAnd ((m : Int) / 2 ^ ((j : Int)).toNat) 1) = V.int 1)) = _
    rw [shr_bit]
    cases m.testBit j <;> rfl)
/-- m >> j -/
theorem ev_shr {m j : Nat} (ha : Ev ta σ H (nV m)) (hb : Ev tb σ H (nV j)) : Ev (tOp (rI (fun _ j => 0 ≤ j) fun i j => .int (i / 2 ^ j.toNat)) ta tb) σ H (nV (m / 2 ^ j)) :=
  ev_is (ev_op ha hb (rv_I (Int.natCast_nonneg _))) (by rw [Int.toNat_natCast, ← cast_pow, ← Int.natCast_ediv])
theorem ev_bits {m : Nat} (ha : Ev ta σ H (nV m)) (h : m ≠ 0) : Ev (tOp (rI0 fun i j => .int (i - j)) (tBits ta) (tC (.int 1))) σ H (nV m.log2) := by
  have h1 : Ev (tBits ta) σ H (.int (Builtin.Int.intBits (m : Int) : Nat)) := fun H1 e Q q => ha H1 e _ fun H2 e2 => ⟨_, rfl, q H2 e2⟩
  refine ev_is (ev_op h1 ev_c rv_I0) ?_
  rw [intBits_N h]
  show V.int (((m.log2 + 1 : Nat) : Int) - 1) = _
  congr 1
  omega
theorem ev_intB {b : Bool} (h : Ev te σ H (.bl b)) : Ev (tCB (fun xs H Q => (∃ i, xs = [.int i] ∧ Q (.int i) H) ∨ ∃ k, xs = [.bl k] ∧ Q (.int (if k then 1 else 0)) H) (tCons te tNil)) σ H (nV b.toNat) := fun H1 e Q q =>
  h H1 e _ fun H2 e2 => Or.inr ⟨b, rfl, by
    have := q H2 e2
    cases b <;> exact this⟩
theorem ev_lenR {p : Addr} {l : List Nat} (hp : SqL K H p (nsV l)) (ha : Ev ta σ H (.ref p)) : Ev (tCB (rLenS K) (tCons ta tNil)) σ H (nV l.length) :=
  ev_is (ev_len ha hp) (by rw [nsV_len])
/-- xs + ys of two new lists -/
theorem el_cat {xs ys : List V} (ha : EvL ta σ H xs) (hb : EvL tb σ H ys) (h : xs.length + ys.length ≤ 200000) : EvL (tOp rCat ta tb) σ H (xs ++ ys) := fun H1 e Q k =>
  ha H1 e _ fun p H2 hp e2 h2 => hb H2 (e.trans e2) _ fun q H3 hq e3 h3 => ⟨p, q, xs, ys, rfl, rfl, e3 p _ h2, h3, Nat.le_trans h (by decide), fun l hl =>
    k l _ (fresh_back (e2.trans e3) hl) ((e2.trans e3).trans (Ex.new hl)) upd_same⟩
/-- xs + ys, ys a list that stands -/
theorem el_catV {xs ys : List V} {b : Addr} (ha : EvL ta σ H xs) (hb : Ev tb σ H (.ref b)) (hy : H b = some (.lst ys)) (h : xs.length + ys.length ≤ 200000) : EvL (tOp rCat ta tb) σ H (xs ++ ys) := fun H1 e Q k =>
  ha H1 e _ fun p H2 hp e2 h2 => hb H2 (e.trans e2) _ fun H3 e3 => ⟨p, b, xs, ys, rfl, rfl, e3 p _ h2, ((e.trans e2).trans e3) b _ hy, Nat.le_trans h (by decide), fun l hl =>
    k l _ (fresh_back (e2.trans e3) hl) ((e2.trans e3).trans (Ex.new hl)) upd_same⟩
theorem flat_rep {α : Type} (x : α) : ∀ n : Nat, (List.replicate n [x]).flatten = List.replicate n x
  | 0 => rfl
  | n + 1 => by rw [List.replicate_succ, List.replicate_succ, List.flatten_cons, flat_rep x n]; rfl
/-- [x] * n -/
theorem el_rep {x : V} {n : Nat} (ha : Ev ta σ H x) (hb : Ev tb σ H (nV n)) (h : n ≤ 200000) : EvL (tOp rRep (tLst (tCons ta tNil)) tb) σ H (List.replicate n x) := fun H1 e Q k =>
  ha H1 e _ fun H2 e2 => ⟨by show 1 ≤ sizeLine; decide, fun p hp => hb _ (e.trans (e2.trans (Ex.new hp))) _ fun H3 e3 =>
    ⟨p, (n : Int), [x], rfl, rfl, e3 p _ upd_same, by omega, by omega, by rw [Int.toNat_natCast, List.length_singleton, Nat.one_mul]; exact Nat.le_trans h (by decide), fun l hl => by
      have e4 := (e2.trans (Ex.new hp)).trans e3
      refine k l _ (fresh_back e4 hl) (e4.trans (Ex.new hl)) ?_
      rw [upd_same, Int.toNat_natCast, flat_rep]⟩⟩
theorem nsV_set (l : List Nat) (j m : Nat) : (nsV l).set j (nV m) = nsV (l.set j m) := by
  unfold nsV
  rw [List.map_set]
theorem et_yes : EvT tYes σ H true := fun H1 _ _ q => q H1 (Ex.refl H1)
theorem given_all (n : Nat) (g : Nat → Nat) : given n (fun _ => true) (fun i => nV (g i)) = nsV ((List.range n).map g) := by
  unfold given nsV
  rw [List.map_map, List.filter_eq_self.mpr (fun _ _ => rfl)]
  rfl
/-- xs[j] op= e -/
theorem s_augL {D : Ends} {to ti : TE} {l : Addr} {xs : List V} {j : Nat} {x y : Int} {f : Int → Int → Int} (hl : H l = some (.lst xs)) (ho : Ev to σ H (.ref l)) (hi : Ev ti σ H (nV j)) (hx : xs[j]? = some (.int x)) (he : Ev te σ H (.int y))
    (k : ∀ H1, Ex H H1 → D.nx σ (upd H1 l (.lst (xs.set j (.int (f x y)))))) : tAugS to ti te (rGetL K) (ipI f) rSetL D σ H :=
  ho H (Ex.refl H) _ fun H1 e1 => hi H1 e1 _ fun H2 e2 => ⟨l, xs, j, .int x, rfl, rfl, sq_of ((e1.trans e2) l _ hl), hx, he H2 (e1.trans e2) _ fun H3 e3 =>
    ⟨x, y, rfl, rfl, l, xs, (j : Int), j, rfl, rfl, ((e1.trans e2).trans e3) l _ hl, ixN_nat (List.getElem?_eq_some_iff.mp hx).1, k H3 ((e1.trans e2).trans e3)⟩⟩
end
end Bel
namespace Bel
open PySem L2
/-! ### the request -/
theorem nats_len (r : List Int) : (Rb22Neutral.nats r).length = r.length := List.length_map ..
theorem nats_V {r : List Int} {b : Nat} (h : r.all (fun (z : Int) => Rb22Neutral.natural z b) = true) : r.map V.int = nsV (Rb22Neutral.nats r) := by
  unfold nsV Rb22Neutral.nats
  rw [List.map_map]
  refine List.map_congr_left fun z hz => ?_
  have q := List.all_eq_true.mp h z hz
  unfold Rb22Neutral.natural at q
  rw [Bool.and_eq_true, decide_eq_true_eq, decide_eq_true_eq] at q
  show V.int z = V.int ((z.toNat : Nat) : Int)
  rw [Int.toNat_of_nonneg q.1]
theorem asked_any {r : List Int} {n : Nat} (h : (r.all (fun (z : Int) => Rb22Neutral.natural z 64) && (decide (1 ≤ r.length) && (decide (r.length ≤ n)))) = true) :
    r.map V.int = nsV (Rb22Neutral.nats r) ∧ 1 ≤ (Rb22Neutral.nats r).length ∧ (Rb22Neutral.nats r).length ≤ n := by
  rw [Bool.and_eq_true, Bool.and_eq_true, decide_eq_true_eq, decide_eq_true_eq] at h
  exact ⟨nats_V h.1, by rw [nats_len]; exact h.2.1, by rw [nats_len]; exact h.2.2⟩
theorem ints_V (l : List Nat) : (Rb22Neutral.ints l).map V.int = nsV l := by
  unfold nsV Rb22Neutral.ints
  rw [List.map_map]
  rfl
theorem asked_ord {r : List Int} {n : Nat} (h : (r.all (fun (z : Int) => Rb22Neutral.natural z 64) && (decide (1 ≤ r.length) && (decide (r.length ≤ n) && Rb22.isOrder (Rb22Neutral.nats r)))) = true) :
    r.map V.int = nsV (Rb22Neutral.nats r) ∧ 1 ≤ (Rb22Neutral.nats r).length ∧ (Rb22Neutral.nats r).length ≤ n ∧ Ord (Rb22Neutral.nats r) := by
  rw [Bool.and_eq_true, Bool.and_eq_true, Bool.and_eq_true, decide_eq_true_eq, decide_eq_true_eq] at h
  exact ⟨nats_V h.1, by rw [nats_len]; exact h.2.1, by rw [nats_len]; exact h.2.2.1, ord_of h.2.2.2⟩
theorem asked_one {r : List Int} {n : Nat} {x : Int} (h : (r.all (fun (z : Int) => Rb22Neutral.natural z 64) && (decide (1 ≤ r.length) && (decide (r.length ≤ n) && (Rb22.isOrder (Rb22Neutral.nats r) && (decide (0 ≤ x) && decide (x < r.length)))))) = true) :
    r.map V.int = nsV (Rb22Neutral.nats r) ∧ 1 ≤ (Rb22Neutral.nats r).length ∧ (Rb22Neutral.nats r).length ≤ n ∧ Ord (Rb22Neutral.nats r) ∧ x.toNat < (Rb22Neutral.nats r).length ∧ V.int x = nV x.toNat := by
  rw [Bool.and_eq_true, Bool.and_eq_true, Bool.and_eq_true, Bool.and_eq_true, Bool.and_eq_true, decide_eq_true_eq, decide_eq_true_eq, decide_eq_true_eq, decide_eq_true_eq] at h
  exact ⟨nats_V h.1, by rw [nats_len]; exact h.2.1, by rw [nats_len]; exact h.2.2.1, ord_of h.2.2.2.1, by rw [nats_len]; omega, by show V.int x = V.int ((x.toNat : Nat) : Int); rw [Int.toNat_of_nonneg h.2.2.2.2.1]⟩
theorem asked_two {r : List Int} {n : Nat} {x y : Int} (h : (r.all (fun (z : Int) => Rb22Neutral.natural z 64) && (decide (1 ≤ r.length) && (decide (r.length ≤ n) && (Rb22.isOrder (Rb22Neutral.nats r) && (decide (0 ≤ x) && (decide (x < r.length) && (decide (0 ≤ y) && (decide (y < r.length))))))))) = true) :
    r.map V.int = nsV (Rb22Neutral.nats r) ∧ 1 ≤ (Rb22Neutral.nats r).length ∧ (Rb22Neutral.nats r).length ≤ n ∧ Ord (Rb22Neutral.nats r) ∧ x.toNat < (Rb22Neutral.nats r).length ∧ y.toNat < (Rb22Neutral.nats r).length ∧ V.int x = nV x.toNat ∧ V.int y = nV y.toNat := by
  rw [Bool.and_eq_true, Bool.and_eq_true, Bool.and_eq_true, Bool.and_eq_true, Bool.and_eq_true, Bool.and_eq_true, Bool.and_eq_true, decide_eq_true_eq, decide_eq_true_eq, decide_eq_true_eq, decide_eq_true_eq, decide_eq_true_eq, decide_eq_true_eq] at h
  refine ⟨nats_V h.1, by rw [nats_len]; exact h.2.1, by rw [nats_len]; exact h.2.2.1, ord_of h.2.2.2.1, by rw [nats_len]; omega, by rw [nats_len]; omega, ?_, ?_⟩
  · show V.int x = V.int ((x.toNat : Nat) : Int)
    rw [Int.toNat_of_nonneg h.2.2.2.2.1]
  · show V.int y = V.int ((y.toNat : Nat) : Int)
    rw [Int.toNat_of_nonneg h.2.2.2.2.2.2.1]
end Bel
namespace Bel
open PySem PySem.Spec PyProof.Rows L2 Evl
open PySem.W (Codec)
def top (i : Nat) : Stmt := PySem.Challenge.pw_belowness_s01_close.main.body.getD i (.Pass ⟨0, 0, 0, 0⟩)
structure Txt (mg : Str → Option Value) : Prop where
  dummy : True
  g_int : mg "int" = none
  g_len : mg "len" = none
  g_range : mg "range" = none
/-! ### closed -/
abbrev s_closed : Stmt := top 1
theorem sc_closed : FnScope ["r", "found", "thing", "middle"] ["r"] (defScope s_closed) := ⟨rfl, rfl, rfl, by decide +kernel, rfl, by decide +kernel, by decide +kernel⟩
def sp_closed (K : PySem.W.Frag) : Sp := fun vs H Q _ => ∃ (a : Addr) (r : List Nat), vs = [.ref a] ∧ SqL K H a (nsV r) ∧ r.length ≤ 64 ∧ RetL (nsV (Rb22.closure r)) H Q
theorem ok_closed {P : Program} {w : World} {K : PySem.W.Frag} {mg : Str → Option Value} {base : Heap} {f : Addr} {fd : FuncData} (F : Fun K "closed" "closed" s_closed f fd) (T : Txt mg) : FnOk P w K mg base CX0 1 f fd ["r"] (sp_closed K) := by
  refine F.ok sc_closed (fun vs H Q E h => ?_) (fun cdv A outer s H vs Q E hr h => ?_)
  · obtain ⟨a, r, rfl, hS, hn, k⟩ := h
    rfl
  · obtain ⟨a, r, rfl, hS, hn, k⟩ := h
    refine ⟨_, (pss_cons (ps_setLc (i := 1) (own := [("thing", 2)]) (g := gName 2) (by rfl) sc_closed.nd rfl rfl (sw_true rfl rfl rfl (by decide +kernel)) (pi_range1 (by rfl) T.g_range (pa_cons (pe_callB call_len_seq (by rfl) T.g_len PySem.boot_len (pa_cons (pv 0) pa_nil)) pa_nil)) (blkOk_by (own := [("thing", 2)]) (N := ["r", "found", "thing", "middle"]) (sc := defScope s_closed) (by decide +kernel)) (fun _ _ _ _ _ => pg_name (i := 2) sc_closed.nd rfl (Or.inl rfl)) (fun _ _ _ _ _ => pts_nil) (fun _ _ _ _ _ => (pe_op op_or (pe_ix (r := rIxL K) ix_list (pv 0) (pv 2) (fun _ _ => rfl)) (pe_op op_shl pe_int (pv 2)))))
      (pss_cons (ps_for PassesOwn.never rfl (pi_range1 (by rfl) T.g_range (pa_cons (pe_callB call_len_seq (by rfl) T.g_len PySem.boot_len (pa_cons (pv 0) pa_nil)) pa_nil)) (pg_name (i := 3) sc_closed.nd rfl (by first | exact Or.inl rfl | exact Or.inr rfl)) (pss_one (ps_for PassesOwn.never rfl (pi_range1 (by rfl) T.g_range (pa_cons (pe_callB call_len_seq (by rfl) T.g_len PySem.boot_len (pa_cons (pv 0) pa_nil)) pa_nil)) (pg_name (i := 2) sc_closed.nd rfl (by first | exact Or.inl rfl | exact Or.inr rfl)) (pss_one (ps_if (pt_cmpR op_eq (pe_op op_and (pe_op op_shr (pe_ix (r := rIxL K) ix_list (pv 1) (pv 2) (fun _ _ => rfl)) (pv 3)) pe_int) pe_int (nomark _)) (pss_one (ps_asg (pe_op op_or (pe_ix (r := rIxL K) ix_list (pv 1) (pv 2) (fun _ _ => rfl)) (pe_ix (r := rIxL K) ix_list (pv 1) (pv 3) (fun _ _ => rfl))) (pg_sub (pv 1) (pv 2) set_list))) pss_nil)))))
      (pss_one (ps_ret (pv 1))))), ?_⟩
    refine q_asgL (xs := given ((r.length : Nat) : Int).toNat (fun _ => true) (fun i => nV (r.getD i 0 ||| 2 ^ i))) (el_lcR1 (n := ((r.length : Nat) : Int)) _ _ (ea_cons (ev_lenR hS (ev_var rfl)) ea_nil) ⟨by omega, by omega⟩ (fun _ => rfl) (fun _ _ _ _ => et_yes)
      (fun i H1 e1 hi _ => ev_or (ev_ixN (ex_l e1 hS) (nsV_at (show i < r.length by omega)) (ev_var rfl) (ev_var rfl)) (ev_shl (ev_var rfl) (by omega)))) fun p H1 hp e1 h1 => ?_
    rw [Int.toNat_natCast, given_all] at h1
    refine q_forR1 (ea_cons (ev_lenR (ex_l e1 hS) (ev_var rfl)) ea_nil) ⟨by omega, by omega⟩
      (fun t σ' H' => ∃ v2 v3, σ' = [some (.ref a), some (.ref p), v2, v3] ∧ Ex H H' ∧ H' p = some (.lst (nsV (clTo r t)))) ?_ ?_ ?_
    · intro H2 e2
      exact ⟨none, none, rfl, e1.trans e2, e2 p _ h1⟩
    · rintro t σ' H' ht ⟨v2, v3, rfl, eH, hl⟩
      have ht : t < r.length := by omega
      have hcl := clTo_len r t
      refine s_forR1 (ea_cons (ev_lenR (ex_l eH hS) (ev_var rfl)) ea_nil) ⟨by omega, by omega⟩
        (fun u σ' H' => ∃ v2, ∃ l : List Nat, σ' = [some (.ref a), some (.ref p), v2, some (nV t)] ∧ Ex H H' ∧ H' p = some (.lst (nsV l)) ∧ l.length = r.length ∧ ∀ o, o < r.length → l.getD o 0 = if o < u then thr (clTo r t) t o else (clTo r t).getD o 0) ?_ ?_ ?_
      · intro H2 e2
        exact ⟨v2, clTo r t, rfl, eH.trans e2, e2 p _ hl, hcl, fun o ho => by rw [if_neg (by omega)]⟩
      · rintro u σ' H' hu ⟨v2, l, rfl, eH, hl, hlen, hval⟩
        have hu : u < r.length := by omega
        have eu : l.getD u 0 = (clTo r t).getD u 0 := by rw [hval u hu, if_neg (by omega)]
        have et : l.getD t 0 = (clTo r t).getD t 0 := by
          rw [hval t ht]
          split
          · exact thr_self _ _
          · rfl
        refine s_when (et_test (ev_bit (ev_ixN (sq_of hl) (nsV_at (by omega)) (ev_var rfl) (ev_var rfl)) (ev_var rfl))) (fun hb H2 e2 => ?_) (fun hb H2 e2 => ?_)
        · refine s_setL (j := u) (e2 p _ hl) (ev_or (ev_ixN (sq_of (e2 p _ hl)) (nsV_at (show u < l.length by omega)) (ev_var rfl) (ev_var rfl)) (ev_ixN (sq_of (e2 p _ hl)) (nsV_at (show t < l.length by omega)) (ev_var rfl) (ev_var rfl))) (ev_var rfl) (ev_var rfl) (by rw [nsV_len]; omega) fun H3 e3 => ?_
          refine ⟨some (nV u), l.set u (l.getD u 0 ||| l.getD t 0), rfl, ((eH.trans e2).trans e3).mut hp, ?_, by rw [List.length_set]; exact hlen, fun o ho => ?_⟩
          · rw [upd_same, ← nsV_set]
          · rw [getD_set (by omega)]
            by_cases e : u = o
            · subst e
              rw [if_pos rfl, if_pos (by omega), eu, et]
              unfold thr
              rw [eu] at hb
              rw [if_pos hb]
            · rw [if_neg e, hval o ho]
              by_cases q : o < u
              · rw [if_pos q, if_pos (by omega)]
              · rw [if_neg q, if_neg (by omega)]
        · refine ⟨some (nV u), l, rfl, eH.trans e2, e2 p _ hl, hlen, fun o ho => ?_⟩
          rw [hval o ho]
          by_cases e : u = o
          · subst e
            rw [if_neg (by omega), if_pos (by omega)]
            unfold thr
            rw [eu] at hb
            rw [if_neg (by rw [hb]; decide)]
          · by_cases q : o < u
            · rw [if_pos q, if_pos (by omega)]
            · rw [if_neg q, if_neg (by omega)]
      · rintro σ' H' ⟨v2, l, rfl, eH, hl, hlen, hval⟩
        refine ⟨v2, _, rfl, eH, ?_⟩
        rw [Int.toNat_natCast] at hval
        have e : l = clTo r (t + 1) := by
          rw [clTo_succ]
          refine list_ext_getD (by rw [hlen, through_len, hcl]) fun o ho => ?_
          rw [hlen] at ho
          rw [hval o ho, if_pos ho, through_at _ _ (by omega)]
        rw [← e]
        exact hl
    · rintro σ' H' ⟨v2, v3, rfl, eH, hl⟩
      rw [Int.toNat_natCast, clTo_all] at hl
      exact s_ret (ev_var rfl) fun H3 e3 => k p H3 hp (eH.trans e3) (e3 p _ hl)
/-! ### is_order -/
abbrev s_is_order : Stmt := top 2
theorem sc_is_order : FnScope ["r", "thing", "other"] ["r"] (defScope s_is_order) := ⟨rfl, rfl, rfl, by decide +kernel, rfl, by decide +kernel, by decide +kernel⟩
def sp_is_order (K : PySem.W.Frag) : Sp := fun vs H Q _ => ∃ (a : Addr) (r : List Nat), vs = [.ref a] ∧ SqL K H a (nsV r) ∧ r.length ≤ 64 ∧ RetV (.bl (ordB r)) H Q
theorem ok_is_order {P : Program} {w : World} {K : PySem.W.Frag} {mg : Str → Option Value} {base : Heap} {f : Addr} {fd : FuncData} (F : Fun K "is_order" "is_order" s_is_order f fd) (T : Txt mg) : FnOk P w K mg base CX0 1 f fd ["r"] (sp_is_order K) := by
  refine F.ok sc_is_order (fun vs H Q E h => ?_) (fun cdv A outer s H vs Q E hr h => ?_)
  · obtain ⟨a, r, rfl, hS, hn, k⟩ := h
    rfl
  · obtain ⟨a, r, rfl, hS, hn, k⟩ := h
    refine ⟨_, (pss_cons (ps_for PassesOwn.never rfl (pi_range1 (by rfl) T.g_range (pa_cons (pe_callB call_len_seq (by rfl) T.g_len PySem.boot_len (pa_cons (pv 0) pa_nil)) pa_nil)) (pg_name (i := 1) sc_is_order.nd rfl (by first | exact Or.inl rfl | exact Or.inr rfl)) (pss_cons (ps_if (pt_cmpR op_ne (pe_op op_shr (pe_ix (r := rIxL K) ix_list (pv 0) (pv 1) (fun _ _ => rfl)) (pe_callB call_len_seq (by rfl) T.g_len PySem.boot_len (pa_cons (pv 0) pa_nil))) pe_int (nomark _)) (pss_one (ps_ret pe_bl)) pss_nil)
      (pss_one (ps_for PassesOwn.never rfl (pi_range1 (by rfl) T.g_range (pa_cons (pv 1) pa_nil)) (pg_name (i := 2) sc_is_order.nd rfl (by first | exact Or.inl rfl | exact Or.inr rfl)) (pss_one (ps_if (PW.pt (pw_and (pt_cmpR op_eq (pe_op op_and (pe_op op_shr (pe_ix (r := rIxL K) ix_list (pv 0) (pv 1) (fun _ _ => rfl)) (pv 2)) pe_int) pe_int (nomark _)) (pw_and1 (pt_cmpR op_eq (pe_op op_and (pe_op op_shr (pe_ix (r := rIxL K) ix_list (pv 0) (pv 2) (fun _ _ => rfl)) (pv 1)) pe_int) pe_int (nomark _))))) (pss_one (ps_ret pe_bl)) pss_nil))))))
      (pss_one (ps_ret pe_bl))), ?_⟩
    refine q_forR1 (ea_cons (ev_lenR hS (ev_var rfl)) ea_nil) ⟨by omega, by omega⟩
      (fun t σ' H' => ∃ v1 v2, σ' = [some (.ref a), v1, v2] ∧ Ex H H' ∧ ordTo r t) ?_ ?_ ?_
    · intro H1 e1
      exact ⟨none, none, rfl, e1, fun i hi => by omega⟩
    · rintro t σ' H' ht ⟨v1, v2, rfl, eH, hto⟩
      have ht : t < r.length := by omega
      refine q_when (et_test (ev_neN (b := 0) (ev_shr (ev_ixN (ex_l eH hS) (nsV_at ht) (ev_var rfl) (ev_var rfl)) (ev_lenR (ex_l eH hS) (ev_var rfl))) ev_c)) (fun hb H2 e2 => ?_) (fun hb H2 e2 => ?_)
      · refine s_ret ev_c fun H3 e3 => ?_
        have h1 : ¬ r.getD t 0 < 2 ^ r.length := fun q => by
          rw [Nat.div_eq_of_lt q] at hb
          cases hb
        have q := k H3 ((eH.trans e2).trans e3)
        rw [ordB_false ht (by rw [decide_eq_false h1]; rfl)] at q
        exact q
      · have h1 : r.getD t 0 < 2 ^ r.length := by
          have q : r.getD t 0 / 2 ^ r.length = 0 := by simpa using hb
          exact Nat.lt_of_div_eq_zero (Nat.two_pow_pos _) q
        refine s_forR1 (ea_cons (ev_var rfl) ea_nil) ⟨by omega, by omega⟩
          (fun u σ' H' => ∃ v2, σ' = [some (.ref a), some (nV t), v2] ∧ Ex H H' ∧ ∀ j, j < u → ((r.getD t 0).testBit j && (r.getD j 0).testBit t) = false) ?_ ?_ ?_
        · intro H3 e3
          exact ⟨v2, rfl, (eH.trans e2).trans e3, fun j hj => by omega⟩
        · rintro u σ' H' hu ⟨v2, rfl, eH, hno⟩
          have hu : u < t := by omega
          refine s_when (et_and (et_test (ev_bit (ev_ixN (ex_l eH hS) (nsV_at ht) (ev_var rfl) (ev_var rfl)) (ev_var rfl))) fun _ => et_test (ev_bit (ev_ixN (ex_l eH hS) (nsV_at (show u < r.length by omega)) (ev_var rfl) (ev_var rfl)) (ev_var rfl))) (fun hb H2 e2 => ?_) (fun hb H2 e2 => ?_)
          · refine s_ret ev_c fun H3 e3 => ?_
            have q := k H3 ((eH.trans e2).trans e3)
            rw [ordB_false ht (by
              rw [Bool.and_eq_false_iff]
              right
              rw [Bool.eq_false_iff]
              intro z
              have := List.all_eq_true.mp z u (List.mem_range.mpr hu)
              rw [hb] at this
              cases this)] at q
            exact q
          · refine ⟨some (nV u), rfl, eH.trans e2, fun j hj => ?_⟩
            by_cases e : j = u
            · subst e
              exact hb
            · exact hno j (by omega)
        · rintro σ' H' ⟨v2, rfl, eH, hno⟩
          rw [Int.toNat_natCast] at hno
          refine ⟨_, v2, rfl, eH, fun i hi => ?_⟩
          by_cases e : i = t
          · subst e
            rw [decide_eq_true h1, Bool.true_and, List.all_eq_true]
            intro j hj
            rw [hno j (List.mem_range.mp hj)]
            rfl
          · exact hto i (by omega)
    · rintro σ' H' ⟨v1, v2, rfl, eH, hto⟩
      rw [Int.toNat_natCast] at hto
      refine s_ret ev_c fun H3 e3 => ?_
      have q := k H3 (eH.trans e3)
      rw [ordB_true hto] at q
      exact q
/-! ### close -/
abbrev s_close : Stmt := top 4
theorem sc_close : FnScope ["r", "found"] ["r"] (defScope s_close) := ⟨rfl, rfl, rfl, by decide +kernel, rfl, by decide +kernel, by decide +kernel⟩
def sp_close (K : PySem.W.Frag) : Sp := fun vs H Q _ => ∃ (a : Addr) (r : List Nat), vs = [.ref a] ∧ SqL K H a (nsV r) ∧ r.length ≤ 64 ∧ RetL (nV (Rb22.isOrder (Rb22.closure r)).toNat :: nsV (Rb22.closure r)) H Q
theorem ok_close {P : Program} {w : World} {K : PySem.W.Frag} {mg : Str → Option Value} {base : Heap} {f : Addr} {fd : FuncData} (F : Fun K "close" "close" s_close f fd) (T : Txt mg) (C_is_order : Cal P w K mg base "is_order" 1 ["r"] (sp_is_order K)) (C_closed : Cal P w K mg base "closed" 1 ["r"] (sp_closed K)) : FnOk P w K mg base CX0 2 f fd ["r"] (sp_close K) := by
  refine F.ok sc_close (fun vs H Q E h => ?_) (fun cdv A outer s H vs Q E hr h => ?_)
  · obtain ⟨a, r, rfl, hS, hn, k⟩ := h
    rfl
  · obtain ⟨a, r, rfl, hS, hn, k⟩ := h
    refine ⟨_, (pss_cons (ps_set (i := 1) sc_close.nd rfl (by first | exact Or.inl rfl | exact Or.inr rfl) (pe_own C_closed (hr.mono (by decide)) rfl (pa_cons (pv 0) pa_nil)))
      (pss_one (ps_ret (pe_op op_cat (pe_lst (pa_cons (pe_callTy call_int1 (by rfl) T.g_int (by decide +kernel) (pa_cons (pe_own C_is_order (hr.mono (by decide)) rfl (pa_cons (pv 1) pa_nil)) pa_nil)) pa_nil)) (pv 1))))), ?_⟩
    refine q_asgL (xs := nsV (Rb22.closure r)) (el_call (ea_cons (ev_var rfl) ea_nil) fun H1 e1 Q1 q1 E1 => ⟨a, r, rfl, ex_l e1 hS, hn, q1⟩) fun p H1 hp e1 h1 => ?_
    have hl := closure_len r
    refine s_retL (el_catV (xs := [nV (ordB (Rb22.closure r)).toNat]) (el_lst (ea_cons (ev_intB (ev_call (ea_cons (ev_var rfl) ea_nil) fun H2 e2 Q1 q1 E1 => ⟨p, _, rfl, sq_of (e2 p _ h1), by omega, q1⟩)) ea_nil) (by show 1 ≤ 100000; decide)) (ev_var rfl) h1 (by rw [nsV_len, hl]; show 1 + _ ≤ _; omega)) fun p2 H2 hp2 e2 h2 => ?_
    rw [← ordB_closure] at h2
    exact k p2 H2 (fresh_back e1 hp2) (e1.trans e2) h2
theorem all_mk {P : Program} {w : World} {K : PySem.W.Frag} {h : Heap} {mg : Str → Option Value} {fa : Addr} (X : K.In h) (G : h.Ns mainGlobals mg) (hfa : mg "close" = some (.ref fa))
    {od1 an1 : Option Addr} {sl1 : Array (Option Value)} {oc1 kV1 dc1 pm1 cd1 ct1 : Value} {f1 : Addr} {od2 an2 : Option Addr} {sl2 : Array (Option Value)} {oc2 kV2 dc2 pm2 cd2 ct2 : Value} {f2 : Addr} {od3 an3 : Option Addr} {sl3 : Array (Option Value)} {oc3 kV3 dc3 pm3 cd3 ct3 : Value} {f3 : Addr} 
    (a1 : PySem.W.nsIn K mainGlobals "closed" = some (some (.ref f1))) (l1 : K.lookup f1 = some ⟨oc1, od1, .func (PySem.W.fnOf "closed" "closed" (defArgs s_closed) (defBody s_closed) (defScope s_closed) .none kV1 dc1 pm1 an1 cd1 ct1), sl1⟩) (c1 : PySem.W.codeIn K cd1 "closed" = true) (k1 : PySem.W.keepIn K (.ref f1) = true)
    (a2 : PySem.W.nsIn K mainGlobals "is_order" = some (some (.ref f2))) (l2 : K.lookup f2 = some ⟨oc2, od2, .func (PySem.W.fnOf "is_order" "is_order" (defArgs s_is_order) (defBody s_is_order) (defScope s_is_order) .none kV2 dc2 pm2 an2 cd2 ct2), sl2⟩) (c2 : PySem.W.codeIn K cd2 "is_order" = true) (k2 : PySem.W.keepIn K (.ref f2) = true)
    (a3 : PySem.W.nsIn K mainGlobals "close" = some (some (.ref f3))) (l3 : K.lookup f3 = some ⟨oc3, od3, .func (PySem.W.fnOf "close" "close" (defArgs s_close) (defBody s_close) (defScope s_close) .none kV3 dc3 pm3 an3 cd3 ct3), sl3⟩) (c3 : PySem.W.codeIn K cd3 "close" = true) (k3 : PySem.W.keepIn K (.ref f3) = true)
    (z_int : PySem.W.nsIn K mainGlobals "int" = some none)
    (z_len : PySem.W.nsIn K mainGlobals "len" = some none)
    (z_range : PySem.W.nsIn K mainGlobals "range" = some none)
    : ∃ fd : FuncData, (∀ (s : Shared) (us : List Value), us.length = (["r"] : List Str).length → BindsTo s fd ⟨us, []⟩ ((["r"] : List Str).zip us)) ∧ ∀ base : Heap, K.In base → base.Ns mainGlobals mg → FnOk P w K mg base CX0 2 fa fd ["r"] (sp_close K) := by
  have e := hfa.symm.trans (PySem.W.mg_of X G a3)
  cases e
  have T : Txt mg := ⟨trivial, PySem.W.mg_none_of X G z_int, PySem.W.mg_none_of X G z_len, PySem.W.mg_none_of X G z_range⟩
  have F1 := fun_mk (st := s_closed) l1 c1 k1
  have F2 := fun_mk (st := s_is_order) l2 c2 k2
  have F3 := fun_mk (st := s_close) l3 c3 k3
  refine ⟨PySem.W.fnOf "close" "close" (defArgs s_close) (defBody s_close) (defScope s_close) .none kV3 dc3 pm3 an3 cd3 ct3, fun s us hu => match us, hu with | [_], _ => .of_eq rfl, fun base _ _ => ?_⟩
  have C_closed : Cal P w K mg base "closed" 1 ["r"] (sp_closed K) := ⟨_, _, PySem.W.mg_of X G a1, k1, F1.binds (ps := ["r"]) (fun _ _ _ _ _ _ us hl => match us, hl with | [_], _ => rfl), ok_closed F1 T⟩
  have C_is_order : Cal P w K mg base "is_order" 1 ["r"] (sp_is_order K) := ⟨_, _, PySem.W.mg_of X G a2, k2, F2.binds (ps := ["r"]) (fun _ _ _ _ _ _ us hl => match us, hl with | [_], _ => rfl), ok_is_order F2 T⟩
  exact ok_close F3 T C_is_order C_closed
end Bel
open PySem PySem.W PyProof.Rows
set_option maxRecDepth 100000 in
set_option maxHeartbeats 8000000 in
theorem PySem.Challenge.cw_belowness_s01_close_holds : PySem.Challenge.rw_belowness_s01_close.Holds := by
  w_on; k_headS; (case hw => exact ⟨[.list [.int 1]], by decide +kernel, by decide +kernel⟩)
  k_fillS
  refine L2.walk_specK (r := PySem.Challenge.rw_belowness_s01_close) (k := 2) (CX := L2.CX0) (ps := ["r"]) (sp := Bel.sp_close) (by decide +kernel) rfl rfl ⟨rfl, by decide, by decide⟩ (fun w h Y => PySem.W.kIn_of Y) ?F ?S (fun _ _ _ _ z => z)
  case F =>
    intro w mg fa h Y KX G hmg
    refine' Bel.all_mk KX G hmg ?a1 ?l1 ?c1 ?k1 ?a2 ?l2 ?c2 ?k2 ?a3 ?l3 ?c3 ?k3 ?z_int ?z_len ?z_range
    (case a1 => k_is)
    (case l1 => k_is)
    (case c1 => k_is)
    (case k1 => k_is)
    (case a2 => k_is)
    (case l2 => k_is)
    (case c2 => k_is)
    (case k2 => k_is)
    (case a3 => k_is)
    (case l3 => k_is)
    (case c3 => k_is)
    (case k3 => k_is)
    (case z_int => k_is)
    (case z_len => k_is)
    (case z_range => k_is)
  case S =>
    intro K H xs a hO hwi hask hx
    cases hx with
    | cons h1 h2 =>
      cases h2
      cases h1 with
      | lst hs ha =>
        have e := L2.ints_dw a.1 _ ha
        subst e
        have q : (a.1.all (fun (z : Int) => Rb22Neutral.natural z 64) && (decide (1 ≤ a.1.length) && (decide (a.1.length ≤ 64)))) = true := hask
        obtain ⟨e1, h3, h4⟩ := Bel.asked_any q
        rw [e1] at hs
        refine ⟨_, Rb22Neutral.nats a.1, rfl, hs, h4, fun p H2 _ _ hp => ?_⟩
        have e2 : (PyRb22.close a.1).map L2.V.int = Bel.nV (Rb22.isOrder (Rb22.closure (Rb22Neutral.nats a.1))).toNat :: Bel.nsV (Rb22.closure (Rb22Neutral.nats a.1)) := by
          show L2.V.int (if Rb22.isOrder (Rb22.closure (Rb22Neutral.nats a.1)) = true then 1 else 0) :: (Rb22Neutral.ints (Rb22.closure (Rb22Neutral.nats a.1)) ++ []).map L2.V.int = _
          rw [List.append_nil, Bel.ints_V]
          cases Rb22.isOrder (Rb22.closure (Rb22Neutral.nats a.1)) <;> rfl
        rw [← e2] at hp
        exact .lst (L2.SqL.of hp) (L2.dw_ints (PyRb22.close a.1))
#print axioms PySem.Challenge.cw_belowness_s01_close_holds
