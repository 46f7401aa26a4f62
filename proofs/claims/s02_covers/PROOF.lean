import PyProof.Rows.All
import Wide.All
import OpenK.AllK
import Wide.FinOn
import Open.SpecLaws
import KE.OsGo
import HandS.ForSpec
import HandS.ForMost
import HandS.Evl
import HandS.WideBits
import HandS.SortRule
import HandS.Rev
import PySem.Challenge.RW_belowness_s02_covers
set_option Elab.async false
set_option linter.all false
set_option maxRecDepth 100000
set_option maxHeartbeats 4000000
namespace Bel
open Nat
/-! ### bits -/
theorem sub_testBit : ∀ (i a x : Nat), (∀ j, x.testBit j = true → a.testBit j = true) → (a - x).testBit i = (a.testBit i && !x.testBit i)
  | 0, a, x, h => by
    have h0 := h 0
    have hle := Nat.le_of_testBit h
    simp only [Nat.testBit_zero, decide_eq_true_eq] at h0
    rw [Nat.testBit_zero, Nat.testBit_zero, Nat.testBit_zero]
    by_cases hx : x % 2 = 1
    · have ha := h0 hx
      have : (a - x) % 2 = 0 := by omega
      simp [hx, ha, this]
    · by_cases ha : a % 2 = 1
      · have : (a - x) % 2 = 1 := by omega
        simp [hx, ha, this]
      · have : ¬ (a - x) % 2 = 1 := by omega
        simp [hx, ha, this]
  | i + 1, a, x, h => by
    have h0 := h 0
    have hle := Nat.le_of_testBit h
    simp only [Nat.testBit_zero, decide_eq_true_eq] at h0
    have e : (a - x) / 2 = a / 2 - x / 2 := by omega
    rw [Nat.testBit_succ, Nat.testBit_succ, Nat.testBit_succ, e]
    exact sub_testBit i _ _ fun j hj => by
      have := h (j + 1)
      rw [Nat.testBit_succ, Nat.testBit_succ] at this
      exact this hj
/-- a without what b has -/
def less (a b : Nat) : Nat := a - (a &&& b)
theorem less_bit (a b i : Nat) : (less a b).testBit i = (a.testBit i && !b.testBit i) := by
  unfold less
  rw [sub_testBit i a (a &&& b) (fun j hj => by rw [Nat.testBit_and, Bool.and_eq_true] at hj; exact hj.1), Nat.testBit_and]
  cases a.testBit i <;> cases b.testBit i <;> rfl
theorem less_le (a b : Nat) : less a b ≤ a := Nat.sub_le _ _
/-- one bit taken away -/
theorem drop_bit {m i : Nat} (h : m.testBit i = true) (j : Nat) : (m - 2 ^ i).testBit j = (m.testBit j && !decide (i = j)) := by
  rw [sub_testBit j m (2 ^ i) (fun k hk => by
    rw [Nat.testBit_two_pow, decide_eq_true_eq] at hk
    subst hk
    exact h), Nat.testBit_two_pow]
theorem bit_le {m i : Nat} (h : m.testBit i = true) : 2 ^ i ≤ m := Nat.ge_two_pow_of_testBit h
theorem bit_lt {m n i : Nat} (hm : m < 2 ^ n) (h : m.testBit i = true) : i < n := by
  have h1 := bit_le h
  exact (Nat.pow_lt_pow_iff_right (by decide : 1 < 2)).mp (Nat.lt_of_le_of_lt h1 hm)
theorem lt_of_bits {m n : Nat} (h : ∀ i, m.testBit i = true → i < n) : m < 2 ^ n := Nat.lt_pow_two_of_testBit m fun i hi => by
  cases q : m.testBit i with
  | false => rfl
  | true => exact absurd (h i q) (by omega)
/-- the lowest bit -/
theorem low_ex : ∀ (m : Nat), m ≠ 0 → ∃ v, m.testBit v = true ∧ (∀ j, j < v → m.testBit j = false) ∧ m &&& (m - 1) = m - 2 ^ v := by
  intro m
  induction m using Nat.strongRecOn with
  | _ m ih =>
    intro hm
    by_cases h : m % 2 = 1
    · refine ⟨0, by rw [Nat.testBit_zero, decide_eq_true h], fun j hj => by omega, ?_⟩
      apply Nat.eq_of_testBit_eq
      intro i
      rw [Nat.testBit_and]
      cases i with
      | zero =>
        have : ¬ (m - 1) % 2 = 1 := by omega
        simp [this]
      | succ i =>
        have : (m - 1) / 2 = m / 2 := by omega
        rw [Nat.pow_zero, Nat.testBit_succ, Nat.testBit_succ, this, Bool.and_self]
    · obtain ⟨v, h1, h2, h3⟩ := ih (m / 2) (by omega) (by omega)
      refine ⟨v + 1, by rw [Nat.testBit_succ]; exact h1, fun j hj => ?_, ?_⟩
      · cases j with
        | zero => rw [Nat.testBit_zero, decide_eq_false h]
        | succ j => rw [Nat.testBit_succ]; exact h2 j (by omega)
      · apply Nat.eq_of_testBit_eq
        intro i
        have hle := bit_le h1
        have e : 2 ^ (v + 1) = 2 * 2 ^ v := by rw [Nat.pow_succ, Nat.mul_comm]
        rw [Nat.testBit_and, e]
        cases i with
        | zero =>
          rw [Nat.testBit_zero, Nat.testBit_zero, Nat.testBit_zero]
          have : ¬ (m - 2 * 2 ^ v) % 2 = 1 := by omega
          simp [h, this]
        | succ i =>
          rw [Nat.testBit_succ, Nat.testBit_succ, Nat.testBit_succ]
          have a1 : (m - 1) / 2 = m / 2 - 1 := by omega
          have a2 : (m - 2 * 2 ^ v) / 2 = m / 2 - 2 ^ v := by omega
          rw [a1, a2, ← h3, Nat.testBit_and]
/-! ### members -/
theorem mem_members {n m i : Nat} : i ∈ Rb22.members n m ↔ i < n ∧ m.testBit i = true := by
  unfold Rb22.members
  rw [List.mem_filter, List.mem_range]
theorem filter_ext {α : Type} {p q : α → Bool} : ∀ {l : List α}, (∀ a ∈ l, p a = q a) → l.filter p = l.filter q
  | [], _ => rfl
  | a :: l, h => by
    rw [List.filter_cons, List.filter_cons, h a (List.mem_cons_self ..), filter_ext (fun b hb => h b (List.mem_cons_of_mem _ hb))]
theorem filter_none {α : Type} {p : α → Bool} {l : List α} (h : ∀ a ∈ l, p a = false) : l.filter p = [] := by
  rw [List.filter_eq_nil_iff]
  intro a ha
  rw [h a ha]
  decide
theorem range_split {v n : Nat} (h : v < n) : List.range n = List.range v ++ v :: List.range' (v + 1) (n - v - 1) := by
  have e : n = v + (1 + (n - v - 1)) := by omega
  rw [List.range_eq_range', List.range_eq_range']
  conv => lhs; rw [e]
  rw [← List.range'_append_1, Nat.zero_add, ← List.range'_append_1]
  rfl
theorem members_zero (n : Nat) : Rb22.members n 0 = [] := filter_none fun a _ => Nat.zero_testBit a
theorem members_low {n m v : Nat} (hm : m < 2 ^ n) (h1 : m.testBit v = true) (h2 : ∀ j, j < v → m.testBit j = false) : Rb22.members n m = v :: Rb22.members n (m - 2 ^ v) := by
  have hv : v < n := bit_lt hm h1
  unfold Rb22.members
  rw [range_split hv, List.filter_append, List.filter_append, List.filter_cons, List.filter_cons, if_pos h1,
    filter_none (l := List.range v) (p := fun i => m.testBit i) (fun a ha => h2 a (List.mem_range.mp ha)),
    filter_none (l := List.range v) (p := fun i => (m - 2 ^ v).testBit i) (fun a ha => by rw [drop_bit h1, h2 a (List.mem_range.mp ha)]; rfl),
    if_neg (by rw [drop_bit h1]; simp)]
  rw [List.nil_append, List.nil_append]
  congr 1
  refine filter_ext fun a ha => ?_
  have : v ≠ a := by
    rw [List.mem_range'_1] at ha
    omega
  rw [drop_bit h1, decide_eq_false this]
  simp
theorem members_sub_lt {n m v : Nat} (hm : m < 2 ^ n) : m - 2 ^ v < 2 ^ n := Nat.lt_of_le_of_lt (Nat.sub_le _ _) hm
theorem members_len_le (n m : Nat) : (Rb22.members n m).length ≤ n := by
  have := List.length_filter_le (fun i => m.testBit i) (List.range n)
  rw [List.length_range] at this
  exact this
/-! ### setOf -/
theorem setOf_go : ∀ (l : List Nat) (a j : Nat), (l.foldl (fun m i => m ||| 2 ^ i) a).testBit j = (a.testBit j || decide (j ∈ l))
  | [], a, j => by simp
  | x :: l, a, j => by
    rw [List.foldl_cons, setOf_go l, Nat.testBit_or, Nat.testBit_two_pow]
    by_cases h : x = j
    · subst h; simp
    · have : ¬ j = x := fun e => h e.symm
      simp [h, this]
theorem setOf_bit (l : List Nat) (j : Nat) : (Rb22.setOf l).testBit j = decide (j ∈ l) := by
  unfold Rb22.setOf
  rw [setOf_go]
  simp
theorem setOf_filter_bit {r : List Nat} (p : Nat → Bool) (j : Nat) : (Rb22.setOf ((Rb22.things r).filter p)).testBit j = (decide (j < r.length) && p j) := by
  rw [setOf_bit]
  unfold Rb22.things
  by_cases h : j < r.length <;> cases hp : p j <;> simp [h, hp]
theorem setOf_snoc (l : List Nat) (i : Nat) : Rb22.setOf (l ++ [i]) = Rb22.setOf l ||| 2 ^ i := by
  unfold Rb22.setOf
  rw [List.foldl_append]
  rfl
theorem or_add {m i : Nat} (h : m < 2 ^ i) : m ||| 2 ^ i = m + 2 ^ i := Nat.or_two_pow_eq_add_of_lt h
end Bel
namespace Bel
theorem bool_ext {a b : Bool} (h : a = true ↔ b = true) : a = b := by
  cases a <;> cases b <;> simp_all
/-! ### an order -/
structure Ord (r : List Nat) : Prop where
  lt : ∀ i, i < r.length → r.getD i 0 < 2 ^ r.length
  refl : ∀ i, i < r.length → (r.getD i 0).testBit i = true
  anti : ∀ i j, i < r.length → j < r.length → (r.getD i 0).testBit j = true → (r.getD j 0).testBit i = true → i = j
  trans : ∀ i j k, i < r.length → j < r.length → (r.getD i 0).testBit j = true → (r.getD j 0).testBit k = true → (r.getD i 0).testBit k = true
theorem or_eq_iff {a b : Nat} : (a ||| b) = b ↔ ∀ k, a.testBit k = true → b.testBit k = true := by
  constructor
  · intro h k hk
    rw [← h, Nat.testBit_or, hk]
    rfl
  · intro h
    apply Nat.eq_of_testBit_eq
    intro k
    rw [Nat.testBit_or]
    cases q : a.testBit k with
    | false => rfl
    | true => rw [h k q]; rfl
theorem ord_of {r : List Nat} (h : Rb22.isOrder r = true) : Ord r := by
  unfold Rb22.isOrder Rb22.things Rb22.le at h
  rw [List.all_eq_true] at h
  have g : ∀ i, i < r.length → (r.getD i 0).testBit i = true ∧ r.getD i 0 < 2 ^ r.length ∧ ∀ j, j < r.length → (r.getD i 0).testBit j = true → (i = j ∨ (r.getD j 0).testBit i = false) ∧ (r.getD j 0 ||| r.getD i 0) = r.getD i 0 := by
    intro i hi
    have q := h i (List.mem_range.mpr hi)
    rw [Bool.and_eq_true, Bool.and_eq_true, decide_eq_true_eq, List.all_eq_true] at q
    refine ⟨q.1.1, q.1.2, fun j hj hb => ?_⟩
    have q2 := q.2 j (List.mem_range.mpr hj)
    rw [hb] at q2
    simp only [Bool.not_true, Bool.false_or, Bool.and_eq_true, Bool.or_eq_true, beq_iff_eq, Bool.not_eq_true'] at q2
    exact q2
  refine ⟨fun i hi => (g i hi).2.1, fun i hi => (g i hi).1, fun i j hi hj h1 h2 => ?_, fun i j k hi hj h1 h2 => ?_⟩
  · rcases ((g i hi).2.2 j hj h1).1 with e | e
    · exact e
    · rw [e] at h2; cases h2
  · exact or_eq_iff.mp ((g i hi).2.2 j hj h1).2 k h2
end Bel
namespace Bel
/-! ### lists -/
theorem take_snoc {α : Type} : ∀ {l : List α} {i : Nat} {x : α}, l[i]? = some x → l.take (i + 1) = l.take i ++ [x]
  | [], i, x, h => by simp at h
  | a :: l, 0, x, h => by
    have e : a = x := Option.some.inj h
    subst e
    rfl
  | a :: l, i + 1, x, h => by
    show a :: l.take (i + 1) = a :: (l.take i ++ [x])
    rw [take_snoc (l := l) (i := i) (x := x) h]
theorem drop_cons {α : Type} : ∀ {l : List α} {i : Nat} {x : α}, l[i]? = some x → l.drop i = x :: l.drop (i + 1)
  | [], i, x, h => by simp at h
  | a :: l, 0, x, h => by
    have e : a = x := Option.some.inj h
    subst e
    rfl
  | a :: l, i + 1, x, h => drop_cons (l := l) (i := i) (x := x) h
theorem find_none {α : Type} {p : α → Bool} : ∀ {l : List α}, (∀ y ∈ l, p y = false) → l.find? p = none
  | [], _ => rfl
  | a :: l, h => by
    rw [List.find?_cons, h a (List.mem_cons_self ..)]
    exact find_none fun y hy => h y (List.mem_cons_of_mem _ hy)
theorem find_at {α : Type} {p : α → Bool} : ∀ {l : List α} {i : Nat} {x : α}, (∀ y ∈ l.take i, p y = false) → l[i]? = some x → p x = true → l.find? p = some x
  | [], i, x, _, h, _ => by simp at h
  | a :: l, 0, x, _, h, hp => by
    have e : a = x := Option.some.inj h
    subst e
    rw [List.find?_cons, hp]
  | a :: l, i + 1, x, hn, h, hp => by
    have ha : p a = false := hn a (by rw [List.take_succ_cons]; exact List.mem_cons_self ..)
    rw [List.find?_cons, ha]
    exact find_at (l := l) (i := i) (fun y hy => hn y (by rw [List.take_succ_cons]; exact List.mem_cons_of_mem _ hy)) h hp
theorem find_ext {α : Type} {p q : α → Bool} : ∀ {l : List α}, (∀ y ∈ l, p y = q y) → l.find? p = l.find? q
  | [], _ => rfl
  | a :: l, h => by
    rw [List.find?_cons, List.find?_cons, h a (List.mem_cons_self ..), find_ext fun y hy => h y (List.mem_cons_of_mem _ hy)]
theorem mem_take_more {α : Type} {P : α → Prop} {l : List α} {i : Nat} {x : α} (h : ∀ y ∈ l.take i, P y) (hx : l[i]? = some x) (hp : P x) : ∀ y ∈ l.take (i + 1), P y := by
  rw [take_snoc hx]
  intro y hy
  rw [List.mem_append, List.mem_singleton] at hy
  rcases hy with hy | rfl
  · exact h y hy
  · exact hp
theorem getD_map {f : Nat → Nat} {n i : Nat} (h : i < n) : ((List.range n).map f).getD i 0 = f i := by
  rw [List.getD_eq_getElem?_getD, List.getElem?_map, List.getElem?_range h]
  rfl
theorem get_getD {l : List Nat} {i m : Nat} (h : l[i]? = some m) : l.getD i 0 = m := by
  rw [List.getD_eq_getElem?_getD, h]
  rfl
theorem list_ext_getD {l l' : List Nat} (hl : l.length = l'.length) (h : ∀ i, i < l.length → l.getD i 0 = l'.getD i 0) : l = l' := by
  apply List.ext_getElem? 
  intro i
  by_cases hi : i < l.length
  · have q := h i hi
    rw [List.getD_eq_getElem?_getD, List.getD_eq_getElem?_getD, List.getElem?_eq_getElem hi, List.getElem?_eq_getElem (by omega)] at q
    rw [List.getElem?_eq_getElem hi, List.getElem?_eq_getElem (by omega)]
    exact congrArg some q
  · rw [List.getElem?_eq_none (by omega), List.getElem?_eq_none (by omega)]
end Bel
namespace Bel
/-! ### covers -/
/-- what lies below, as a list of sets -/
def belowL (r : List Nat) : List Nat := (List.range r.length).map fun i => less (r.getD i 0) (2 ^ i)
theorem belowL_len (r : List Nat) : (belowL r).length = r.length := by
  unfold belowL
  rw [List.length_map, List.length_range]
theorem belowL_at (r : List Nat) {i : Nat} (h : i < r.length) : (belowL r).getD i 0 = less (r.getD i 0) (2 ^ i) := getD_map h
theorem belowL_bit (r : List Nat) {i : Nat} (h : i < r.length) (j : Nat) : ((belowL r).getD i 0).testBit j = Rb22.lt r j i := by
  rw [belowL_at r h, less_bit, Nat.testBit_two_pow]
  unfold Rb22.lt Rb22.le
  congr 1
  by_cases e : i = j
  · subst e
    simp
  · have : ¬ j = i := fun z => e z.symm
    simp [e, this]
theorem belowL_lt {r : List Nat} (O : Ord r) {i : Nat} (h : i < r.length) : (belowL r).getD i 0 < 2 ^ r.length := by
  rw [belowL_at r h]
  exact Nat.lt_of_le_of_lt (less_le _ _) (O.lt i h)
/-- one thing after another taken away with what lies below it -/
def lessAll (b : List Nat) (l : List Nat) (m : Nat) : Nat := l.foldl (fun m o => less m (b.getD o 0)) m
theorem lessAll_snoc (b l : List Nat) (o m : Nat) : lessAll b (l ++ [o]) m = less (lessAll b l m) (b.getD o 0) := by
  unfold lessAll
  rw [List.foldl_append]
  rfl
theorem lessAll_bit (b : List Nat) (j : Nat) : ∀ (l : List Nat) (m : Nat), (lessAll b l m).testBit j = (m.testBit j && !l.any fun o => (b.getD o 0).testBit j)
  | [], m => by simp [lessAll]
  | o :: l, m => by
    show (lessAll b l (less m (b.getD o 0))).testBit j = _
    rw [lessAll_bit b j l, less_bit, List.any_cons]
    cases m.testBit j <;> cases (b.getD o 0).testBit j <;> cases (l.any fun o => (b.getD o 0).testBit j) <;> rfl
/-- the things next below -/
def nextB (b : List Nat) (n i : Nat) : Nat := lessAll b (Rb22.members n (b.getD i 0)) (b.getD i 0)
theorem nextB_lt {b : List Nat} {n i : Nat} (h : b.getD i 0 < 2 ^ n) : nextB b n i < 2 ^ n := by
  refine lt_of_bits fun j hj => ?_
  unfold nextB at hj
  rw [lessAll_bit, Bool.and_eq_true] at hj
  exact bit_lt h hj.1
theorem nextB_is {r : List Nat} (O : Ord r) {i : Nat} (hi : i < r.length) : nextB (belowL r) r.length i = Rb22.setOf ((Rb22.things r).filter fun j => Rb22.lt r j i && !((Rb22.things r).any fun k => Rb22.lt r j k && Rb22.lt r k i)) := by
  apply Nat.eq_of_testBit_eq
  intro j
  unfold nextB
  rw [lessAll_bit, setOf_filter_bit, belowL_bit r hi]
  by_cases hj : j < r.length
  · rw [decide_eq_true hj, Bool.true_and]
    congr 2
    apply bool_ext
    rw [List.any_eq_true, List.any_eq_true]
    constructor
    · rintro ⟨o, ho, h⟩
      have ho := mem_members.mp ho
      rw [belowL_bit r hi] at ho
      rw [belowL_bit r ho.1] at h
      exact ⟨o, List.mem_range.mpr ho.1, by rw [h, ho.2]; rfl⟩
    · rintro ⟨o, ho, h⟩
      have ho := List.mem_range.mp ho
      rw [Bool.and_eq_true] at h
      refine ⟨o, mem_members.mpr ⟨ho, ?_⟩, ?_⟩
      · rw [belowL_bit r hi]; exact h.2
      · rw [belowL_bit r ho]; exact h.1
  · rw [decide_eq_false hj, Bool.false_and]
    have : Rb22.lt r j i = false := by
      rw [← belowL_bit r hi]
      exact Nat.testBit_lt_two_pow (Nat.lt_of_lt_of_le (belowL_lt O hi) (Nat.pow_le_pow_right (by decide) (by omega)))
    rw [this]
    rfl
theorem nextB_all {r : List Nat} (O : Ord r) : (List.range r.length).map (nextB (belowL r) r.length) = Rb22.covers r := by
  unfold Rb22.covers
  refine List.map_congr_left fun i hi => ?_
  exact nextB_is O (List.mem_range.mp hi)
end Bel
namespace Bel
open PySem PySem.Spec PyProof.Rows L2 Evl
open PySem.W (Codec)
/-! ### rules of our own -/
/-- a def of the text, as its callers know it -/
structure Cal (P : Program) (w : World) (K : PySem.W.Frag) (mg : Str → Option Value) (base : Heap) (x : Str) (k : Nat) (ps : List Str) (sp : Sp) : Prop where
  ex : ∃ (f : Addr) (fd : FuncData), mg x = some (.ref f) ∧ PySem.W.keepIn K (.ref f) = true ∧ Binds K fd ps [] ∧ FnOk P w K mg base CX0 k f fd ps sp
theorem pe_own {X : Cx} {k : Nat} {x : Str} {ps : List Str} {sp : Sp} {e : Expr} {es : List Expr} {p pos : Pos} {t : TA} (C : Cal X.prog X.w X.K X.mg X.base x k ps sp) (hr : Room k X.A) (hg : Gl X x) (ha : PA X (e :: es) t)
    (hdb : (x == ("__debug__" : Str)) = false := by decide) (he : starEach (e :: es) X.env = (false, eval e X.env) :: starEach es X.env := by rfl) (hpl : (backTo pos (starEach es X.env)).any (·.1) = false := by rfl) :
    PE X (.Call (.Name x p) (e :: es) [] pos) (tCall sp [] E0 t) := by
  obtain ⟨f, fd, hm, hk, hb, F⟩ := C.ex
  exact pe_call F hr hg hm hk hb .nil pass0 ha hdb he hpl
/-- a constant of the module's -/
theorem pe_cst {X : Cx} {x : Str} {v : V} {pos : Pos} (hg : Gl X x) (h : ∃ u, X.mg x = some u ∧ RelV v u) (hd : (x == ("__debug__" : Str)) = false := by decide) : PE X (.Name x pos) (tC v) := by
  obtain ⟨u, hm, r⟩ := h
  exact pe_glob hg hm r hd
/-- xs[i], to be stored anew -/
def rGetL (K : PySem.W.Frag) : V → V → Hp → VK → Prop := fun o i H Q => ∃ (p : Addr) (xs : List V) (j : Nat) (v : V), o = .ref p ∧ i = .int (j : Int) ∧ SqL K H p xs ∧ xs[j]? = some v ∧ Q v H
theorem get_list {X : Cx} : PGet X (rGetL X.K) := by
  intro pins s σ H o i ov iv Q I ro ri h
  obtain ⟨p, xs, j, z, rfl, rfl, hq, he, q⟩ := h
  cases ro
  obtain ⟨t, rfl⟩ := ri
  obtain ⟨its, r, pl, hz⟩ := I.list hq
  obtain ⟨w, ew, rw'⟩ := r.get he
  have hn := line63
  have hj := (List.getElem?_eq_some_iff.mp he).1
  exact wpAny_getItem_list pl.isList (Int.natCast_nonneg _) (by omega) (by rw [Int.toNat_natCast]; simpa using ew) ⟨z, H, I, rw', q⟩
/-! ### numbers -/
abbrev nV (m : Nat) : V := V.int (m : Int)
abbrev nsV (l : List Nat) : List V := l.map nV
theorem nsV_get {l : List Nat} {j m : Nat} (h : l[j]? = some m) : (nsV l)[j]? = some (nV m) := by rw [List.getElem?_map, h]; rfl
theorem nsV_of {l : List Nat} {j : Nat} {x : V} (h : (nsV l)[j]? = some x) : ∃ m, l[j]? = some m ∧ x = nV m := by
  rw [List.getElem?_map] at h
  cases e : l[j]? with
  | none => rw [e] at h; cases h
  | some m => rw [e] at h; exact ⟨m, rfl, (Option.some.inj h).symm⟩
theorem nsV_len (l : List Nat) : (nsV l).length = l.length := List.length_map ..
theorem nsV_at {l : List Nat} {j : Nat} (h : j < l.length) : l[j]? = some (l.getD j 0) := by
  rw [List.getD_eq_getElem?_getD, List.getElem?_eq_getElem h]
  rfl
theorem bitAnd_N (a b : Nat) : Builtin.bitAnd (a : Int) (b : Int) = ((a &&& b : Nat) : Int) := by
  rw [bitAnd_pp (Int.natCast_nonneg _) (Int.natCast_nonneg _), Int.toNat_natCast, Int.toNat_natCast]
theorem bitOr_N (a b : Nat) : Builtin.bitOr (a : Int) (b : Int) = ((a ||| b : Nat) : Int) := by
  rw [bitOr_nn (Int.natCast_nonneg _) (Int.natCast_nonneg _), Int.toNat_natCast, Int.toNat_natCast]
theorem bitLess_N (a b : Nat) : Builtin.bitAnd (a : Int) (Builtin.bitNot (b : Int)) = ((less a b : Nat) : Int) := by
  have nn : Builtin.bitNot (Builtin.bitNot (b : Int)) = (b : Int) := by
    show -(-(b : Int) - 1) - 1 = b
    omega
  rw [bitAnd_pn (Int.natCast_nonneg _) (by show ¬ 0 ≤ -(b : Int) - 1; omega), nn, Int.toNat_natCast, Int.toNat_natCast]
  unfold less
  have := Nat.and_le_left (n := a) (m := b)
  omega
/-- the lowest bit of a number -/
theorem bitLow_N {m : Nat} (h : m ≠ 0) : Builtin.bitAnd (m : Int) (0 - (m : Int)) = ((m - (m &&& (m - 1)) : Nat) : Int) := by
  have nn : Builtin.bitNot (0 - (m : Int)) = ((m - 1 : Nat) : Int) := by
    show -(0 - (m : Int)) - 1 = _
    omega
  rw [bitAnd_pn (Int.natCast_nonneg _) (by omega), nn, Int.toNat_natCast, Int.toNat_natCast]
  have := Nat.and_le_left (n := m) (m := m - 1)
  omega
theorem cast_pow (k : Nat) : ((2 ^ k : Nat) : Int) = (2 : Int) ^ k := PySem.W.kbt_cast k
theorem intBits_N {m : Nat} (h : m ≠ 0) : Builtin.Int.intBits (m : Int) = m.log2 + 1 := by
  unfold Builtin.Int.intBits
  rw [if_neg (by simpa using h), Int.natAbs_natCast]
theorem shr_bit (m j : Nat) : Builtin.bitAnd ((m : Int) / 2 ^ ((j : Int)).toNat) 1 = (((m.testBit j).toNat : Nat) : Int) := by
  have e : ((m : Int) / 2 ^ ((j : Int)).toNat) = ((m / 2 ^ j : Nat) : Int) := by
    rw [Int.toNat_natCast, Int.natCast_ediv, cast_pow]
  rw [e, show (1 : Int) = ((1 : Nat) : Int) from rfl, bitAnd_N, Nat.and_one_is_mod, ← Nat.toNat_testBit]
section
variable {K : PySem.W.Frag} {σ : L2.St} {H : Hp} {ta tb te : TE}
theorem ev_shl {k : Nat} (h : Ev ta σ H (nV k)) (hk : k ≤ 1000000) : Ev (tOp (rI CPow fun i j => .int (i * 2 ^ j.toNat)) (tC (.int 1)) ta) σ H (nV (2 ^ k)) :=
  ev_is (ev_op ev_c h (rv_I ⟨by omega, by omega, by decide⟩)) (by rw [Int.toNat_natCast, Int.one_mul, ← cast_pow])
theorem ev_and {a b : Nat} (ha : Ev ta σ H (nV a)) (hb : Ev tb σ H (nV b)) : Ev (tOp (rI0 fun i j => .int (Builtin.bitAnd i j)) ta tb) σ H (nV (a &&& b)) :=
  ev_is (ev_op ha hb rv_I0) (by rw [bitAnd_N])
theorem ev_or {a b : Nat} (ha : Ev ta σ H (nV a)) (hb : Ev tb σ H (nV b)) : Ev (tOp (rI0 fun i j => .int (Builtin.bitOr i j)) ta tb) σ H (nV (a ||| b)) :=
  ev_is (ev_op ha hb rv_I0) (by rw [bitOr_N])
theorem ev_less {a b : Nat} (ha : Ev ta σ H (nV a)) (hb : Ev tb σ H (nV b)) : Ev (tOp (rI0 fun i j => .int (Builtin.bitAnd i j)) ta (tUn (rU fun i => .int (Builtin.bitNot i)) tb)) σ H (nV (less a b)) :=
  ev_is (ev_op ha (ev_un hb (fun H1 _ _ q => ⟨_, rfl, q H1 (Ex.refl H1)⟩)) rv_I0) (by rw [bitLess_N])
theorem ev_sub {a b : Nat} (ha : Ev ta σ H (nV a)) (hb : Ev tb σ H (nV b)) (h : b ≤ a) : Ev (tOp (rI0 fun i j => .int (i - j)) ta tb) σ H (nV (a - b)) :=
  ev_is (ev_op ha hb rv_I0) (by rw [← Int.ofNat_sub h])
theorem ev_add {a b : Nat} (ha : Ev ta σ H (nV a)) (hb : Ev tb σ H (nV b)) : Ev (tOp (rI0 fun i j => .int (i + j)) ta tb) σ H (nV (a + b)) :=
  ev_is (ev_op ha hb rv_I0) (by rw [← Int.natCast_add])
theorem ev_ix {p : Addr} {xs : List V} {j : Nat} {v : V} (hp : SqL K H p xs) (hj : xs[j]? = some v) (ha : Ev ta σ H (.ref p)) (hb : Ev tb σ H (nV j)) : Ev (tOp (rIxL K) ta tb) σ H v :=
  ev_op ha hb (rv_ixL hp (atI_nat hj))
theorem ev_ixN {p : Addr} {l : List Nat} {j m : Nat} (hp : SqL K H p (nsV l)) (hj : l[j]? = some m) (ha : Ev ta σ H (.ref p)) (hb : Ev tb σ H (nV j)) : Ev (tOp (rIxL K) ta tb) σ H (nV m) :=
  ev_ix hp (nsV_get hj) ha hb
theorem nV_eq {a b : Nat} : decide (nV a = nV b) = decide (a = b) := by
  by_cases h : a = b
  · subst h; simp
  · rw [decide_eq_false h, decide_eq_false]
    intro q
    injection q with q
    exact h (by omega)
theorem ev_eqN {a b : Nat} (ha : Ev ta σ H (nV a)) (hb : Ev tb σ H (nV b)) : Ev (tOp rEq ta tb) σ H (.bl (decide (a = b))) :=
  ev_is (ev_op ha hb (rv_eq rfl)) (by rw [nV_eq])
theorem ev_neN {a b : Nat} (ha : Ev ta σ H (nV a)) (hb : Ev tb σ H (nV b)) : Ev (tOp rNe ta tb) σ H (.bl (!decide (a = b))) :=
  ev_is (ev_op ha hb (rv_ne rfl)) (by rw [nV_eq])
/-- m >> j & 1 == 1 -/
theorem ev_bit {m j : Nat} (ha : Ev ta σ H (nV m)) (hb : Ev tb σ H (nV j)) :
    Ev (tOp rEq (tOp (rI0 fun i j => .int (Builtin.bitAnd i j)) (tOp (rI (fun _ j => 0 ≤ j) fun i j => .int (i / 2 ^ j.toNat)) ta tb) (tC (.int 1))) (tC (.int 1))) σ H (.bl (m.testBit j)) :=
  ev_is (ev_op (ev_op (ev_op ha hb (rv_I (Int.natCast_nonneg _))) ev_c rv_I0) ev_c (rv_eq rfl)) (by
    show V.bl (decide (V.int (Builtin.bitAnd ((m : Int) / 2 ^ ((j : Int)).toNat) 1) = V.int 1)) = _
    rw [shr_bit]
    cases m.testBit j <;> rfl)
/-- m >> j -/
theorem ev_shr {m j : Nat} (ha : Ev ta σ H (nV m)) (hb : Ev tb σ H (nV j)) : Ev (tOp (rI (fun _ j => 0 ≤ j) fun i j => .int (i / 2 ^ j.toNat)) ta tb) σ H (nV (m / 2 ^ j)) :=
  ev_is (ev_op ha hb (rv_I (Int.natCast_nonneg _))) (by rw [Int.toNat_natCast, ← cast_pow, ← Int.natCast_ediv])
theorem ev_bits {m : Nat} (ha : Ev ta σ H (nV m)) (h : m ≠ 0) : Ev (tOp (rI0 fun i j => .int (i - j)) (tBits ta) (tC (.int 1))) σ H (nV m.log2) := by
  have h1 : Ev (tBits ta) σ H (.int (Builtin.Int.intBits (m : Int) : Nat)) := fun H1 e Q q => ha H1 e _ fun H2 e2 => ⟨_, rfl, q H2 e2⟩
  refine ev_is (ev_op h1 ev_c rv_I0) ?_
  rw [intBits_N h]
  show V.int (((m.log2 + 1 : Nat) : Int) - 1) = _
  congr 1
  omega
theorem ev_intB {b : Bool} (h : Ev te σ H (.bl b)) : Ev (tCB (fun xs H Q => (∃ i, xs = [.int i] ∧ Q (.int i) H) ∨ ∃ k, xs = [.bl k] ∧ Q (.int (if k then 1 else 0)) H) (tCons te tNil)) σ H (nV b.toNat) := fun H1 e Q q =>
  h H1 e _ fun H2 e2 => Or.inr ⟨b, rfl, by
    have := q H2 e2
    cases b <;> exact this⟩
theorem ev_lenR {p : Addr} {l : List Nat} (hp : SqL K H p (nsV l)) (ha : Ev ta σ H (.ref p)) : Ev (tCB (rLenS K) (tCons ta tNil)) σ H (nV l.length) :=
  ev_is (ev_len ha hp) (by rw [nsV_len])
/-- xs + ys of two new lists -/
theorem el_cat {xs ys : List V} (ha : EvL ta σ H xs) (hb : EvL tb σ H ys) (h : xs.length + ys.length ≤ 200000) : EvL (tOp rCat ta tb) σ H (xs ++ ys) := fun H1 e Q k =>
  ha H1 e _ fun p H2 hp e2 h2 => hb H2 (e.trans e2) _ fun q H3 hq e3 h3 => ⟨p, q, xs, ys, rfl, rfl, e3 p _ h2, h3, Nat.le_trans h (by decide), fun l hl =>
    k l _ (fresh_back (e2.trans e3) hl) ((e2.trans e3).trans (Ex.new hl)) upd_same⟩
/-- xs + ys, ys a list that stands -/
theorem el_catV {xs ys : List V} {b : Addr} (ha : EvL ta σ H xs) (hb : Ev tb σ H (.ref b)) (hy : H b = some (.lst ys)) (h : xs.length + ys.length ≤ 200000) : EvL (tOp rCat ta tb) σ H (xs ++ ys) := fun H1 e Q k =>
  ha H1 e _ fun p H2 hp e2 h2 => hb H2 (e.trans e2) _ fun H3 e3 => ⟨p, b, xs, ys, rfl, rfl, e3 p _ h2, ((e.trans e2).trans e3) b _ hy, Nat.le_trans h (by decide), fun l hl =>
    k l _ (fresh_back (e2.trans e3) hl) ((e2.trans e3).trans (Ex.new hl)) upd_same⟩
theorem flat_rep {α : Type} (x : α) : ∀ n : Nat, (List.replicate n [x]).flatten = List.replicate n x
  | 0 => rfl
  | n + 1 => by rw [List.replicate_succ, List.replicate_succ, List.flatten_cons, flat_rep x n]; rfl
/-- [x] * n -/
theorem el_rep {x : V} {n : Nat} (ha : Ev ta σ H x) (hb : Ev tb σ H (nV n)) (h : n ≤ 200000) : EvL (tOp rRep (tLst (tCons ta tNil)) tb) σ H (List.replicate n x) := fun H1 e Q k =>
  ha H1 e _ fun H2 e2 => ⟨by show 1 ≤ sizeLine; decide, fun p hp => hb _ (e.trans (e2.trans (Ex.new hp))) _ fun H3 e3 =>
    ⟨p, (n : Int), [x], rfl, rfl, e3 p _ upd_same, by omega, by omega, by rw [Int.toNat_natCast, List.length_singleton, Nat.one_mul]; exact Nat.le_trans h (by decide), fun l hl => by
      have e4 := (e2.trans (Ex.new hp)).trans e3
      refine k l _ (fresh_back e4 hl) (e4.trans (Ex.new hl)) ?_
      rw [upd_same, Int.toNat_natCast, flat_rep]⟩⟩
theorem nsV_set (l : List Nat) (j m : Nat) : (nsV l).set j (nV m) = nsV (l.set j m) := by
  unfold nsV
  rw [List.map_set]
theorem et_yes : EvT tYes σ H true := fun H1 _ _ q => q H1 (Ex.refl H1)
theorem given_all (n : Nat) (g : Nat → Nat) : given n (fun _ => true) (fun i => nV (g i)) = nsV ((List.range n).map g) := by
  unfold given nsV
  rw [List.map_map, List.filter_eq_self.mpr (fun _ _ => rfl)]
  rfl
theorem sum_cast : ∀ l : List Nat, (l.map fun (n : Nat) => (n : Int)).sum = ((l.sum : Nat) : Int)
  | [] => rfl
  | a :: l => by rw [List.map_cons, List.sum_cons, List.sum_cons, sum_cast l, Int.natCast_add]
theorem ev_sumN {l : List Nat} (h : EvL te σ H (nsV l)) : Ev (tCB (rSum K) (tCons te tNil)) σ H (nV l.sum) := fun H1 e Q q =>
  h H1 e _ fun p H2 hp e2 h2 => ⟨p, l.map fun (n : Nat) => (n : Int), rfl, by rw [List.map_map]; exact sq_of h2, by rw [sum_cast]; exact q H2 e2⟩
/-- a comprehension without a test over range(n) | over a list of numbers -/
theorem el_lcN {ta : TA} {j : Nat} {vs : List Nat} {n : Nat} (g : Nat → Nat) (h : EvA ta σ H [nV n]) (hn : n ≤ 40000) (hw : ∀ x, wipe ((wipe σ vs).set j (some x)) vs = wipe σ vs)
    (he : ∀ (i : Nat) H1, Ex H H1 → i < n → Ev te ((wipe σ vs).set j (some (nV i))) H1 (nV (g i))) : EvL (tLc (iRng1 ta) (gName j) tYes te vs) σ H (nsV ((List.range n).map g)) := by
  have q := el_lcR1 (t := tYes) (te := te) (n := ((n : Nat) : Int)) (fun _ => true) (fun i => nV (g i)) h ⟨by omega, by omega⟩ hw (fun _ _ _ _ => et_yes) (fun i H1 e1 hi _ => he i H1 e1 (by omega))
  rw [Int.toNat_natCast, given_all] at q
  exact q
theorem given_map (xs : List Nat) (g : Nat → Nat) : given (nsV xs).length (fun _ => true) (fun i => nV (g (xs.getD i 0))) = nsV (xs.map g) := by
  rw [nsV_len, given_all xs.length (fun i => g (xs.getD i 0))]
  congr 1
  apply List.ext_getElem?
  intro i
  rw [List.getElem?_map, List.getElem?_map]
  by_cases h : i < xs.length
  · rw [List.getElem?_range h, List.getElem?_eq_getElem h]
    show some (g (xs.getD i 0)) = some (g xs[i])
    rw [List.getD_eq_getElem?_getD, List.getElem?_eq_getElem h]
    rfl
  · rw [List.getElem?_eq_none (by rw [List.length_range]; omega), List.getElem?_eq_none (by omega)]
    rfl
theorem el_lcM {a : Addr} {xs : List Nat} {tl : TE} {j : Nat} {vs : List Nat} (g : Nat → Nat) (h : Ev tl σ H (.ref a)) (hx : SqL K H a (nsV xs)) (hz : xs.length ≤ 40000) (hw : ∀ x, wipe ((wipe σ vs).set j (some x)) vs = wipe σ vs)
    (he : ∀ (m : Nat) H1, Ex H H1 → m ∈ xs → Ev te ((wipe σ vs).set j (some (nV m))) H1 (nV (g m))) : EvL (tLc (iList K tl) (gName j) tYes te vs) σ H (nsV (xs.map g)) := by
  have q := el_lcL (t := tYes) (te := te) (fun _ => true) (fun i => nV (g (xs.getD i 0))) h hx (by rw [nsV_len]; exact hz) hw (fun _ _ _ _ _ => et_yes) (fun i x H1 e1 hi _ => by
    obtain ⟨m, hm, rfl⟩ := nsV_of hi
    have e : xs.getD i 0 = m := by
      rw [List.getD_eq_getElem?_getD, hm]
      rfl
    rw [e]
    exact he m H1 e1 (List.mem_of_getElem? hm))
  rw [given_map] at q
  exact q
/-- xs[j] op= e -/
theorem s_augL {D : Ends} {to ti : TE} {l : Addr} {xs : List V} {j : Nat} {x y : Int} {f : Int → Int → Int} (hl : H l = some (.lst xs)) (ho : Ev to σ H (.ref l)) (hi : Ev ti σ H (nV j)) (hx : xs[j]? = some (.int x)) (he : Ev te σ H (.int y))
    (k : ∀ H1, Ex H H1 → D.nx σ (upd H1 l (.lst (xs.set j (.int (f x y)))))) : tAugS to ti te (rGetL K) (ipI f) rSetL D σ H :=
  ho H (Ex.refl H) _ fun H1 e1 => hi H1 e1 _ fun H2 e2 => ⟨l, xs, j, .int x, rfl, rfl, sq_of ((e1.trans e2) l _ hl), hx, he H2 (e1.trans e2) _ fun H3 e3 =>
    ⟨x, y, rfl, rfl, l, xs, (j : Int), j, rfl, rfl, ((e1.trans e2).trans e3) l _ hl, ixN_nat (List.getElem?_eq_some_iff.mp hx).1, k H3 ((e1.trans e2).trans e3)⟩⟩
end
end Bel
namespace Bel
open PySem L2
/-! ### the request -/
theorem nats_len (r : List Int) : (Rb22Neutral.nats r).length = r.length := List.length_map ..
theorem nats_V {r : List Int} {b : Nat} (h : r.all (fun (z : Int) => Rb22Neutral.natural z b) = true) : r.map V.int = nsV (Rb22Neutral.nats r) := by
  unfold nsV Rb22Neutral.nats
  rw [List.map_map]
  refine List.map_congr_left fun z hz => ?_
  have q := List.all_eq_true.mp h z hz
  unfold Rb22Neutral.natural at q
  rw [Bool.and_eq_true, decide_eq_true_eq, decide_eq_true_eq] at q
  show V.int z = V.int ((z.toNat : Nat) : Int)
  rw [Int.toNat_of_nonneg q.1]
theorem asked_any {r : List Int} {n : Nat} (h : (r.all (fun (z : Int) => Rb22Neutral.natural z 64) && (decide (1 ≤ r.length) && (decide (r.length ≤ n)))) = true) :
    r.map V.int = nsV (Rb22Neutral.nats r) ∧ 1 ≤ (Rb22Neutral.nats r).length ∧ (Rb22Neutral.nats r).length ≤ n := by
  rw [Bool.and_eq_true, Bool.and_eq_true, decide_eq_true_eq, decide_eq_true_eq] at h
  exact ⟨nats_V h.1, by rw [nats_len]; exact h.2.1, by rw [nats_len]; exact h.2.2⟩
theorem ints_V (l : List Nat) : (Rb22Neutral.ints l).map V.int = nsV l := by
  unfold nsV Rb22Neutral.ints
  rw [List.map_map]
  rfl
theorem asked_ord {r : List Int} {n : Nat} (h : (r.all (fun (z : Int) => Rb22Neutral.natural z 64) && (decide (1 ≤ r.length) && (decide (r.length ≤ n) && Rb22.isOrder (Rb22Neutral.nats r)))) = true) :
    r.map V.int = nsV (Rb22Neutral.nats r) ∧ 1 ≤ (Rb22Neutral.nats r).length ∧ (Rb22Neutral.nats r).length ≤ n ∧ Ord (Rb22Neutral.nats r) := by
  rw [Bool.and_eq_true, Bool.and_eq_true, Bool.and_eq_true, decide_eq_true_eq, decide_eq_true_eq] at h
  exact ⟨nats_V h.1, by rw [nats_len]; exact h.2.1, by rw [nats_len]; exact h.2.2.1, ord_of h.2.2.2⟩
theorem asked_one {r : List Int} {n : Nat} {x : Int} (h : (r.all (fun (z : Int) => Rb22Neutral.natural z 64) && (decide (1 ≤ r.length) && (decide (r.length ≤ n) && (Rb22.isOrder (Rb22Neutral.nats r) && (decide (0 ≤ x) && decide (x < r.length)))))) = true) :
    r.map V.int = nsV (Rb22Neutral.nats r) ∧ 1 ≤ (Rb22Neutral.nats r).length ∧ (Rb22Neutral.nats r).length ≤ n ∧ Ord (Rb22Neutral.nats r) ∧ x.toNat < (Rb22Neutral.nats r).length ∧ V.int x = nV x.toNat := by
  rw [Bool.and_eq_true, Bool.and_eq_true, Bool.and_eq_true, Bool.and_eq_true, Bool.and_eq_true, decide_eq_true_eq, decide_eq_true_eq, decide_eq_true_eq, decide_eq_true_eq] at h
  exact ⟨nats_V h.1, by rw [nats_len]; exact h.2.1, by rw [nats_len]; exact h.2.2.1, ord_of h.2.2.2.1, by rw [nats_len]; omega, by show V.int x = V.int ((x.toNat : Nat) : Int); rw [Int.toNat_of_nonneg h.2.2.2.2.1]⟩
theorem asked_two {r : List Int} {n : Nat} {x y : Int} (h : (r.all (fun (z : Int) => Rb22Neutral.natural z 64) && (decide (1 ≤ r.length) && (decide (r.length ≤ n) && (Rb22.isOrder (Rb22Neutral.nats r) && (decide (0 ≤ x) && (decide (x < r.length) && (decide (0 ≤ y) && (decide (y < r.length))))))))) = true) :
    r.map V.int = nsV (Rb22Neutral.nats r) ∧ 1 ≤ (Rb22Neutral.nats r).length ∧ (Rb22Neutral.nats r).length ≤ n ∧ Ord (Rb22Neutral.nats r) ∧ x.toNat < (Rb22Neutral.nats r).length ∧ y.toNat < (Rb22Neutral.nats r).length ∧ V.int x = nV x.toNat ∧ V.int y = nV y.toNat := by
  rw [Bool.and_eq_true, Bool.and_eq_true, Bool.and_eq_true, Bool.and_eq_true, Bool.and_eq_true, Bool.and_eq_true, Bool.and_eq_true, decide_eq_true_eq, decide_eq_true_eq, decide_eq_true_eq, decide_eq_true_eq, decide_eq_true_eq, decide_eq_true_eq] at h
  refine ⟨nats_V h.1, by rw [nats_len]; exact h.2.1, by rw [nats_len]; exact h.2.2.1, ord_of h.2.2.2.1, by rw [nats_len]; omega, by rw [nats_len]; omega, ?_, ?_⟩
  · show V.int x = V.int ((x.toNat : Nat) : Int)
    rw [Int.toNat_of_nonneg h.2.2.2.2.1]
  · show V.int y = V.int ((y.toNat : Nat) : Int)
    rw [Int.toNat_of_nonneg h.2.2.2.2.2.2.1]
end Bel
namespace Bel
open PySem PySem.Spec PyProof.Rows L2 Evl
open PySem.W (Codec)
def top (i : Nat) : Stmt := PySem.Challenge.pw_belowness_s02_covers.main.body.getD i (.Pass ⟨0, 0, 0, 0⟩)
structure Txt (mg : Str → Option Value) : Prop where
  dummy : True
  g_len : mg "len" = none
  g_range : mg "range" = none
  g_sum : mg "sum" = none
/-! ### members -/
abbrev s_members : Stmt := top 1
theorem sc_members : FnScope ["some", "found", "low"] ["some"] (defScope s_members) := ⟨rfl, rfl, rfl, by decide +kernel, rfl, by decide +kernel, by decide +kernel⟩
def sp_members (K : PySem.W.Frag) : Sp := fun vs H Q _ => ∃ (m n : Nat), vs = [nV m] ∧ m < 2 ^ n ∧ n ≤ 64 ∧ RetL (nsV (Rb22.members n m)) H Q
theorem ok_members {P : Program} {w : World} {K : PySem.W.Frag} {mg : Str → Option Value} {base : Heap} {f : Addr} {fd : FuncData} (F : Fun K "members" "members" s_members f fd) (T : Txt mg) : FnOk P w K mg base CX0 1 f fd ["some"] (sp_members K) := by
  refine F.ok sc_members (fun vs H Q E h => ?_) (fun cdv A outer s H vs Q E hr h => ?_)
  · obtain ⟨m, n, rfl, hm, hn, k⟩ := h
    rfl
  · obtain ⟨m, n, rfl, hm, hn, k⟩ := h
    refine ⟨_, (pss_cons (ps_set (i := 1) sc_members.nd rfl (by first | exact Or.inl rfl | exact Or.inr rfl) (pe_lst pa_nil))
      (pss_cons (ps_while PassesOwn.never (pt_cmpR op_ne (pv 0) pe_int (nomark _)) (pss_cons (ps_set (i := 2) sc_members.nd rfl (by first | exact Or.inl rfl | exact Or.inr rfl) (pe_op op_and (pv 0) (pe_op op_sub pe_int (pv 0))))
      (pss_cons (ps_expr (pe_bm PySem.F.plainAttrs_list PySem.F.slot_list_append PySem.F.type_list_append mt_append (pv 1) (pa_cons (pe_op op_sub (pe_bits (pv 2)) pe_int) pa_nil)))
      (pss_one (ps_aug (i := 0) sc_members.nd rfl (by first | exact Or.inl rfl | exact Or.inr rfl) (pv 2) ip_sub)))))
      (pss_one (ps_ret (pv 1))))), ?_⟩
    refine q_asgL (el_lst ea_nil (by decide)) fun p H1 hp e1 h1 => ?_
    refine q_while (fun z σ' H' => ∃ (rest : Nat) (done : List Nat) (v2 : Option V), z = rest ∧ σ' = [some (nV rest), some (.ref p), v2] ∧ Ex H H' ∧ H' p = some (.lst (nsV done)) ∧ rest < 2 ^ n ∧ done ++ Rb22.members n rest = Rb22.members n m)
      m ⟨m, [], none, rfl, rfl, e1, h1, hm, rfl⟩ ?_
    rintro rest σ' H' ⟨_, done, v2, rfl, rfl, eH, hl, hlt, heq⟩
    refine ⟨_, et_test (ev_neN (b := 0) (ev_var rfl) ev_c), fun hb H2 e2 => ?_, fun hb H2 e2 => ?_⟩
    · have h0 : rest ≠ 0 := by simpa using hb
      obtain ⟨v, b1, b2, b3⟩ := low_ex rest h0
      have hle := bit_le b1
      have hdone : (nsV done).length < 100000 := by
        have := congrArg List.length heq
        rw [List.length_append] at this
        have h2 := members_len_le n m
        rw [nsV_len]
        omega
      have hlow : rest - (rest &&& (rest - 1)) = 2 ^ v := by rw [b3, Nat.sub_sub_self hle]
      refine ⟨fun σ2 H3 => ∃ m', m' < rest ∧ ∃ (rest' : Nat) (done : List Nat) (v2 : Option V), m' = rest' ∧ σ2 = [some (nV rest'), some (.ref p), v2] ∧ Ex H H3 ∧ H3 p = some (.lst (nsV done)) ∧ rest' < 2 ^ n ∧ done ++ Rb22.members n rest' = Rb22.members n m, fun _ _ h => h, ?_⟩
      refine q_asg (ev_is (ev_op (ev_var rfl) (ev_op ev_c (ev_var rfl) rv_I0) rv_I0) (show _ = nV (2 ^ v) by rw [bitLow_N h0, hlow])) fun H3 e3 => ?_
      refine q_app ((e2.trans e3) p _ hl) (ev_var rfl) (ev_bits (m := 2 ^ v) (ev_var rfl) (Nat.pos_iff_ne_zero.mp (Nat.two_pow_pos v))) hdone fun H4 e4 => ?_
      refine s_aug (f := fun i j => i - j) (a := (rest : Int)) (b := ((2 ^ v : Nat) : Int)) rfl (ev_var rfl) fun H5 e5 => ?_
      have hpos := Nat.two_pow_pos v
      refine ⟨rest - 2 ^ v, by omega, rest - 2 ^ v, done ++ [v], some (nV (2 ^ v)), rfl, ?_, ((((eH.trans e2).trans e3).trans e4).mut hp).trans e5, ?_, by omega, ?_⟩
      · show [some (V.int ((rest : Int) - ((2 ^ v : Nat) : Int))), _, _] = _
        rw [← Int.ofNat_sub hle]
      · rw [e5 p _ upd_same, Nat.log2_two_pow]
        show _ = some (HO.lst (List.map nV (done ++ [v])))
        rw [List.map_append]
        rfl
      · rw [List.append_assoc, ← heq, members_low hlt b1 b2]
        rfl
    · have h0 : rest = 0 := by simpa using hb
      subst h0
      rw [members_zero, List.append_nil] at heq
      subst heq
      exact s_ret (ev_var rfl) fun H3 e3 => k p H3 hp ((eH.trans e2).trans e3) ((e2.trans e3) p _ hl)
/-! ### size -/
abbrev s_size : Stmt := top 2
theorem sc_size : FnScope ["some", "found"] ["some"] (defScope s_size) := ⟨rfl, rfl, rfl, by decide +kernel, rfl, by decide +kernel, by decide +kernel⟩
def sp_size (K : PySem.W.Frag) : Sp := fun vs H Q _ => ∃ (m n : Nat), vs = [nV m] ∧ m < 2 ^ n ∧ n ≤ 64 ∧ RetV (nV (Rb22.members n m).length) H Q
theorem ok_size {P : Program} {w : World} {K : PySem.W.Frag} {mg : Str → Option Value} {base : Heap} {f : Addr} {fd : FuncData} (F : Fun K "size" "size" s_size f fd) (T : Txt mg) : FnOk P w K mg base CX0 1 f fd ["some"] (sp_size K) := by
  refine F.ok sc_size (fun vs H Q E h => ?_) (fun cdv A outer s H vs Q E hr h => ?_)
  · obtain ⟨m, n, rfl, hm, hn, k⟩ := h
    rfl
  · obtain ⟨m, n, rfl, hm, hn, k⟩ := h
    refine ⟨_, (pss_cons (ps_set (i := 1) sc_size.nd rfl (by first | exact Or.inl rfl | exact Or.inr rfl) pe_int)
      (pss_cons (ps_while PassesOwn.never (pt_cmpR op_ne (pv 0) pe_int (nomark _)) (pss_cons (ps_set (i := 0) sc_size.nd rfl (by first | exact Or.inl rfl | exact Or.inr rfl) (pe_op op_and (pv 0) (pe_op op_sub (pv 0) pe_int)))
      (pss_one (ps_aug (i := 1) sc_size.nd rfl (by first | exact Or.inl rfl | exact Or.inr rfl) pe_int ip_add))))
      (pss_one (ps_ret (pv 1))))), ?_⟩
    refine q_asg ev_c fun H1 e1 => ?_
    refine q_while (fun z σ' H' => ∃ (rest c : Nat), z = rest ∧ σ' = [some (nV rest), some (nV c)] ∧ Ex H H' ∧ rest < 2 ^ n ∧ c + (Rb22.members n rest).length = (Rb22.members n m).length)
      m ⟨m, 0, rfl, rfl, e1, hm, Nat.zero_add _⟩ ?_
    rintro rest σ' H' ⟨_, c, rfl, rfl, eH, hlt, heq⟩
    refine ⟨_, et_test (ev_neN (b := 0) (ev_var rfl) ev_c), fun hb H2 e2 => ?_, fun hb H2 e2 => ?_⟩
    · have h0 : rest ≠ 0 := by simpa using hb
      obtain ⟨v, b1, b2, b3⟩ := low_ex rest h0
      have hle := bit_le b1
      have hpos := Nat.two_pow_pos v
      refine ⟨fun σ2 H3 => ∃ m', m' < rest ∧ ∃ (rest' c : Nat), m' = rest' ∧ σ2 = [some (nV rest'), some (nV c)] ∧ Ex H H3 ∧ rest' < 2 ^ n ∧ c + (Rb22.members n rest').length = (Rb22.members n m).length, fun _ _ h => h, ?_⟩
      refine q_asg (ev_and (b := rest - 1) (ev_var rfl) (ev_sub (b := 1) (ev_var rfl) ev_c (by omega))) fun H3 e3 => ?_
      refine s_aug (f := fun i j => i + j) (a := (c : Int)) (b := ((1 : Nat) : Int)) rfl ev_c fun H4 e4 => ?_
      refine ⟨rest - 2 ^ v, by omega, rest - 2 ^ v, c + 1, rfl, ?_, ((eH.trans e2).trans e3).trans e4, by omega, ?_⟩
      · rw [b3]
        rfl
      · rw [← heq, members_low hlt b1 b2, List.length_cons]
        omega
    · have h0 : rest = 0 := by simpa using hb
      subst h0
      rw [members_zero, List.length_nil, Nat.add_zero] at heq
      subst heq
      exact s_ret (ev_var rfl) fun H3 e3 => k H3 ((eH.trans e2).trans e3)
/-! ### strictly -/
abbrev s_strictly : Stmt := top 3
theorem sc_strictly : FnScope ["r", "thing"] ["r"] (defScope s_strictly) := ⟨rfl, rfl, rfl, by decide +kernel, rfl, by decide +kernel, by decide +kernel⟩
def sp_strictly (K : PySem.W.Frag) : Sp := fun vs H Q _ => ∃ (a : Addr) (r : List Nat), vs = [.ref a] ∧ SqL K H a (nsV r) ∧ r.length ≤ 64 ∧ RetL (nsV (belowL r)) H Q
theorem ok_strictly {P : Program} {w : World} {K : PySem.W.Frag} {mg : Str → Option Value} {base : Heap} {f : Addr} {fd : FuncData} (F : Fun K "strictly" "strictly" s_strictly f fd) (T : Txt mg) : FnOk P w K mg base CX0 1 f fd ["r"] (sp_strictly K) := by
  refine F.ok sc_strictly (fun vs H Q E h => ?_) (fun cdv A outer s H vs Q E hr h => ?_)
  · obtain ⟨a, r, rfl, hS, hn, k⟩ := h
    rfl
  · obtain ⟨a, r, rfl, hS, hn, k⟩ := h
    refine ⟨_, (pss_one (ps_ret (pe_lc (own := [("thing", 1)]) (g := gName 1) (by rfl) sc_strictly.nd (pi_range1 (by rfl) T.g_range (pa_cons (pe_callB call_len_seq (by rfl) T.g_len PySem.boot_len (pa_cons (pv 0) pa_nil)) pa_nil)) (blkOk_by (own := [("thing", 1)]) (N := ["r", "thing"]) (sc := defScope s_strictly) (by decide +kernel)) (fun _ _ _ _ _ => pg_name (i := 1) sc_strictly.nd rfl (Or.inl rfl)) (fun _ _ _ _ _ => pts_nil) (fun _ _ _ _ _ => (pe_op op_and (pe_ix (r := rIxL K) ix_list (pv 0) (pv 1) (fun _ _ => rfl)) (pe_un un_inv (pe_op op_shl pe_int (pv 1)))))))), ?_⟩
    exact s_retL (el_lcN _ (ea_cons (ev_lenR hS (ev_var rfl)) ea_nil) (by omega) (fun _ => rfl) (fun i H1 e1 hi => ev_less (ev_ixN (ex_l e1 hS) (nsV_at hi) (ev_var rfl) (ev_var rfl)) (ev_shl (ev_var rfl) (by omega)))) k
/-! ### next_below -/
abbrev s_next_below : Stmt := top 4
theorem sc_next_below : FnScope ["below", "thing", "found", "other"] ["below", "thing"] (defScope s_next_below) := ⟨rfl, rfl, rfl, by decide +kernel, rfl, by decide +kernel, by decide +kernel⟩
def sp_next_below (K : PySem.W.Frag) : Sp := fun vs H Q _ => ∃ (a : Addr) (b : List Nat) (i : Nat), vs = [.ref a, nV i] ∧ SqL K H a (nsV b) ∧ b.length ≤ 64 ∧ i < b.length ∧ b.getD i 0 < 2 ^ b.length ∧ RetV (nV (nextB b b.length i)) H Q
theorem ok_next_below {P : Program} {w : World} {K : PySem.W.Frag} {mg : Str → Option Value} {base : Heap} {f : Addr} {fd : FuncData} (F : Fun K "next_below" "next_below" s_next_below f fd) (T : Txt mg) (C_members : Cal P w K mg base "members" 1 ["some"] (sp_members K)) : FnOk P w K mg base CX0 2 f fd ["below", "thing"] (sp_next_below K) := by
  refine F.ok sc_next_below (fun vs H Q E h => ?_) (fun cdv A outer s H vs Q E hr h => ?_)
  · obtain ⟨a, b, i, rfl, hS, hn, hi, hb, k⟩ := h
    rfl
  · obtain ⟨a, b, i, rfl, hS, hn, hi, hb, k⟩ := h
    refine ⟨_, (pss_cons (ps_set (i := 2) sc_next_below.nd rfl (by first | exact Or.inl rfl | exact Or.inr rfl) (pe_ix (r := rIxL K) ix_list (pv 0) (pv 1) (fun _ _ => rfl)))
      (pss_cons (ps_for PassesOwn.never rfl (pi_list (pe_own C_members (hr.mono (by decide)) rfl (pa_cons (pe_ix (r := rIxL K) ix_list (pv 0) (pv 1) (fun _ _ => rfl)) pa_nil))) (pg_name (i := 3) sc_next_below.nd rfl (by first | exact Or.inl rfl | exact Or.inr rfl)) (pss_one (ps_set (i := 2) sc_next_below.nd rfl (by first | exact Or.inl rfl | exact Or.inr rfl) (pe_op op_and (pv 2) (pe_un un_inv (pe_ix (r := rIxL K) ix_list (pv 0) (pv 3) (fun _ _ => rfl)))))))
      (pss_one (ps_ret (pv 2))))), ?_⟩
    refine q_asg (ev_ixN hS (nsV_at hi) (ev_var rfl) (ev_var rfl)) fun H1 e1 => ?_
    refine q_forNLn (xs := nsV (Rb22.members b.length (b.getD i 0))) (el_call (ea_cons (ev_ixN (ex_l e1 hS) (nsV_at hi) (ev_var rfl) (ev_var rfl)) ea_nil) fun H2 e2 Q2 q2 E2 => ⟨_, b.length, rfl, hb, hn, q2⟩)
      (fun q s σ' H' => ∃ v3, σ' = [some (.ref a), some (nV i), some (nV (lessAll b ((Rb22.members b.length (b.getD i 0)).take s) (b.getD i 0))), v3] ∧ Ex H H' ∧ H' q = some (.lst (nsV (Rb22.members b.length (b.getD i 0))))) ?_ ?_ ?_ ?_
    · intro q H2 hq e2 h2
      exact ⟨none, rfl, e1.trans e2, h2⟩
    · rintro q s σ' H' _ ⟨v3, _, _, hq⟩
      exact sq_of hq
    · rintro q s x σ' H' hx ⟨v3, rfl, eH, hq⟩
      obtain ⟨o, ho, rfl⟩ := nsV_of hx
      have hol := (mem_members.mp (List.mem_of_getElem? ho)).1
      refine s_asg (ev_less (ev_var rfl) (ev_ixN (ex_l eH hS) (nsV_at hol) (ev_var rfl) (ev_var rfl))) fun H2 e2 => ?_
      refine ⟨some (nV o), ?_, eH.trans e2, e2 q _ hq⟩
      rw [take_snoc ho, lessAll_snoc]
      rfl
    · rintro q σ' H' ⟨v3, rfl, eH, hq⟩
      rw [nsV_len, List.take_length]
      exact s_ret (ev_var rfl) fun H3 e3 => k H3 (eH.trans e3)
/-! ### covers -/
abbrev s_covers : Stmt := top 6
theorem sc_covers : FnScope ["r", "below", "found", "thing", "some"] ["r"] (defScope s_covers) := ⟨rfl, rfl, rfl, by decide +kernel, rfl, by decide +kernel, by decide +kernel⟩
def sp_covers (K : PySem.W.Frag) : Sp := fun vs H Q _ => ∃ (a : Addr) (r : List Nat), vs = [.ref a] ∧ SqL K H a (nsV r) ∧ r.length ≤ 64 ∧ Ord r ∧ RetL (nV ((Rb22.covers r).map fun m => (Rb22.members r.length m).length).sum :: nsV (Rb22.covers r)) H Q
theorem ok_covers {P : Program} {w : World} {K : PySem.W.Frag} {mg : Str → Option Value} {base : Heap} {f : Addr} {fd : FuncData} (F : Fun K "covers" "covers" s_covers f fd) (T : Txt mg) (C_size : Cal P w K mg base "size" 1 ["some"] (sp_size K)) (C_next_below : Cal P w K mg base "next_below" 2 ["below", "thing"] (sp_next_below K)) (C_strictly : Cal P w K mg base "strictly" 1 ["r"] (sp_strictly K)) : FnOk P w K mg base CX0 3 f fd ["r"] (sp_covers K) := by
  refine F.ok sc_covers (fun vs H Q E h => ?_) (fun cdv A outer s H vs Q E hr h => ?_)
  · obtain ⟨a, r, rfl, hS, hn, hO, k⟩ := h
    rfl
  · obtain ⟨a, r, rfl, hS, hn, hO, k⟩ := h
    refine ⟨_, (pss_cons (ps_set (i := 1) sc_covers.nd rfl (by first | exact Or.inl rfl | exact Or.inr rfl) (pe_own C_strictly (hr.mono (by decide)) rfl (pa_cons (pv 0) pa_nil)))
      (pss_cons (ps_setLc (i := 2) (own := [("thing", 3)]) (g := gName 3) (by rfl) sc_covers.nd rfl rfl (sw_true rfl rfl rfl (by decide +kernel)) (pi_range1 (by rfl) T.g_range (pa_cons (pe_callB call_len_seq (by rfl) T.g_len PySem.boot_len (pa_cons (pv 0) pa_nil)) pa_nil)) (blkOk_by (own := [("thing", 3)]) (N := ["r", "below", "found", "thing", "some"]) (sc := defScope s_covers) (by decide +kernel)) (fun _ _ _ _ _ => pg_name (i := 3) sc_covers.nd rfl (Or.inl rfl)) (fun _ _ _ _ _ => pts_nil) (fun _ _ _ _ _ => (pe_own C_next_below (hr.mono (by decide)) rfl (pa_cons (pv 1) (pa_cons (pv 3) pa_nil)))))
      (pss_one (ps_ret (pe_op op_cat (pe_lst (pa_cons (pe_callB (cr_sum rfl) (by rfl) T.g_sum (by decide +kernel) (pa_cons (pe_lc (own := [("some", 4)]) (g := gName 4) (by rfl) sc_covers.nd (pi_list (pv 2)) (blkOk_by (own := [("some", 4)]) (N := ["r", "below", "found", "thing", "some"]) (sc := defScope s_covers) (by decide +kernel)) (fun _ _ _ _ _ => pg_name (i := 4) sc_covers.nd rfl (Or.inl rfl)) (fun _ _ _ _ _ => pts_nil) (fun _ _ _ _ _ => (pe_own C_size (hr.mono (by decide)) rfl (pa_cons (pv 4) pa_nil)))) pa_nil)) pa_nil)) (pv 2)))))), ?_⟩
    refine q_asgL (xs := nsV (belowL r)) (el_call (ea_cons (ev_var rfl) ea_nil) fun H1 e1 Q1 q1 E1 => ⟨a, r, rfl, ex_l e1 hS, hn, q1⟩) fun p H1 hp e1 h1 => ?_
    have hbl := belowL_len r
    refine q_asgL (el_lcN (nextB (belowL r) r.length) (ea_cons (ev_lenR (ex_l e1 hS) (ev_var rfl)) ea_nil) (by omega) (fun _ => rfl) (fun i H2 e2 hi => ev_call (ea_cons (ev_var rfl) (ea_cons (ev_var rfl) ea_nil)) fun H3 e3 Q3 q3 E3 =>
      ⟨p, belowL r, i, rfl, sq_of ((e2.trans e3) p _ h1), by omega, by omega, by rw [hbl]; exact belowL_lt hO hi, by rw [hbl]; exact q3⟩)) fun q H2 hq e2 h2 => ?_
    rw [nextB_all hO] at h2
    have hcl : (Rb22.covers r).length = r.length := by
      unfold Rb22.covers Rb22.things
      rw [List.length_map, List.length_range]
    have hlt : ∀ m ∈ Rb22.covers r, m < 2 ^ r.length := by
      intro m hm
      rw [← nextB_all hO, List.mem_map] at hm
      obtain ⟨i, hi, rfl⟩ := hm
      exact nextB_lt (belowL_lt hO (List.mem_range.mp hi))
    refine s_retL (el_catV (el_lst (ea_cons (ev_sumN (el_lcM (fun m => (Rb22.members r.length m).length) (ev_var rfl) (sq_of h2) (by omega) (fun _ => rfl) (fun m H3 e3 hm => ev_call (ea_cons (ev_var rfl) ea_nil) fun H4 e4 Q4 q4 E4 =>
      ⟨m, r.length, rfl, hlt m hm, hn, q4⟩))) ea_nil) (by show 1 ≤ 100000; decide)) (ev_var rfl) h2 (by rw [nsV_len, hcl]; show 1 + _ ≤ _; omega)) fun p3 H3 hp3 e3 h3 => ?_
    exact k p3 H3 (fresh_back (e1.trans e2) hp3) ((e1.trans e2).trans e3) h3
theorem all_mk {P : Program} {w : World} {K : PySem.W.Frag} {h : Heap} {mg : Str → Option Value} {fa : Addr} (X : K.In h) (G : h.Ns mainGlobals mg) (hfa : mg "covers" = some (.ref fa))
    {od1 an1 : Option Addr} {sl1 : Array (Option Value)} {oc1 kV1 dc1 pm1 cd1 ct1 : Value} {f1 : Addr} {od2 an2 : Option Addr} {sl2 : Array (Option Value)} {oc2 kV2 dc2 pm2 cd2 ct2 : Value} {f2 : Addr} {od3 an3 : Option Addr} {sl3 : Array (Option Value)} {oc3 kV3 dc3 pm3 cd3 ct3 : Value} {f3 : Addr} {od4 an4 : Option Addr} {sl4 : Array (Option Value)} {oc4 kV4 dc4 pm4 cd4 ct4 : Value} {f4 : Addr} {od5 an5 : Option Addr} {sl5 : Array (Option Value)} {oc5 kV5 dc5 pm5 cd5 ct5 : Value} {f5 : Addr} 
    (a1 : PySem.W.nsIn K mainGlobals "members" = some (some (.ref f1))) (l1 : K.lookup f1 = some ⟨oc1, od1, .func (PySem.W.fnOf "members" "members" (defArgs s_members) (defBody s_members) (defScope s_members) .none kV1 dc1 pm1 an1 cd1 ct1), sl1⟩) (c1 : PySem.W.codeIn K cd1 "members" = true) (k1 : PySem.W.keepIn K (.ref f1) = true)
    (a2 : PySem.W.nsIn K mainGlobals "size" = some (some (.ref f2))) (l2 : K.lookup f2 = some ⟨oc2, od2, .func (PySem.W.fnOf "size" "size" (defArgs s_size) (defBody s_size) (defScope s_size) .none kV2 dc2 pm2 an2 cd2 ct2), sl2⟩) (c2 : PySem.W.codeIn K cd2 "size" = true) (k2 : PySem.W.keepIn K (.ref f2) = true)
    (a3 : PySem.W.nsIn K mainGlobals "strictly" = some (some (.ref f3))) (l3 : K.lookup f3 = some ⟨oc3, od3, .func (PySem.W.fnOf "strictly" "strictly" (defArgs s_strictly) (defBody s_strictly) (defScope s_strictly) .none kV3 dc3 pm3 an3 cd3 ct3), sl3⟩) (c3 : PySem.W.codeIn K cd3 "strictly" = true) (k3 : PySem.W.keepIn K (.ref f3) = true)
    (a4 : PySem.W.nsIn K mainGlobals "next_below" = some (some (.ref f4))) (l4 : K.lookup f4 = some ⟨oc4, od4, .func (PySem.W.fnOf "next_below" "next_below" (defArgs s_next_below) (defBody s_next_below) (defScope s_next_below) .none kV4 dc4 pm4 an4 cd4 ct4), sl4⟩) (c4 : PySem.W.codeIn K cd4 "next_below" = true) (k4 : PySem.W.keepIn K (.ref f4) = true)
    (a5 : PySem.W.nsIn K mainGlobals "covers" = some (some (.ref f5))) (l5 : K.lookup f5 = some ⟨oc5, od5, .func (PySem.W.fnOf "covers" "covers" (defArgs s_covers) (defBody s_covers) (defScope s_covers) .none kV5 dc5 pm5 an5 cd5 ct5), sl5⟩) (c5 : PySem.W.codeIn K cd5 "covers" = true) (k5 : PySem.W.keepIn K (.ref f5) = true)
    (z_len : PySem.W.nsIn K mainGlobals "len" = some none)
    (z_range : PySem.W.nsIn K mainGlobals "range" = some none)
    (z_sum : PySem.W.nsIn K mainGlobals "sum" = some none)
    : ∃ fd : FuncData, (∀ (s : Shared) (us : List Value), us.length = (["r"] : List Str).length → BindsTo s fd ⟨us, []⟩ ((["r"] : List Str).zip us)) ∧ ∀ base : Heap, K.In base → base.Ns mainGlobals mg → FnOk P w K mg base CX0 3 fa fd ["r"] (sp_covers K) := by
  have e := hfa.symm.trans (PySem.W.mg_of X G a5)
  cases e
  have T : Txt mg := ⟨trivial, PySem.W.mg_none_of X G z_len, PySem.W.mg_none_of X G z_range, PySem.W.mg_none_of X G z_sum⟩
  have F1 := fun_mk (st := s_members) l1 c1 k1
  have F2 := fun_mk (st := s_size) l2 c2 k2
  have F3 := fun_mk (st := s_strictly) l3 c3 k3
  have F4 := fun_mk (st := s_next_below) l4 c4 k4
  have F5 := fun_mk (st := s_covers) l5 c5 k5
  refine ⟨PySem.W.fnOf "covers" "covers" (defArgs s_covers) (defBody s_covers) (defScope s_covers) .none kV5 dc5 pm5 an5 cd5 ct5, fun s us hu => match us, hu with | [_], _ => .of_eq rfl, fun base _ _ => ?_⟩
  have C_members : Cal P w K mg base "members" 1 ["some"] (sp_members K) := ⟨_, _, PySem.W.mg_of X G a1, k1, F1.binds (ps := ["some"]) (fun _ _ _ _ _ _ us hl => match us, hl with | [_], _ => rfl), ok_members F1 T⟩
  have C_size : Cal P w K mg base "size" 1 ["some"] (sp_size K) := ⟨_, _, PySem.W.mg_of X G a2, k2, F2.binds (ps := ["some"]) (fun _ _ _ _ _ _ us hl => match us, hl with | [_], _ => rfl), ok_size F2 T⟩
  have C_strictly : Cal P w K mg base "strictly" 1 ["r"] (sp_strictly K) := ⟨_, _, PySem.W.mg_of X G a3, k3, F3.binds (ps := ["r"]) (fun _ _ _ _ _ _ us hl => match us, hl with | [_], _ => rfl), ok_strictly F3 T⟩
  have C_next_below : Cal P w K mg base "next_below" 2 ["below", "thing"] (sp_next_below K) := ⟨_, _, PySem.W.mg_of X G a4, k4, F4.binds (ps := ["below", "thing"]) (fun _ _ _ _ _ _ us hl => match us, hl with | [_, _], _ => rfl), ok_next_below F4 T C_members⟩
  exact ok_covers F5 T C_size C_next_below C_strictly
end Bel
open PySem PySem.W PyProof.Rows
set_option maxRecDepth 100000 in
set_option maxHeartbeats 8000000 in
theorem PySem.Challenge.cw_belowness_s02_covers_holds : PySem.Challenge.rw_belowness_s02_covers.Holds := by
  w_on; k_headS; (case hw => exact ⟨[.list [.int 1]], by decide +kernel, by decide +kernel⟩)
  k_fillS
  refine L2.walk_specK (r := PySem.Challenge.rw_belowness_s02_covers) (k := 3) (CX := L2.CX0) (ps := ["r"]) (sp := Bel.sp_covers) (by decide +kernel) rfl rfl ⟨rfl, by decide, by decide⟩ (fun w h Y => PySem.W.kIn_of Y) ?F ?S (fun _ _ _ _ z => z)
  case F =>
    intro w mg fa h Y KX G hmg
    refine' Bel.all_mk KX G hmg ?a1 ?l1 ?c1 ?k1 ?a2 ?l2 ?c2 ?k2 ?a3 ?l3 ?c3 ?k3 ?a4 ?l4 ?c4 ?k4 ?a5 ?l5 ?c5 ?k5 ?z_len ?z_range ?z_sum
    (case a1 => k_is)
    (case l1 => k_is)
    (case c1 => k_is)
    (case k1 => k_is)
    (case a2 => k_is)
    (case l2 => k_is)
    (case c2 => k_is)
    (case k2 => k_is)
    (case a3 => k_is)
    (case l3 => k_is)
    (case c3 => k_is)
    (case k3 => k_is)
    (case a4 => k_is)
    (case l4 => k_is)
    (case c4 => k_is)
    (case k4 => k_is)
    (case a5 => k_is)
    (case l5 => k_is)
    (case c5 => k_is)
    (case k5 => k_is)
    (case z_len => k_is)
    (case z_range => k_is)
    (case z_sum => k_is)
  case S =>
    intro K H xs a hO hwi hask hx
    cases hx with
    | cons h1 h2 =>
      cases h2
      cases h1 with
      | lst hs ha =>
        have e := L2.ints_dw a.1 _ ha
        subst e
        have q : (a.1.all (fun (z : Int) => Rb22Neutral.natural z 64) && (decide (1 ≤ a.1.length) && (decide (a.1.length ≤ 64) && Rb22.isOrder (Rb22Neutral.nats a.1)))) = true := hask
        obtain ⟨e1, h3, h4, h5⟩ := Bel.asked_ord q
        rw [e1] at hs
        refine ⟨_, Rb22Neutral.nats a.1, rfl, hs, h4, h5, fun p H2 _ _ hp => ?_⟩
        have e2 : (PyRb22.covers a.1).map L2.V.int = Bel.nV ((Rb22.covers (Rb22Neutral.nats a.1)).map fun m => (Rb22.members (Rb22Neutral.nats a.1).length m).length).sum :: Bel.nsV (Rb22.covers (Rb22Neutral.nats a.1)) := by
          show _ :: (Rb22Neutral.ints (Rb22.covers (Rb22Neutral.nats a.1)) ++ []).map L2.V.int = _
          rw [List.append_nil, Bel.ints_V]
          rfl
        rw [← e2] at hp
        exact .lst (L2.SqL.of hp) (L2.dw_ints (PyRb22.covers a.1))
#print axioms PySem.Challenge.cw_belowness_s02_covers_holds
