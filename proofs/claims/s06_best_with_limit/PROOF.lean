import PyProof.Rows.All
import Wide.All
import OpenK.AllK
import Wide.FinOn
import PyProof.EqAt
import PyProof.EqKinds
import PyProof.TupleCall
import Open.SpecLaws
import KE.OsGo
import PySem.Challenge.RW_weaklink_s06_best_with_limit
import HandS.ForSpec
import HandS.Comp
import HandS.Iter
import HandS.ExcInit
import HandS.ExcField
set_option Elab.async false
set_option linter.all false
set_option maxRecDepth 100000
set_option maxHeartbeats 2000000
/-! Mathematics of the pruned tree: the specification's functions, told step by step. -/
namespace WM
open Ks592

/-! ### lists -/
theorem take_more {α : Type} : ∀ {l : List α} {i : Nat} {x : α}, l[i]? = some x → l.take (i + 1) = l.take i ++ [x]
  | [], i, x, h => by simp at h
  | a :: l, 0, x, h => by
    have e : a = x := Option.some.inj h
    subst e
    rfl
  | a :: l, i + 1, x, h => by
    have ih := take_more (l := l) (i := i) (x := x) h
    show a :: l.take (i + 1) = a :: l.take i ++ [x]
    rw [ih]
    rfl

/-- the nodes of a set, in increasing order -/
def nodes (T : Tree) (m : Nat) : List Nat := (List.range T.length).filter fun i => m.testBit i
theorem mem_nodes {T : Tree} {m i : Nat} : i ∈ nodes T m ↔ i < T.length ∧ m.testBit i = true := by
  unfold nodes
  rw [List.mem_filter, List.mem_range]
theorem count_nodes (T : Tree) (m : Nat) : countOf T m = (nodes T m).length := rfl
def wt (T : Tree) (i : Nat) : Nat := (nodeAt T i).weight
theorem sum_nodes (f : Nat → Nat) (p : Nat → Bool) : ∀ l : List Nat, (l.map fun i => if p i = true then f i else 0).sum = ((l.filter p).map f).sum
  | [] => rfl
  | a :: r => by
    rw [List.map_cons, List.sum_cons, List.filter_cons, sum_nodes f p r]
    by_cases h : p a = true
    · rw [if_pos h, if_pos h, List.map_cons, List.sum_cons]
    · rw [if_neg h, if_neg h, Nat.zero_add]
theorem weight_nodes (T : Tree) (m : Nat) : weightOf T m = ((nodes T m).map (wt T)).sum := sum_nodes (wt T) _ _

/-- a tree within its limits -/
structure Valid (T : Tree) : Prop where
  len : T.length ≤ 10
  par : ∀ i, i < T.length → (nodeAt T i).parent ≤ i
  wt : ∀ i, i < T.length → (nodeAt T i).weight ≤ 99
theorem count_le {T : Tree} (V : Valid T) (m : Nat) : countOf T m ≤ 10 := by
  have h : (nodes T m).length ≤ (List.range T.length).length := List.length_filter_le ..
  rw [List.length_range] at h
  have := V.len
  rw [count_nodes]
  omega
theorem sum_le (f : Nat → Nat) (k : Nat) : ∀ l : List Nat, (∀ i ∈ l, f i ≤ k) → (l.map f).sum ≤ k * l.length
  | [], _ => Nat.zero_le _
  | a :: r, h => by
    have h1 := h a (List.mem_cons_self ..)
    have h2 := sum_le f k r fun i hi => h i (List.mem_cons_of_mem _ hi)
    rw [List.map_cons, List.sum_cons, List.length_cons, Nat.mul_add, Nat.mul_one]
    omega
theorem weight_le {T : Tree} (V : Valid T) (m : Nat) : weightOf T m ≤ 990 := by
  have h := sum_le (wt T) 99 (nodes T m) fun i hi => V.wt i (mem_nodes.mp hi).1
  have h2 := count_le V m
  rw [count_nodes] at h2
  rw [weight_nodes]
  omega

/-! ### reading a tree -/
def pre (l : List Nat) (n : Nat) : Tree := (List.range n).map fun i => ⟨l.getD (2 * i) 0, l.getD (2 * i + 1) 0⟩
theorem pre_length (l : List Nat) (n : Nat) : (pre l n).length = n := by
  unfold pre
  rw [List.length_map, List.length_range]
theorem pre_more (l : List Nat) (n : Nat) : pre l (n + 1) = pre l n ++ [⟨l.getD (2 * n) 0, l.getD (2 * n + 1) 0⟩] := by
  unfold pre
  rw [List.range_succ, List.map_append]
  rfl
theorem pre_cons (a b : Nat) (r : List Nat) (n : Nat) : pre (a :: b :: r) (n + 1) = ⟨a, b⟩ :: pre r n := by
  unfold pre
  rw [List.range_succ_eq_map, List.map_cons, List.map_map]
  rfl
theorem parse_some : ∀ (n k : Nat) (l : List Nat), l.length = 2 * n → (∀ i, i < n → l.getD (2 * i) 0 ≤ k + i ∧ l.getD (2 * i + 1) 0 ≤ 99) → parseTree k l = some (pre l n)
  | 0, k, [], _, _ => by
    unfold parseTree
    rfl
  | 0, k, _ :: _, h, _ => by simp at h
  | n + 1, k, [], h, _ => by simp at h
  | n + 1, k, [a], h, _ => by simp at h; omega
  | n + 1, k, a :: b :: r, h, hok => by
    have h0 := hok 0 (Nat.succ_pos _)
    have ha : a ≤ k := h0.1
    have hb : b ≤ 99 := h0.2
    have hr : r.length = 2 * n := by simp at h; omega
    have ih := parse_some n (k + 1) r hr fun i hi => by
      have z := hok (i + 1) (Nat.succ_lt_succ hi)
      have e1 : (a :: b :: r).getD (2 * (i + 1)) 0 = r.getD (2 * i) 0 := rfl
      have e2 : (a :: b :: r).getD (2 * (i + 1) + 1) 0 = r.getD (2 * i + 1) 0 := rfl
      rw [e1, e2] at z
      exact ⟨by omega, z.2⟩
    unfold parseTree
    rw [if_neg (by omega), ih, pre_cons]
    rfl
theorem parse_none : ∀ (n k : Nat) (l : List Nat) (i : Nat), l.length = 2 * n → i < n → ¬ (l.getD (2 * i) 0 ≤ k + i ∧ l.getD (2 * i + 1) 0 ≤ 99) → parseTree k l = none
  | 0, k, _, i, _, hi, _ => absurd hi (Nat.not_lt_zero _)
  | n + 1, k, [], _, h, _, _ => by simp at h
  | n + 1, k, [a], _, h, _, _ => by simp at h; omega
  | n + 1, k, a :: b :: r, 0, h, _, hok => by
    have z : ¬ (a ≤ k ∧ b ≤ 99) := hok
    unfold parseTree
    rw [if_pos (by omega)]
  | n + 1, k, a :: b :: r, i + 1, h, hi, hok => by
    have hr : r.length = 2 * n := by simp at h; omega
    have ih := parse_none n (k + 1) r i hr (Nat.lt_of_succ_lt_succ hi) fun z => hok ⟨by
      have e1 : (a :: b :: r).getD (2 * (i + 1)) 0 = r.getD (2 * i) 0 := rfl
      rw [e1]
      have := z.1
      omega, z.2⟩
    unfold parseTree
    by_cases c : k < a ∨ 99 < b
    · rw [if_pos c]
    · rw [if_neg c, ih]
      rfl
theorem parse_odd : ∀ (n k : Nat) (l : List Nat), l.length = 2 * n + 1 → parseTree k l = none
  | _, k, [], h => by simp at h
  | _, k, [a], h => by
    unfold parseTree
    rfl
  | 0, k, a :: b :: r, h => by simp at h
  | n + 1, k, a :: b :: r, h => by
    have hr : r.length = 2 * n + 1 := by simp at h; omega
    have ih := parse_odd n (k + 1) r hr
    unfold parseTree
    by_cases c : k < a ∨ 99 < b
    · rw [if_pos c]
    · rw [if_neg c, ih]
      rfl
/-- the tree that a list tells, if it is within its limits -/
def treeOf (l : List Nat) : Option Tree := match parseTree 0 l with
  | none => none
  | some t => if maxNodes < t.length then none else some t
theorem withTree_is (l : List Nat) (c : Tree → Result) : withTree l c = match treeOf l with
    | none => number (-22)
    | some t => c t := by
  unfold withTree treeOf
  cases parseTree 0 l with
  | none => rfl
  | some t =>
    by_cases h : maxNodes < t.length
    · simp only [if_pos h]
    · simp only [if_neg h]
theorem treeOf_odd {l : List Nat} (h : l.length % 2 = 1) : treeOf l = none := by
  unfold treeOf
  rw [parse_odd (l.length / 2) 0 l (by omega)]
def okAt (l : List Nat) (i : Nat) : Prop := l.getD (2 * i) 0 ≤ i ∧ l.getD (2 * i + 1) 0 ≤ 99
theorem treeOf_none {l : List Nat} {n i : Nat} (h : l.length = 2 * n) (hi : i < n) (hok : ¬ okAt l i) : treeOf l = none := by
  unfold treeOf
  rw [parse_none n 0 l i h hi (fun z => hok ⟨by have := z.1; omega, z.2⟩)]
theorem treeOf_some {l : List Nat} {n : Nat} (h : l.length = 2 * n) (hn : n ≤ 10) (hok : ∀ i, i < n → okAt l i) : treeOf l = some (pre l n) := by
  unfold treeOf
  rw [parse_some n 0 l h fun i hi => ⟨by have := (hok i hi).1; omega, (hok i hi).2⟩]
  show (if maxNodes < (pre l n).length then none else some (pre l n)) = _
  rw [pre_length, if_neg (by unfold maxNodes; omega)]
theorem treeOf_long {l : List Nat} (h : 20 < l.length) : treeOf l = none := by
  by_cases e : l.length % 2 = 1
  · exact treeOf_odd e
  · have e2 : l.length = 2 * (l.length / 2) := by omega
    by_cases c : ∀ i, i < l.length / 2 → okAt l i
    · unfold treeOf
      rw [parse_some (l.length / 2) 0 l e2 fun i hi => ⟨by have := (c i hi).1; omega, (c i hi).2⟩]
      show (if maxNodes < (pre l (l.length / 2)).length then none else some (pre l (l.length / 2))) = _
      rw [pre_length, if_pos (by unfold maxNodes; omega)]
    · have : ∃ i, i < l.length / 2 ∧ ¬ okAt l i := by
        apply Classical.byContradiction
        intro z
        apply c
        intro i hi
        apply Classical.byContradiction
        intro y
        exact z ⟨i, hi, y⟩
      obtain ⟨i, hi, y⟩ := this
      exact treeOf_none e2 hi y
theorem pre_at {l : List Nat} {n i : Nat} (hi : i < n) : nodeAt (pre l n) i = ⟨l.getD (2 * i) 0, l.getD (2 * i + 1) 0⟩ := by
  unfold nodeAt
  rw [List.getD_eq_getElem?_getD]
  unfold pre
  rw [List.getElem?_map, List.getElem?_range hi]
  rfl
theorem pre_valid {l : List Nat} {n : Nat} (hn : n ≤ 10) (hok : ∀ i, i < n → okAt l i) : Valid (pre l n) := by
  refine ⟨by rw [pre_length]; exact hn, fun i hi => ?_, fun i hi => ?_⟩
  · rw [pre_length] at hi
    rw [pre_at hi]
    exact (hok i hi).1
  · rw [pre_length] at hi
    rw [pre_at hi]
    exact (hok i hi).2

/-! ### closed sets -/
/-- the parent of a node is in a set, or it is the root -/
def parOk (T : Tree) (m i : Nat) : Bool := match (nodeAt T i).parent with
  | 0 => true
  | p + 1 => m.testBit p
theorem closed_nodes (T : Tree) (m : Nat) : isClosed T m = (nodes T m).all (parOk T m) := by
  unfold nodes
  rw [List.all_filter]
  rfl
def sets (T : Tree) : List Nat := (List.range (2 ^ T.length)).filter (isClosed T)

/-! ### branches -/
/-- the parent of a node is in a set -/
def parIn (T : Tree) (b j : Nat) : Bool := match (nodeAt T j).parent with
  | 0 => false
  | p + 1 => b.testBit p
def brStep (T : Tree) (m i b j : Nat) : Nat := if (m.testBit j && (j == i || parIn T b j)) = true then b + 2 ^ j else b
/-- the branch among the first k nodes -/
def br (T : Tree) (m i k : Nat) : Nat := (List.range k).foldl (brStep T m i) 0
theorem br_all (T : Tree) (m i : Nat) : branchOf T m i = br T m i T.length := rfl
theorem br_more (T : Tree) (m i k : Nat) : br T m i (k + 1) = brStep T m i (br T m i k) k := by
  unfold br
  rw [List.range_succ, List.foldl_append]
  rfl
theorem parIn_zero (T : Tree) (j : Nat) : parIn T 0 j = false := by
  unfold parIn
  cases (nodeAt T j).parent with
  | zero => rfl
  | succ p => exact Nat.zero_testBit p
theorem br_low (T : Tree) (m i : Nat) : ∀ k, k ≤ i → br T m i k = 0
  | 0, _ => rfl
  | k + 1, h => by
    rw [br_more, br_low T m i k (by omega)]
    unfold brStep
    rw [parIn_zero]
    have e : (k == i) = false := by simp; omega
    rw [e]
    simp
theorem br_top {T : Tree} {m i : Nat} (h : m.testBit i = true) : br T m i (i + 1) = 2 ^ i := by
  rw [br_more, br_low T m i i (Nat.le_refl _)]
  unfold brStep
  rw [h]
  simp
theorem br_on {T : Tree} {m i k : Nat} (h : i < k) : br T m i (k + 1) = if (m.testBit k && parIn T (br T m i k) k) = true then br T m i k + 2 ^ k else br T m i k := by
  rw [br_more]
  unfold brStep
  have e : (k == i) = false := by simp; omega
  rw [e, Bool.false_or]
theorem bit_add {b k : Nat} (h : b < 2 ^ k) (j : Nat) : (b + 2 ^ k).testBit j = (decide (j = k) || b.testBit j) := by
  rw [Nat.add_comm]
  rcases Nat.lt_trichotomy j k with c | c | c
  · rw [Nat.testBit_two_pow_add_gt c, decide_eq_false (by omega), Bool.false_or]
  · subst c
    rw [Nat.testBit_two_pow_add_eq, Nat.testBit_lt_two_pow h, decide_eq_true rfl]
    rfl
  · rw [decide_eq_false (by omega), Bool.false_or]
    have h1 : 2 ^ k + b < 2 ^ (k + 1) := by rw [Nat.pow_succ]; omega
    have h2 : 2 ^ (k + 1) ≤ 2 ^ j := Nat.pow_le_pow_right (by decide) c
    have h3 : 2 ^ k ≤ 2 ^ j := Nat.pow_le_pow_right (by decide) (by omega)
    rw [Nat.testBit_lt_two_pow (by omega), Nat.testBit_lt_two_pow (by omega)]
theorem br_bits (T : Tree) (m i : Nat) : ∀ k, br T m i k < 2 ^ k ∧ ∀ j, (br T m i k).testBit j = true → m.testBit j = true
  | 0 => ⟨Nat.one_pos, fun j h => by
      have : (0 : Nat).testBit j = true := h
      rw [Nat.zero_testBit] at this
      cases this⟩
  | k + 1 => by
    obtain ⟨h1, h2⟩ := br_bits T m i k
    rw [br_more]
    unfold brStep
    have hp : (2 : Nat) ^ (k + 1) = 2 ^ k + 2 ^ k := by rw [Nat.pow_succ]; omega
    by_cases c : (m.testBit k && (k == i || parIn T (br T m i k) k)) = true
    · rw [if_pos c]
      refine ⟨by omega, fun j hj => ?_⟩
      rw [bit_add h1] at hj
      by_cases e : j = k
      · subst e
        exact (Bool.and_eq_true_iff.mp c).1
      · rw [decide_eq_false e, Bool.false_or] at hj
        exact h2 j hj
    · rw [if_neg c]
      exact ⟨by omega, h2⟩
theorem br_keeps {T : Tree} {m i k j : Nat} (h : (br T m i k).testBit j = true) : (br T m i (k + 1)).testBit j = true := by
  rw [br_more]
  unfold brStep
  split
  · rw [bit_add (br_bits T m i k).1, h]
    simp
  · exact h
theorem br_has {T : Tree} {m i : Nat} (h : m.testBit i = true) : ∀ k, i < k → (br T m i k).testBit i = true
  | 0, c => absurd c (Nat.not_lt_zero _)
  | k + 1, c => by
    by_cases e : k = i
    · subst e
      rw [br_top h]
      exact Nat.testBit_two_pow_self
    · exact br_keeps (br_has h k (by omega))
/-- what is left when a part is taken away -/
theorem sub_bits : ∀ (m b : Nat), (∀ j, b.testBit j = true → m.testBit j = true) → b ≤ m ∧ ∀ j, (m - b).testBit j = (m.testBit j && !b.testBit j) := by
  intro m
  induction m using Nat.strongRecOn with
  | _ m ih =>
    intro b h
    by_cases hm : m = 0
    · subst hm
      have hb : b = 0 := by
        apply Nat.eq_of_testBit_eq
        intro j
        cases e : b.testBit j with
        | false => rw [Nat.zero_testBit]
        | true =>
          have := h j e
          rw [Nat.zero_testBit] at this
          cases this
      subst hb
      exact ⟨Nat.le_refl _, fun j => by simp⟩
    · have h0 := h 0
      have hd : ∀ j, (b / 2).testBit j = true → (m / 2).testBit j = true := fun j hj => by
        rw [← Nat.testBit_succ] at hj ⊢
        exact h (j + 1) hj
      obtain ⟨i1, i2⟩ := ih (m / 2) (by omega) (b / 2) hd
      rw [Nat.testBit_zero, Nat.testBit_zero] at h0
      have h0' : b % 2 = 1 → m % 2 = 1 := fun z => of_decide_eq_true (h0 (decide_eq_true z))
      have hle : b ≤ m := by
        have a1 := Nat.mod_two_eq_zero_or_one b
        have a2 := Nat.mod_two_eq_zero_or_one m
        omega
      refine ⟨hle, fun j => ?_⟩
      cases j with
      | zero =>
        rw [Nat.testBit_zero, Nat.testBit_zero, Nat.testBit_zero]
        have a1 := Nat.mod_two_eq_zero_or_one b
        have a2 := Nat.mod_two_eq_zero_or_one m
        rcases a1 with a1 | a1 <;> rcases a2 with a2 | a2
        · have : (m - b) % 2 = 0 := by omega
          rw [this, a1, a2]; rfl
        · have : (m - b) % 2 = 1 := by omega
          rw [this, a1, a2]; rfl
        · have := h0' a1; omega
        · have : (m - b) % 2 = 0 := by omega
          rw [this, a1, a2]; rfl
      | succ j =>
        rw [Nat.testBit_succ, Nat.testBit_succ, Nat.testBit_succ]
        have e : (m - b) / 2 = m / 2 - b / 2 := by
          have a1 := Nat.mod_two_eq_zero_or_one b
          have a2 := Nat.mod_two_eq_zero_or_one m
          omega
        rw [e]
        exact i2 j
theorem filter_split {p q : Nat → Bool} (h : ∀ i, q i = true → p i = true) : ∀ l : List Nat, (l.filter fun i => p i && !q i).length + (l.filter q).length = (l.filter p).length
  | [] => rfl
  | a :: r => by
    have ih := filter_split h r
    rw [List.filter_cons, List.filter_cons, List.filter_cons]
    cases ep : p a with
    | false =>
      have eq : q a = false := by
        cases e : q a with
        | false => rfl
        | true =>
          have := h a e
          rw [ep] at this
          cases this
      rw [eq]
      simpa using ih
    | true =>
      cases eq : q a with
      | false =>
        simp only [Bool.not_false, Bool.and_true, if_true, List.length_cons, Bool.false_eq_true, if_false]
        omega
      | true =>
        simp only [Bool.not_true, Bool.and_false, if_true, List.length_cons, Bool.false_eq_true, if_false]
        omega
theorem branch_le (T : Tree) (m i : Nat) : branchOf T m i ≤ m := (sub_bits m _ (br_bits T m i T.length).2).1
theorem count_sub (T : Tree) (m i : Nat) : countOf T (m - branchOf T m i) + countOf T (branchOf T m i) = countOf T m := by
  have h := (br_bits T m i T.length).2
  have e : countOf T (m - branchOf T m i) = ((List.range T.length).filter fun j => m.testBit j && !(branchOf T m i).testBit j).length := by
    unfold countOf
    congr 1
    apply List.filter_congr
    intro j _
    exact (sub_bits m _ h).2 j
  rw [e]
  exact filter_split h _
theorem branch_count {T : Tree} {m i : Nat} (h : m.testBit i = true) (hi : i < T.length) : 0 < countOf T (branchOf T m i) := by
  rw [count_nodes]
  exact List.length_pos_of_mem (mem_nodes.mpr ⟨hi, br_has h _ hi⟩)
theorem branch_pos {T : Tree} {m i : Nat} (h : m.testBit i = true) (hi : i < T.length) : 0 < branchOf T m i := by
  have z := br_has (T := T) h _ hi
  rw [← br_all] at z
  cases e : branchOf T m i with
  | zero =>
    rw [e, Nat.zero_testBit] at z
    cases z
  | succ k => exact Nat.succ_pos _
theorem branch_lt (T : Tree) (m i : Nat) : branchOf T m i < 2 ^ T.length := (br_bits T m i T.length).1

/-! ### the weakest link -/
def wkStep (T : Tree) (m : Nat) (best : Option Nat) (i : Nat) : Option Nat := match best with
  | none => some i
  | some j => if weightOf T (branchOf T m i) * countOf T (branchOf T m j) < weightOf T (branchOf T m j) * countOf T (branchOf T m i) then some i else some j
theorem weakest_is (T : Tree) (m : Nat) : weakestLink T m = (nodes T m).foldl (wkStep T m) none := rfl
/-- the loop's two numbers -/
def bestI : Option Nat → Int
  | none => -1
  | some j => (j : Int)
def leastN (T : Tree) (m : Nat) : Option Nat → Nat
  | none => 0
  | some j => branchOf T m j
theorem wk_mem (T : Tree) (m : Nat) : ∀ (l : List Nat) (o : Option Nat) (j : Nat), l.foldl (wkStep T m) o = some j → j ∈ l ∨ o = some j
  | [], o, j, h => .inr h
  | a :: r, o, j, h => by
    rcases wk_mem T m r (wkStep T m o a) j h with z | z
    · exact .inl (List.mem_cons_of_mem _ z)
    · unfold wkStep at z
      cases o with
      | none => exact .inl (by cases z; exact List.mem_cons_self ..)
      | some k =>
        dsimp only at z
        split at z
        · exact .inl (by cases z; exact List.mem_cons_self ..)
        · exact .inr z
theorem wk_some (T : Tree) (m : Nat) : ∀ (l : List Nat) (k : Nat), ∃ j, l.foldl (wkStep T m) (some k) = some j
  | [], k => ⟨k, rfl⟩
  | a :: r, k => by
    have e : wkStep T m (some k) a = some a ∨ wkStep T m (some k) a = some k := by
      unfold wkStep
      dsimp only
      split
      · exact .inl rfl
      · exact .inr rfl
    rw [List.foldl_cons]
    rcases e with e | e
    · rw [e]; exact wk_some T m r a
    · rw [e]; exact wk_some T m r k
theorem weakest_mem {T : Tree} {m i : Nat} (h : weakestLink T m = some i) : i < T.length ∧ m.testBit i = true := by
  rw [weakest_is] at h
  rcases wk_mem T m _ _ _ h with z | z
  · exact mem_nodes.mp z
  · cases z
theorem nodes_zero (T : Tree) : nodes T 0 = [] := by
  unfold nodes
  rw [List.filter_eq_nil_iff]
  intro i _ z
  rw [Nat.zero_testBit] at z
  cases z
theorem weakest_zero (T : Tree) : weakestLink T 0 = none := by
  rw [weakest_is, nodes_zero]
  rfl
theorem weakest_some {T : Tree} {m : Nat} (h0 : 0 < m) (h : m < 2 ^ T.length) : ∃ i, weakestLink T m = some i := by
  obtain ⟨i, hi⟩ := Nat.exists_testBit_of_ne_zero (show m ≠ 0 by omega)
  have hl : i < T.length := by
    apply Classical.byContradiction
    intro z
    have h3 : 2 ^ T.length ≤ 2 ^ i := Nat.pow_le_pow_right (by decide) (by omega)
    rw [Nat.testBit_lt_two_pow (by omega)] at hi
    cases hi
  have hm := mem_nodes.mpr ⟨hl, hi⟩
  rw [weakest_is]
  cases e : nodes T m with
  | nil =>
    rw [e] at hm
    cases hm
  | cons a r => exact wk_some T m r a

/-! ### the pruning sequence -/
def flat (s : List (Nat × Nat × Nat × Nat)) : List Int := s.flatMap fun x => [(x.1 : Int), (x.2.1 : Int), (x.2.2.1 : Int), (x.2.2.2 : Int)]
theorem flat_length : ∀ s : List (Nat × Nat × Nat × Nat), (flat s).length = 4 * s.length
  | [] => rfl
  | x :: r => by
    have ih := flat_length r
    unfold flat at ih ⊢
    rw [List.flatMap_cons, List.length_append, ih, List.length_cons]
    simp only [List.length_cons, List.length_nil]
    omega
theorem seq_le (T : Tree) : ∀ (f m : Nat), (pruningSequence T f m).length ≤ f
  | 0, m => by
    unfold pruningSequence
    exact Nat.le_refl _
  | f + 1, m => by
    unfold pruningSequence
    split
    · exact Nat.zero_le _
    · rw [List.length_cons]
      exact Nat.succ_le_succ (seq_le T f _)
theorem seq_zero (T : Tree) : ∀ f, pruningSequence T f 0 = []
  | 0 => by
    unfold pruningSequence
    rfl
  | f + 1 => by
    unfold pruningSequence
    rw [weakest_zero]
theorem seq_step {T : Tree} {f m i : Nat} (h : weakestLink T m = some i) : flat (pruningSequence T (f + 1) m) =
    [(i : Int), (weightOf T (branchOf T m i) : Int), (countOf T (branchOf T m i) : Int), ((m - branchOf T m i : Nat) : Int)] ++ flat (pruningSequence T f (m - branchOf T m i)) := by
  conv => lhs; unfold pruningSequence
  rw [h]
  rfl
def seqAll (T : Tree) : List Int := flat (pruningSequence T T.length (fullSet T))
theorem seqAll_le {T : Tree} (V : Valid T) : (seqAll T).length ≤ 40 := by
  have h := seq_le T T.length (fullSet T)
  have h2 := V.len
  unfold seqAll
  rw [flat_length]
  omega
theorem count_full_le (T : Tree) (m : Nat) : countOf T m ≤ T.length := by
  have h : (nodes T m).length ≤ (List.range T.length).length := List.length_filter_le ..
  rw [List.length_range] at h
  rw [count_nodes]
  exact h
/-- where the loop stands: what is found, and what is still to come -/
def SeqAt (T : Tree) (acc : List Int) (m : Nat) : Prop := m < 2 ^ T.length ∧ ∃ f, countOf T m ≤ f ∧ acc ++ flat (pruningSequence T f m) = seqAll T
theorem seqAt_start (T : Tree) : SeqAt T [] (fullSet T) := by
  refine ⟨?_, T.length, count_full_le T _, by rw [List.nil_append]; rfl⟩
  unfold fullSet
  have : 0 < 2 ^ T.length := Nat.pow_pos (by decide)
  omega
theorem seqAt_turn {T : Tree} {acc : List Int} {m i : Nat} (h : SeqAt T acc m) (hw : weakestLink T m = some i) :
    SeqAt T (acc ++ [(i : Int), (weightOf T (branchOf T m i) : Int), (countOf T (branchOf T m i) : Int), ((m - branchOf T m i : Nat) : Int)]) (m - branchOf T m i) := by
  obtain ⟨hm, f, hf, e⟩ := h
  obtain ⟨h1, h2⟩ := weakest_mem hw
  have c1 := count_sub T m i
  have c2 := branch_count h2 h1
  cases f with
  | zero => omega
  | succ f =>
    refine ⟨by omega, f, by omega, ?_⟩
    rw [seq_step hw] at e
    rw [List.append_assoc]
    exact e
theorem seqAt_end {T : Tree} {acc : List Int} (h : SeqAt T acc 0) : acc = seqAll T := by
  obtain ⟨_, f, _, e⟩ := h
  rw [seq_zero] at e
  rw [← e]
  exact (List.append_nil acc).symm
theorem seqAt_le {T : Tree} {acc : List Int} {m : Nat} (V : Valid T) (h : SeqAt T acc m) : acc.length ≤ 40 := by
  obtain ⟨_, f, _, e⟩ := h
  have z := seqAll_le V
  rw [← e, List.length_append] at z
  omega

/-! ### the best sets -/
def opStep (T : Tree) (p q best mask : Nat) : Nat := if isBetter T p q best mask = true then mask else best
theorem op_is (T : Tree) (p q : Nat) : optimalPruning T p q = (sets T).foldl (opStep T p q) 0 := rfl
def bwStep (T : Tree) (limit best mask : Nat) : Nat := if countOf T mask ≤ limit ∧ weightOf T best < weightOf T mask then mask else best
theorem bw_is (T : Tree) (limit : Nat) : bestWithLimit T limit = (sets T).foldl (bwStep T limit) 0 := by
  unfold bestWithLimit sets
  rw [List.foldl_filter, List.foldl_filter]
  congr 1
  funext b m
  unfold bwStep
  by_cases h1 : isClosed T m = true
  · rw [h1, Bool.true_and, if_pos rfl]
    by_cases h2 : countOf T m ≤ limit
    · rw [decide_eq_true h2, if_pos rfl]
      by_cases h3 : weightOf T b < weightOf T m
      · rw [if_pos h3, if_pos ⟨h2, h3⟩]
      · rw [if_neg h3, if_neg (fun z => h3 z.2)]
    · rw [decide_eq_false h2, if_neg Bool.false_ne_true, if_neg (fun z => h2 z.1)]
  · have h1' : isClosed T m = false := by simpa using h1
    rw [h1', Bool.false_and, if_neg Bool.false_ne_true, if_neg Bool.false_ne_true]
theorem fold_lt {T : Tree} {g : Nat → Nat → Nat} (hg : ∀ b m, g b m = m ∨ g b m = b) : ∀ (l : List Nat) (b : Nat), b < 2 ^ T.length → (∀ m ∈ l, m < 2 ^ T.length) → l.foldl g b < 2 ^ T.length
  | [], _, hb, _ => hb
  | a :: r, b, hb, h => by
    rw [List.foldl_cons]
    refine fold_lt hg r _ ?_ fun m hm => h m (List.mem_cons_of_mem _ hm)
    rcases hg b a with e | e
    · rw [e]; exact h a (List.mem_cons_self ..)
    · rw [e]; exact hb
theorem sets_lt {T : Tree} {m : Nat} (h : m ∈ sets T) : m < 2 ^ T.length := List.mem_range.mp (List.mem_filter.mp h).1
end WM

/-! The answers in plain words, for each of the seven functions. -/
namespace WM
open Ks592
def badCost (p q : Nat) : Prop := 999 < p ∨ q < 1 ∨ 99 < q
instance (p q : Nat) : Decidable (badCost p q) := by unfold badCost; infer_instance
def byTree (l : List Nat) (g : Tree → List Int) : List Int := match treeOf l with
  | none => [-22]
  | some T => g T
theorem byTree_none {l : List Nat} {g : Tree → List Int} (h : treeOf l = none) : byTree l g = [-22] := by
  unfold byTree
  rw [h]
theorem byTree_some {l : List Nat} {g : Tree → List Int} {T : Tree} (h : treeOf l = some T) : byTree l g = g T := by
  unfold byTree
  rw [h]
/-- a closed set is wanted -/
def onClosed (T : Tree) (m : Nat) (r : List Int) : List Int := if 2 ^ T.length ≤ m then [-22] else if isClosed T m = false then [-33] else r
theorem onClosed_far {T : Tree} {m : Nat} {r : List Int} (h : 2 ^ T.length ≤ m) : onClosed T m r = [-22] := if_pos h
theorem onClosed_open {T : Tree} {m : Nat} {r : List Int} (h : m < 2 ^ T.length) (c : isClosed T m = false) : onClosed T m r = [-33] := by
  unfold onClosed
  rw [if_neg (by omega), if_pos c]
theorem onClosed_ok {T : Tree} {m : Nat} {r : List Int} (h : m < 2 ^ T.length) (c : isClosed T m = true) : onClosed T m r = r := by
  unfold onClosed
  rw [if_neg (by omega), if_neg (by rw [c]; exact Bool.noConfusion)]
def ansOpt (p q : Nat) (l : List Nat) : List Int := byTree l fun T => if badCost p q then [-22] else [(countOf T (optimalPruning T p q) : Int), (optimalPruning T p q : Int), (weightOf T (optimalPruning T p q) : Int)]
def ansObj (p q m : Nat) (l : List Nat) : List Int := byTree l fun T => if badCost p q then [-22] else onClosed T m [0, objective T p q m]
def ansBranch (m i : Nat) (l : List Nat) : List Int := byTree l fun T => onClosed T m (if m.testBit i = false then [-2] else [(countOf T (branchOf T m i) : Int), (branchOf T m i : Int), (weightOf T (branchOf T m i) : Int)])
def wkAns (T : Tree) (m : Nat) : Option Nat → List Int
  | none => [-6]
  | some i => [(i : Int), (weightOf T (branchOf T m i) : Int), (countOf T (branchOf T m i) : Int)]
def ansWeakest (m : Nat) (l : List Nat) : List Int := byTree l fun T => onClosed T m (wkAns T m (weakestLink T m))
def ansSeq (l : List Nat) : List Int := byTree l fun T => ((pruningSequence T T.length (fullSet T)).length : Int) :: seqAll T
def ansLimit (n : Nat) (l : List Nat) : List Int := byTree l fun T => [(weightOf T (bestWithLimit T n) : Int), (bestWithLimit T n : Int)]
def ansCount (l : List Nat) : List Int := byTree l fun T => [((sets T).length : Int)]

def numsOf (r : Result) : List Int := r.value :: r.rest
theorem on_tree (l : List Nat) (c : Tree → Result) (g : Tree → List Int) (h : ∀ T, numsOf (c T) = g T) : numsOf (withTree l c) = byTree l g := by
  rw [withTree_is]
  cases e : treeOf l with
  | none => exact (byTree_none e).symm
  | some T => exact (h T).trans (byTree_some e).symm
theorem cost_is (p q : Nat) (f : Unit → Result) (r : List Int) (h : numsOf (f ()) = r) : numsOf (withCost p q f) = if badCost p q then [-22] else r := by
  unfold withCost
  by_cases c : badCost p q
  · rw [if_pos c, if_pos (show 999 < p ∨ q < 1 ∨ 99 < q from c)]
    rfl
  · rw [if_neg c, if_neg (show ¬ (999 < p ∨ q < 1 ∨ 99 < q) from c)]
    exact h
theorem closed_is (T : Tree) (m : Nat) (f : Unit → Result) (r : List Int) (h : numsOf (f ()) = r) : numsOf (withClosedSet T m f) = onClosed T m r := by
  unfold withClosedSet onClosed
  by_cases h1 : 2 ^ T.length ≤ m
  · rw [if_pos h1, if_pos h1]
    rfl
  · rw [if_neg h1, if_neg h1]
    by_cases h2 : isClosed T m = false
    · rw [if_pos h2, if_pos h2]
      rfl
    · rw [if_neg h2, if_neg h2]
      exact h
theorem opt_is (p q : Nat) (l : List Nat) : numsOf (answer (.optimalPruning p q l)) = ansOpt p q l := on_tree l _ _ fun T => cost_is p q _ _ rfl
theorem obj_is (p q m : Nat) (l : List Nat) : numsOf (answer (.objective p q m l)) = ansObj p q m l := on_tree l _ _ fun T => cost_is p q _ _ (closed_is T m _ _ rfl)
theorem branch_is (m i : Nat) (l : List Nat) : numsOf (answer (.branch m i l)) = ansBranch m i l := on_tree l _ _ fun T => closed_is T m _ _ (by
  show numsOf (if m.testBit i = false then _ else _) = _
  by_cases h : m.testBit i = false
  · rw [if_pos h, if_pos h]
    rfl
  · rw [if_neg h, if_neg h]
    rfl)
theorem link_is (m : Nat) (l : List Nat) : numsOf (answer (.weakestLink m l)) = ansWeakest m l := on_tree l _ _ fun T => closed_is T m _ _ (by
  show numsOf (match weakestLink T m with | none => number (-6) | some i => _) = _
  cases weakestLink T m with
  | none => rfl
  | some i => rfl)
theorem seq_is (l : List Nat) : numsOf (answer (.pruningSequence l)) = ansSeq l := on_tree l _ _ fun T => rfl
theorem limit_is (n : Nat) (l : List Nat) : numsOf (answer (.bestWithLimit n l)) = ansLimit n l := on_tree l _ _ fun T => rfl
theorem count_is (l : List Nat) : numsOf (answer (.countClosedSets l)) = ansCount l := on_tree l _ _ fun T => rfl
/-- the list of numbers of the cuts is four times as long as the cuts are many -/
theorem seqAll_four (T : Tree) : ((seqAll T).length : Int) / 4 = ((pruningSequence T T.length (fullSet T)).length : Int) := by
  unfold seqAll
  rw [flat_length]
  omega
end WM

namespace WM
theorem py_opt (p q : Int) (l : List Int) : PyKs592.optimal_pruning p q l = ansOpt p.toNat q.toNat (l.map Int.toNat) := opt_is _ _ _
theorem py_obj (p q m : Int) (l : List Int) : PyKs592.objective p q m l = ansObj p.toNat q.toNat m.toNat (l.map Int.toNat) := obj_is _ _ _ _
theorem py_branch (m i : Int) (l : List Int) : PyKs592.branch m i l = ansBranch m.toNat i.toNat (l.map Int.toNat) := branch_is _ _ _
theorem py_weakest (m : Int) (l : List Int) : PyKs592.weakest_link m l = ansWeakest m.toNat (l.map Int.toNat) := link_is _ _
theorem py_seq (l : List Int) : PyKs592.pruning_sequence l = ansSeq (l.map Int.toNat) := seq_is _
theorem py_limit (n : Int) (l : List Int) : PyKs592.best_with_limit n l = ansLimit n.toNat (l.map Int.toNat) := limit_is _ _
theorem py_count (l : List Int) : PyKs592.count_closed_sets l = ansCount (l.map Int.toNat) := count_is _
theorem nat_back : ∀ l : List Int, (∀ x ∈ l, 0 ≤ x) → (l.map Int.toNat).map (fun n : Nat => (n : Int)) = l
  | [], _ => rfl
  | a :: r, h => by
    rw [List.map_cons, List.map_cons, nat_back r fun x hx => h x (List.mem_cons_of_mem _ hx), Int.toNat_of_nonneg (h a (List.mem_cons_self ..))]
end WM

/-! Promises, readings and the pure theorems: no program text here. -/
namespace WR
open PySem PySem.Spec PyProof.Rows L2 WM

/-! ### words -/
theorem ifT {c : Bool} {A B : Prop} (hc : c = true) (h : A) : if c = true then A else B := by
  rw [if_pos hc]
  exact h
theorem ifF {c : Bool} {A B : Prop} (hc : c = false) (h : B) : if c = true then A else B := by
  rw [hc, if_neg Bool.false_ne_true]
  exact h
theorem lkHere {k : Str} {v : V} {r : List (Str × V)} : List.lookup k ((k, v) :: r) = some v := by
  have e : (k == k) = true := beq_self_eq_true k
  simp only [List.lookup, e]
theorem lkPast {k g : Str} {v : V} {r : List (Str × V)} (h : (k == g) = false) : List.lookup k ((g, v) :: r) = List.lookup k r := by
  simp only [List.lookup, h]
theorem putPast {f g : Str} {v x : V} {r : List (Str × V)} (h : ¬ g = f) : putF f v ((g, x) :: r) = (g, x) :: putF f v r := if_neg h
theorem sameNew {H : Hp} {p : Addr} {o : HO} (h : H p = none) : Same H (upd H p o) := fun b u e => by
  rw [upd_ne (ne_of_none e h)]
  exact e
theorem samePut {H H' : Hp} {p : Addr} {o : HO} (s : Same H H') (h : H p = none) : Same H (upd H' p o) := fun b u e => by
  rw [upd_ne (ne_of_none e h)]
  exact s b u e
theorem lt1000 {n : Nat} (h : n ≤ 1000) : n < sizeLine := Nat.lt_of_le_of_lt h (by decide)

/-! ### values -/
abbrev iv (n : Nat) : V := .int (n : Int)
abbrev ivs (l : List Nat) : List V := l.map iv
def powN : List Nat := [1, 2, 4, 8, 16, 32, 64, 128, 256, 512, 1024]
theorem powN_at : ∀ i, i < 11 → powN[i]? = some (2 ^ i) := by decide
theorem pow_at {i : Nat} (h : i ≤ 10) : atI (ivs powN) (i : Int) = some (iv (2 ^ i)) := atI_nat (by rw [List.getElem?_map, powN_at i (by omega)]; rfl)
theorem pow_le {i : Nat} (h : i ≤ 10) : 2 ^ i ≤ 1024 := Nat.pow_le_pow_right (by decide) h
def parL (T : Ks592.Tree) : List V := T.map fun n => V.int ((n.parent : Int) - 1)
def wtL (T : Ks592.Tree) : List V := T.map fun n => iv n.weight
theorem node_at {T : Ks592.Tree} {i : Nat} (h : i < T.length) : T[i]? = some (Ks592.nodeAt T i) := by
  unfold Ks592.nodeAt
  rw [List.getD_eq_getElem?_getD, List.getElem?_eq_getElem h]
  rfl
theorem par_at {T : Ks592.Tree} {i : Nat} (h : i < T.length) : atI (parL T) (i : Int) = some (.int (((Ks592.nodeAt T i).parent : Int) - 1)) := atI_nat (by
  unfold parL
  rw [List.getElem?_map, node_at h]
  rfl)
theorem wt_at {T : Ks592.Tree} {i : Nat} (h : i < T.length) : atI (wtL T) (i : Int) = some (iv (wt T i)) := atI_nat (by
  unfold wtL
  rw [List.getElem?_map, node_at h]
  rfl)
theorem ivs_app (a b : List Nat) : ivs (a ++ b) = ivs a ++ ivs b := List.map_append ..
theorem ivs_at {l : List Nat} {i : Nat} {x : V} (h : (ivs l)[i]? = some x) : ∃ z, l[i]? = some z ∧ x = iv z := by
  rw [List.getElem?_map] at h
  cases e : l[i]? with
  | none =>
    rw [e] at h
    cases h
  | some z =>
    rw [e] at h
    exact ⟨z, rfl, (Option.some.inj h).symm⟩

/-! ### the heap -/
def tF (pa wa : Addr) : List (Str × V) := [("parents", .ref pa), ("weights", .ref wa)]
theorem tF_par (pa wa : Addr) : (tF pa wa).lookup ("parents" : Str) = some (.ref pa) := lkHere
theorem tF_wt (pa wa : Addr) : (tF pa wa).lookup ("weights" : Str) = some (.ref wa) := (lkPast (by decide +kernel)).trans lkHere
theorem tF_no {m : Str} (pa wa : Addr) (h1 : (m == ("parents" : Str)) = false) (h2 : (m == ("weights" : Str)) = false) : (tF pa wa).lookup m = none := (lkPast h1).trans ((lkPast h2).trans rfl)
theorem tF_new (pa wa : Addr) : putF "weights" (.ref wa) (putF "parents" (.ref pa) []) = tF pa wa := (putPast (by decide +kernel)).trans rfl
def TreeAt (C : Addr) (H : Hp) (t : Addr) (T : Ks592.Tree) : Prop := ∃ dx pa wa, H t = some (.ins C dx (tF pa wa)) ∧ H pa = some (.lst (parL T)) ∧ H wa = some (.lst (wtL T))
theorem TreeAt.same {C : Addr} {H H' : Hp} {t : Addr} {T : Ks592.Tree} (h : TreeAt C H t T) (s : Same H H') : TreeAt C H' t T := by
  obtain ⟨dx, pa, wa, h1, h2, h3⟩ := h
  exact ⟨dx, pa, wa, s _ _ h1, s _ _ h2, s _ _ h3⟩
/-- what the top has written of the tree's class and of the powers -/
structure Txt (K : PySem.W.Frag) (C pw : Addr) : Prop where
  cl : Cls K C
  nP : NoAttr K C "parents"
  nW : NoAttr K C "weights"
  pT : ∀ H : Hp, SqT K H pw (ivs powN)

/-! ### promises -/
def spHas : Sp := fun vs H Q _ => ∃ m i : Nat, vs = [iv m, iv i] ∧ i ≤ 10 ∧ Q (.bl (m.testBit i)) H
def spInit (C : Addr) : Sp := fun vs H Q _ => ∃ p dx pa wa : Addr, vs = [.ref p, .ref pa, .ref wa] ∧ H p = some (.ins C dx []) ∧
  ∀ H' : Hp, H' p = some (.ins C dx (tF pa wa)) → (∀ b o, H b = some o → b ≠ p → H' b = some o) → Q .non H'
def spSize (C : Addr) : Sp := fun vs H Q _ => ∃ t T, vs = [.ref t] ∧ TreeAt C H t T ∧ Q (iv T.length) H
def spFull (C : Addr) : Sp := fun vs H Q _ => ∃ t T, vs = [.ref t] ∧ TreeAt C H t T ∧ Valid T ∧ Q (iv (Ks592.fullSet T)) H
def spNodes (C : Addr) : Sp := fun vs H Q _ => ∃ t T m, vs = [.ref t, iv m] ∧ TreeAt C H t T ∧ Valid T ∧
  ∀ (H' : Hp) (p : Addr), Same H H' → H' p = some (.lst (ivs (nodes T m))) → Q (.ref p) H'
def spNat (C : Addr) (f : Ks592.Tree → Nat → V) : Sp := fun vs H Q _ => ∃ t T m, vs = [.ref t, iv m] ∧ TreeAt C H t T ∧ Valid T ∧ ∀ H' : Hp, Same H H' → Q (f T m) H'
abbrev spWeight (C : Addr) : Sp := spNat C fun T m => iv (Ks592.weightOf T m)
abbrev spCount (C : Addr) : Sp := spNat C fun T m => iv (Ks592.countOf T m)
abbrev spClosed (C : Addr) : Sp := spNat C fun T m => .bl (Ks592.isClosed T m)
abbrev spWeakest (C : Addr) : Sp := spNat C fun T m => .int (bestI (Ks592.weakestLink T m))
def spSets (C : Addr) : Sp := fun vs H Q _ => ∃ t T, vs = [.ref t] ∧ TreeAt C H t T ∧ Valid T ∧
  ∀ (H' : Hp) (p : Addr), Same H H' → H' p = some (.lst (ivs (sets T))) → Q (.ref p) H'
def spBranch (C : Addr) : Sp := fun vs H Q _ => ∃ t T m i, vs = [.ref t, iv m, iv i] ∧ TreeAt C H t T ∧ Valid T ∧ i < T.length ∧ m.testBit i = true ∧
  ∀ H' : Hp, Same H H' → Q (iv (Ks592.branchOf T m i)) H'
def spValue (C : Addr) : Sp := fun vs H Q _ => ∃ (t : Addr) (T : Ks592.Tree) (m p q : Nat), vs = [.ref t, iv m, iv p, iv q] ∧ TreeAt C H t T ∧ Valid T ∧ p ≤ 999 ∧ q ≤ 99 ∧
  ∀ H' : Hp, Same H H' → Q (.int (Ks592.objective T p q m)) H'
def spBest (C : Addr) : Sp := fun vs H Q _ => ∃ (t : Addr) (T : Ks592.Tree) (p q : Nat), vs = [.ref t, iv p, iv q] ∧ TreeAt C H t T ∧ Valid T ∧ p ≤ 999 ∧ q ≤ 99 ∧
  ∀ H' : Hp, Same H H' → Q (iv (Ks592.optimalPruning T p q)) H'
abbrev spWithin (C : Addr) : Sp := spNat C fun T l => iv (Ks592.bestWithLimit T l)
def spCuts (C : Addr) : Sp := fun vs H Q _ => ∃ t T, vs = [.ref t] ∧ TreeAt C H t T ∧ Valid T ∧
  ∀ (H' : Hp) (p : Addr), Same H H' → H' p = some (.lst ((seqAll T).map V.int)) → Q (.ref p) H'
/-- the way of an error with a code -/
def ErrAt (E : XK) (R : Addr) (c : Int) (H : Hp) : Prop := ∀ (d : Addr) (H' : Hp), Same H H' → H' d = some (.xd [(("code" : Str), .int c)]) → E (.ref R) (some d) H'
theorem ErrAt.same {E : XK} {R : Addr} {c : Int} {H H1 : Hp} (h : ErrAt E R c H) (s : Same H H1) : ErrAt E R c H1 := fun d H' s' e => h d H' (s.trans s') e
def spXInit (R : Addr) : Sp := fun vs H Q _ => ∃ (a : Addr) (v : V), vs = [.ref a, v] ∧ H a = some (exo a R none) ∧
  ∀ dx, H dx = none → dx ≠ a → Q .non (upd (upd H dx (exd dx [(("code" : Str), v)])) a (exo a R (some dx)))
def spWant (R : Addr) : Sp := fun vs H Q E => ∃ (b : Bool) (c : Int), vs = [.bl b, .int c] ∧ (b = true → Q .non H) ∧ (b = false → ErrAt E R c H)
def spTreeOf (K : PySem.W.Frag) (C R : Addr) : Sp := fun vs H Q E => ∃ (a : Addr) (l : List Nat), vs = [.ref a] ∧ SqL K H a (ivs l) ∧ l.length ≤ 23 ∧
  (treeOf l = none → ErrAt E R (-22) H) ∧ ∀ T, treeOf l = some T → Valid T → ∀ (H' : Hp) (t : Addr), Same H H' → TreeAt C H' t T → Q (.ref t) H'
def CostOk (p q : Nat) : Prop := p ≤ 999 ∧ 1 ≤ q ∧ q ≤ 99
def spWantCost (R : Addr) : Sp := fun vs H Q E => ∃ p q : Nat, vs = [iv p, iv q] ∧ (CostOk p q → Q .non H) ∧ (¬ CostOk p q → ErrAt E R (-22) H)
def spWantClosed (C R : Addr) : Sp := fun vs H Q E => ∃ t T m, vs = [.ref t, iv m] ∧ TreeAt C H t T ∧ Valid T ∧ (2 ^ T.length ≤ m → ErrAt E R (-22) H) ∧
  (m < 2 ^ T.length → Ks592.isClosed T m = false → ErrAt E R (-33) H) ∧ (m < 2 ^ T.length → Ks592.isClosed T m = true → ∀ H' : Hp, Same H H' → Q .non H')

/-! ### readings in common -/
def rAdd : R2 := rI0 fun i j => .int (i + j)
def rSub : R2 := rI0 fun i j => .int (i - j)
def rMul : R2 := rI CMul fun i j => .int (i * j)
def rFdv : R2 := rI CDiv fun i j => .int (i / j)
def rMod : R2 := rI (fun _ j => 0 < j) fun i j => .int (i % j)
def rLt : R2 := rI0 fun i j => .bl (decide (i < j))
def rLe : R2 := rI0 fun i j => .bl (decide (i ≤ j))
def rGt : R2 := rI0 fun i j => .bl (decide (j < i))
def rGe : R2 := rI0 fun i j => .bl (decide (j ≤ i))
def rLen (K : PySem.W.Frag) : List V → Hp → VK → Prop := fun xs H Q => ∃ p ys, xs = [.ref p] ∧ (SqL K H p ys ∨ SqT K H p ys) ∧ Q (.int ys.length) H
def rNeg : V → Hp → VK → Prop := rU fun i => .int (-i)
/-- self.parents[n], self.weights[n], POWERS[n], self the object in slot o -/
def xPar (K : PySem.W.Frag) (o n : Nat) : TE := tOp (rIxL K) (tFld K (tVar o) "parents") (tVar n)
def xWt (K : PySem.W.Frag) (o n : Nat) : TE := tOp (rIxL K) (tFld K (tVar o) "weights") (tVar n)
def xPow (K : PySem.W.Frag) (pw : Addr) (tn : TE) : TE := tOp (rIxT K) (tC (.ref pw)) tn
/-- o.m(), o.m(x) -/
def xM0 (C : Addr) (m : Str) (sp : Sp) (o : Nat) : TE := tMeth C m sp [] E0 (tVar o) tNil
def xM1 (C : Addr) (m : Str) (sp : Sp) (o x : Nat) : TE := tMeth C m sp [] E0 (tVar o) (tCons (tVar x) tNil)
def xHas (ta tb : TE) : TE := tCall spHas [] E0 (tCons ta (tCons tb tNil))
section
variable {K : PySem.W.Frag} {C pw : Addr} {T : Ks592.Tree} {t : Addr} {σ : L2.St} {H : Hp} {Q : VK} {o n : Nat}
theorem at_par (X : Txt K C pw) (ho : σ[o]? = some (some (.ref t))) (hT : TreeAt C H t T) {i : Nat} (hn : σ[n]? = some (some (iv i))) (hi : i < T.length)
    (k0 : (Ks592.nodeAt T i).parent = 0 → Q (.int (-1)) H) (k1 : ∀ p, (Ks592.nodeAt T i).parent = p + 1 → Q (iv p) H) : xPar K o n σ H Q := by
  obtain ⟨dx, pa, wa, h1, h2, h3⟩ := hT
  refine ⟨_, ho, t, C, dx, _, _, rfl, h1, X.cl, X.nP, tF_par pa wa, _, hn, pa, _, _, _, rfl, rfl, SqL.of h2, par_at hi, ?_⟩
  cases e : (Ks592.nodeAt T i).parent with
  | zero => exact k0 e
  | succ p =>
    have e2 : ((p + 1 : Nat) : Int) - 1 = (p : Int) := by omega
    rw [e2]
    exact k1 p e
theorem at_wt (X : Txt K C pw) (ho : σ[o]? = some (some (.ref t))) (hT : TreeAt C H t T) {i : Nat} (hn : σ[n]? = some (some (iv i))) (hi : i < T.length) (k : Q (iv (wt T i)) H) : xWt K o n σ H Q := by
  obtain ⟨dx, pa, wa, h1, h2, h3⟩ := hT
  exact ⟨_, ho, t, C, dx, _, _, rfl, h1, X.cl, X.nW, tF_wt pa wa, _, hn, wa, _, _, _, rfl, rfl, SqL.of h3, wt_at hi, k⟩
/-- the names of methods are none of the fields' -/
def okM (m : Str) : Bool := !(m == ("parents" : Str)) && !(m == ("weights" : Str))
theorem okM_no {m : Str} (h : okM m = true) (pa wa : Addr) : (tF pa wa).lookup m = none := by
  unfold okM at h
  rw [Bool.and_eq_true, Bool.not_eq_true', Bool.not_eq_true'] at h
  exact tF_no pa wa h.1 h.2
theorem at_m0 {m : Str} {sp : Sp} (hm : okM m = true) (ho : σ[o]? = some (some (.ref t))) (hT : TreeAt C H t T) (h : sp [.ref t] H Q E0) : xM0 C m sp o σ H Q := by
  obtain ⟨dx, pa, wa, h1, h2, h3⟩ := hT
  exact ⟨_, ho, t, dx, _, rfl, h1, okM_no hm pa wa, h⟩
theorem at_m1 {m : Str} {sp : Sp} {x : Nat} {v : V} (hm : okM m = true) (ho : σ[o]? = some (some (.ref t))) (hT : TreeAt C H t T) (hx : σ[x]? = some (some v)) (h : sp [.ref t, v] H Q E0) : xM1 C m sp o x σ H Q := by
  obtain ⟨dx, pa, wa, h1, h2, h3⟩ := hT
  exact ⟨_, ho, t, dx, _, rfl, h1, okM_no hm pa wa, _, hx, h⟩
end

/-! ### the bodies' readings and their pure theorems -/
section
variable {K : PySem.W.Frag} {C pw R : Addr}

/-- has_node: return mask // POWERS[node] % 2 == 1 -/
def t_has (K : PySem.W.Frag) (pw : Addr) : TS := tRet (tOp rEq (tOp rMod (tOp rFdv (tVar 0) (xPow K pw (tVar 1))) (tC (.int 2))) (tC (.int 1)))
theorem bit_is (m i : Nat) : decide (V.int ((m : Int) / ((2 ^ i : Nat) : Int) % 2) = V.int 1) = m.testBit i := by
  rw [Nat.testBit_eq_decide_div_mod_eq]
  have e : (m : Int) / ((2 ^ i : Nat) : Int) % 2 = ((m / 2 ^ i % 2 : Nat) : Int) := by
    rw [Int.natCast_emod, Int.natCast_ediv]
    rfl
  rw [e]
  by_cases h : m / 2 ^ i % 2 = 1
  · rw [h]
    rfl
  · rw [decide_eq_false h, decide_eq_false]
    intro z
    injection z with z
    omega
theorem pure_has (X : Txt K C pw) (vs : List V) (H : Hp) (Q : VK) (E : XK) (h : spHas vs H Q E) : t_has K pw { nx := fun _ H' => Q .non H', rt := Q } (start ["mask", "node"] vs) H := by
  obtain ⟨m, i, rfl, hi, k⟩ := h
  have h1 : 0 < 2 ^ i := Nat.pow_pos (by decide)
  have h2 := pow_le hi
  refine ⟨_, rfl, _, rfl, pw, _, _, _, rfl, rfl, X.pT H, pow_at hi, _, _, rfl, rfl, ⟨by omega, by omega⟩, _, _, rfl, rfl, (by show (0 : Int) < 2; decide), rfl, ?_⟩
  show Q (.bl (decide (V.int ((m : Int) / ((2 ^ i : Nat) : Int) % 2) = V.int 1))) H
  rw [bit_is]
  exact k

/-- Tree.__init__ -/
def t_init (K : PySem.W.Frag) : TS := tSeq (sFld K (tVar 0) (tVar 1) "parents") (sFld K (tVar 0) (tVar 2) "weights")
theorem pure_init (X : Txt K C pw) (vs : List V) (H : Hp) (Q : VK) (E : XK) (h : spInit C vs H Q E) : t_init K { nx := fun _ H' => Q .non H', rt := Q } (start ["self", "parents", "weights"] vs) H := by
  obtain ⟨p, dx, pa, wa, rfl, hp, k⟩ := h
  refine ⟨_, rfl, _, rfl, p, C, dx, [], rfl, hp, X.cl, X.nP, (by show 0 < 1000; decide), ?_⟩
  refine ⟨_, rfl, _, rfl, p, C, dx, _, rfl, upd_same, X.cl, X.nW, (by show 1 < 1000; decide), ?_⟩
  exact k _ (Eq.trans upd_same (congrArg (fun q => some (HO.ins C dx q)) (tF_new pa wa))) fun b o e hb => by
    rw [upd_ne hb, upd_ne hb]
    exact e

/-- size: return len(self.parents) -/
def t_size (K : PySem.W.Frag) : TS := tRet (tCB (rLen K) (tCons (tFld K (tVar 0) "parents") tNil))
theorem pure_size (X : Txt K C pw) (vs : List V) (H : Hp) (Q : VK) (E : XK) (h : spSize C vs H Q E) : t_size K { nx := fun _ H' => Q .non H', rt := Q } (start ["self"] vs) H := by
  obtain ⟨t, T, rfl, hT, k⟩ := h
  obtain ⟨dx, pa, wa, h1, h2, h3⟩ := hT
  refine ⟨_, rfl, t, C, dx, _, _, rfl, h1, X.cl, X.nP, tF_par pa wa, pa, _, rfl, .inl (SqL.of h2), ?_⟩
  unfold parL
  rw [List.length_map]
  exact k

/-- full: return POWERS[self.size()] - 1 -/
def t_full (K : PySem.W.Frag) (C pw : Addr) : TS := tRet (tOp rSub (xPow K pw (xM0 C "size" (spSize C) 0)) (tC (.int 1)))
theorem pure_full (X : Txt K C pw) (vs : List V) (H : Hp) (Q : VK) (E : XK) (h : spFull C vs H Q E) : t_full K C pw { nx := fun _ H' => Q .non H', rt := Q } (start ["self"] vs) H := by
  obtain ⟨t, T, rfl, hT, hV, k⟩ := h
  refine at_m0 (t := t) (T := T) (by decide +kernel) rfl hT ⟨t, T, rfl, hT, pw, _, _, _, rfl, rfl, X.pT H, pow_at hV.len, _, _, rfl, rfl, ?_⟩
  have h1 : 0 < 2 ^ T.length := Nat.pow_pos (by decide)
  have e : ((2 ^ T.length : Nat) : Int) - 1 = ((Ks592.fullSet T : Nat) : Int) := by
    unfold Ks592.fullSet
    omega
  show Q (.int (((2 ^ T.length : Nat) : Int) - 1)) H
  rw [e]
  exact k

/-- nodes_in: return [node for node in range(self.size()) if has_node(mask, node)] (slots: self, mask, node) -/
def t_nodes (C : Addr) : TS := tRet (tLc (iRng1 (tCons (xM0 C "size" (spSize C) 0) tNil)) (gName 2) (tB (xHas (tVar 1) (tVar 2))) (tVar 2) [2])
theorem range_more (p : Nat → Bool) (i : Nat) : (List.range (i + 1)).filter p = (List.range i).filter p ++ if p i = true then [i] else [] := by
  rw [List.range_succ, List.filter_append, List.filter_cons, List.filter_nil]
theorem filter_len (p : Nat → Bool) (i : Nat) : ((List.range i).filter p).length ≤ i := by
  have h := List.length_filter_le p (List.range i)
  rw [List.length_range] at h
  exact h
theorem pure_nodes (vs : List V) (H : Hp) (Q : VK) (E : XK) (h : spNodes C vs H Q E) : t_nodes C { nx := fun _ H' => Q .non H', rt := Q } (start ["self", "mask", "node"] vs) H := by
  obtain ⟨t, T, m, rfl, hT, hV, k⟩ := h
  have hlen := hV.len
  refine at_m0 (t := t) (T := T) (by decide +kernel) rfl hT ⟨t, T, rfl, hT, (T.length : Int), rfl, by omega, by omega, ?_⟩
  intro D hD
  refine lc_range (lo := 0) (n := T.length) (Qd := fun H' => Q (.ref D) H') (fun i H' => Same H H' ∧ H' D = some (.lst (ivs ((List.range i).filter fun j => m.testBit j)))) ⟨sameNew hD, upd_same⟩ ?_ ?_
  · rintro i H' hi ⟨s1, hD1⟩
    rw [Int.zero_add]
    refine ⟨rfl, _, rfl, _, rfl, m, i, rfl, by omega, _, rfl, ?_⟩
    by_cases c : m.testBit i = true
    · refine ifT c ⟨_, rfl, _, hD1, lt1000 (by rw [List.length_map]; have := filter_len (fun j => m.testBit j) i; omega), samePut s1 hD, ?_⟩
      rw [upd_same, range_more, if_pos c, ivs_app]
      rfl
    · refine ifF (by simpa using c) ⟨s1, ?_⟩
      rw [range_more, if_neg c, List.append_nil]
      exact hD1
  · rintro H' ⟨s1, hD1⟩
    exact k H' D s1 hD1

/-- weight_of: return sum([self.weights[node] for node in self.nodes_in(mask)]) (slots: self, mask, node) -/
def t_weight (K : PySem.W.Frag) (C : Addr) : TS := tRet (tCB (rSum K) (tCons (tLc (iList K (xM1 C "nodes_in" (spNodes C) 0 1)) (gName 2) tYes (xWt K 0 2) [2]) tNil))
theorem sum_cast : ∀ l : List Nat, (l.map fun n : Nat => (n : Int)).sum = ((l.sum : Nat) : Int)
  | [] => rfl
  | a :: r => by
    rw [List.map_cons, List.sum_cons, List.sum_cons, sum_cast r]
    omega
theorem pure_weight (X : Txt K C pw) (vs : List V) (H : Hp) (Q : VK) (E : XK) (h : spWeight C vs H Q E) : t_weight K C { nx := fun _ H' => Q .non H', rt := Q } (start ["self", "mask", "node"] vs) H := by
  obtain ⟨t, T, m, rfl, hT, hV, k⟩ := h
  have hlen := hV.len
  refine at_m1 (t := t) (T := T) (by decide +kernel) rfl hT rfl ⟨t, T, m, rfl, hT, hV, fun H1 p s1 hp => ?_⟩
  refine ⟨p, rfl, ⟨_, SqL.of hp⟩, ?_⟩
  intro D hD
  refine lc_list (K := K) (a := p) (xs := ivs (nodes T m)) (fun i H' => Same H1 H' ∧ H' D = some (.lst (ivs (((nodes T m).take i).map (wt T))))) ⟨sameNew hD, upd_same⟩ (fun i H' _ s2 => s2.1.seq (SqL.of hp)) ?_ ?_
  · rintro i x H' hx ⟨s2, hD1⟩
    obtain ⟨z, hz, rfl⟩ := ivs_at hx
    have hm := mem_nodes.mp (List.mem_of_getElem? hz)
    refine ⟨rfl, ?_⟩
    show xWt K 0 2 _ _ _
    refine at_wt X rfl ((hT.same s1).same s2) rfl hm.1 ?_
    refine ⟨_, hD1, lt1000 ?_, samePut s2 hD, ?_⟩
    · rw [List.length_map, List.length_map, List.length_take]
      have h2 := count_le hV m
      rw [count_nodes] at h2
      omega
    · rw [upd_same, take_more hz, List.map_append, ivs_app]
      rfl
  · rintro H' ⟨s2, hD1⟩
    rw [List.length_map, List.take_length] at hD1
    refine ⟨D, ((nodes T m).map (wt T)).map (fun n : Nat => (n : Int)), rfl, SqL.of (by rw [hD1, List.map_map]; rfl), ?_⟩
    rw [sum_cast, ← weight_nodes]
    exact k H' (s1.trans s2)

/-- count_of: return len(self.nodes_in(mask)) -/
def t_count (K : PySem.W.Frag) (C : Addr) : TS := tRet (tCB (rLen K) (tCons (xM1 C "nodes_in" (spNodes C) 0 1) tNil))
theorem pure_count (vs : List V) (H : Hp) (Q : VK) (E : XK) (h : spCount C vs H Q E) : t_count K C { nx := fun _ H' => Q .non H', rt := Q } (start ["self", "mask"] vs) H := by
  obtain ⟨t, T, m, rfl, hT, hV, k⟩ := h
  refine at_m1 (t := t) (T := T) (by decide +kernel) rfl hT rfl ⟨t, T, m, rfl, hT, hV, fun H1 p s1 hp => ?_⟩
  refine ⟨p, _, rfl, .inl (SqL.of hp), ?_⟩
  rw [List.length_map, ← count_nodes]
  exact k H1 s1

/-- is_closed (slots: self, mask, node) -/
def c_open (K : PySem.W.Frag) : TT := tAnd (tTest (tOp rGe (xPar K 0 2) (tC (.int 0)))) (tNot (tB (xHas (tVar 1) (xPar K 0 2))))
def t_closed (K : PySem.W.Frag) (C : Addr) : TS := tSeq (tFor (iList K (xM1 C "nodes_in" (spNodes C) 0 1)) (gName 2) (tIfS (c_open K) (tRet (tC (.bl false))) tNext)) (tRet (tC (.bl true)))
theorem at_open (X : Txt K C pw) {T : Ks592.Tree} {t : Addr} {m z : Nat} {H : Hp} {Q : Bool → Hp → Prop} (hT : TreeAt C H t T) (hV : Valid T) (hz : z < T.length) (k : Q (!parOk T m z) H) : c_open K [some (.ref t), some (iv m), some (iv z)] H Q := by
  have hlen := hV.len
  have hp := hV.par z hz
  refine at_par X rfl hT rfl hz (fun e => ?_) (fun p e => ?_)
  · refine ⟨_, _, rfl, rfl, _, rfl, ifF (by decide) ?_⟩
    have e2 : parOk T m z = true := by unfold parOk; rw [e]
    rw [e2] at k
    exact k
  · refine ⟨_, _, rfl, rfl, _, rfl, ifT (decide_eq_true (by omega)) ?_⟩
    refine ⟨_, rfl, ?_⟩
    refine at_par X rfl hT rfl hz (fun e' => by rw [e] at e'; cases e') (fun p' e' => ?_)
    refine ⟨m, p', rfl, by rw [e'] at hp; omega, _, rfl, ?_⟩
    have e2 : parOk T m z = m.testBit p' := by unfold parOk; rw [e']
    rw [e2] at k
    exact k
theorem pure_closed (X : Txt K C pw) (vs : List V) (H : Hp) (Q : VK) (E : XK) (h : spClosed C vs H Q E) : t_closed K C { nx := fun _ H' => Q .non H', rt := Q } (start ["self", "mask", "node"] vs) H := by
  obtain ⟨t, T, m, rfl, hT, hV, k⟩ := h
  refine at_m1 (t := t) (T := T) (by decide +kernel) rfl hT rfl ⟨t, T, m, rfl, hT, hV, fun H1 p s1 hp => ?_⟩
  refine ⟨p, rfl, ⟨_, SqL.of hp⟩, for_list (K := K) (a := p) (xs := ivs (nodes T m)) (fun i σ H' => ∃ v : Option V, σ = [some (.ref t), some (iv m), v] ∧ Same H1 H' ∧ ((nodes T m).take i).all (parOk T m) = true)
    ⟨none, rfl, Same.refl _, rfl⟩ (fun i σ H' _ ⟨_, _, s2, _⟩ => s2.seq (SqL.of hp)) ?_ ?_⟩
  · rintro i x σ H' hx ⟨v, rfl, s2, hall⟩
    obtain ⟨z, hz, rfl⟩ := ivs_at hx
    have hm := List.mem_of_getElem? hz
    refine at_open (t := t) (T := T) (m := m) (z := z) X ((hT.same s1).same s2) hV (mem_nodes.mp hm).1 ?_
    cases e : parOk T m z with
    | true =>
      refine ⟨some (iv z), rfl, s2, ?_⟩
      rw [take_more hz, List.all_append, hall]
      show (parOk T m z && true) = true
      rw [e]
      rfl
    | false =>
      have e2 : Ks592.isClosed T m = false := by
        rw [closed_nodes, List.all_eq_false]
        exact ⟨z, hm, by rw [e]; exact Bool.false_ne_true⟩
      have k2 : Q (.bl (Ks592.isClosed T m)) H' := k H' (s1.trans s2)
      rw [e2] at k2
      exact k2
  · rintro σ H' ⟨v, rfl, s2, hall⟩
    rw [List.length_map, List.take_length, ← closed_nodes] at hall
    have k2 : Q (.bl (Ks592.isClosed T m)) H' := k H' (s1.trans s2)
    rw [hall] at k2
    exact k2

/-- closed_sets: return [mask for mask in range(POWERS[self.size()]) if self.is_closed(mask)] (slots: self, mask) -/
def t_sets (K : PySem.W.Frag) (C pw : Addr) : TS := tRet (tLc (iRng1 (tCons (xPow K pw (xM0 C "size" (spSize C) 0)) tNil)) (gName 1) (tB (xM1 C "is_closed" (spClosed C) 0 1)) (tVar 1) [1])
theorem pure_sets (X : Txt K C pw) (vs : List V) (H : Hp) (Q : VK) (E : XK) (h : spSets C vs H Q E) : t_sets K C pw { nx := fun _ H' => Q .non H', rt := Q } (start ["self", "mask"] vs) H := by
  obtain ⟨t, T, rfl, hT, hV, k⟩ := h
  have h2 := pow_le hV.len
  have h3 : (0 : Int) ≤ ((2 ^ T.length : Nat) : Int) := Int.natCast_nonneg _
  refine at_m0 (t := t) (T := T) (by decide +kernel) rfl hT ⟨t, T, rfl, hT, pw, _, _, _, rfl, rfl, X.pT H, pow_at hV.len, ((2 ^ T.length : Nat) : Int), rfl, by omega, by omega, ?_⟩
  intro D hD
  refine lc_range (lo := 0) (n := 2 ^ T.length) (Qd := fun H' => Q (.ref D) H') (fun i H' => Same H H' ∧ H' D = some (.lst (ivs ((List.range i).filter (Ks592.isClosed T))))) ⟨sameNew hD, upd_same⟩ ?_ ?_
  · rintro i H' hi ⟨s1, hD1⟩
    rw [Int.zero_add]
    refine ⟨rfl, ?_⟩
    refine at_m1 (t := t) (T := T) (by decide +kernel) rfl (hT.same s1) rfl ⟨t, T, i, rfl, hT.same s1, hV, fun H2 s2 => ⟨_, rfl, ?_⟩⟩
    have hD2 := s2 _ _ hD1
    have s3 := s1.trans s2
    by_cases c : Ks592.isClosed T i = true
    · refine ifT c ⟨_, rfl, _, hD2, ?_, samePut s3 hD, ?_⟩
      · rw [List.length_map]
        have := filter_len (Ks592.isClosed T) i
        exact Nat.lt_of_le_of_lt (show _ ≤ 1024 by omega) (by decide)
      · rw [upd_same, range_more, if_pos c, ivs_app]
        rfl
    · refine ifF (by simpa using c) ⟨s3, ?_⟩
      rw [range_more, if_neg c, List.append_nil]
      exact hD2
  · rintro H' ⟨s1, hD1⟩
    exact k H' D s1 hD1
end
end WR

/-! Promises, readings and the pure theorems, second part. -/
namespace WR
open PySem PySem.Spec PyProof.Rows L2 WM

def xM2 (C : Addr) (m : Str) (sp : Sp) (o x y : Nat) : TE := tMeth C m sp [] E0 (tVar o) (tCons (tVar x) (tCons (tVar y) tNil))
section
variable {C : Addr} {T : Ks592.Tree} {t : Addr} {σ : L2.St} {H : Hp} {Q : VK} {o : Nat}
theorem at_m2 {m : Str} {sp : Sp} {x y : Nat} {v w : V} (hm : okM m = true) (ho : σ[o]? = some (some (.ref t))) (hT : TreeAt C H t T) (hx : σ[x]? = some (some v)) (hy : σ[y]? = some (some w)) (h : sp [.ref t, v, w] H Q E0) : xM2 C m sp o x y σ H Q := by
  obtain ⟨dx, pa, wa, h1, h2, h3⟩ := hT
  exact ⟨_, ho, t, dx, _, rfl, h1, okM_no hm pa wa, _, hx, _, hy, h⟩
/-- a number of a set -/
theorem at_nat {m : Str} {f : Ks592.Tree → Nat → V} {x n : Nat} (hm : okM m = true) (ho : σ[o]? = some (some (.ref t))) (hT : TreeAt C H t T) (hV : Valid T) (hx : σ[x]? = some (some (iv n))) (k : ∀ H', Same H H' → Q (f T n) H') : xM1 C m (spNat C f) o x σ H Q :=
  at_m1 hm ho hT hx ⟨t, T, n, rfl, hT, hV, k⟩
end

section
variable {K : PySem.W.Frag} {C pw R : Addr}

/-! #### branch_of (slots: self, mask, top, found, node) -/
def c_br (K : PySem.W.Frag) : TT := tAnd (tB (xHas (tVar 1) (tVar 4))) (tAnd (tTest (tOp rGe (xPar K 0 4) (tC (.int 0)))) (tB (xHas (tVar 3) (xPar K 0 4))))
def t_branch (K : PySem.W.Frag) (C pw : Addr) : TS :=
  tSeq (tAsg (xPow K pw (tVar 2)) (gName 3))
    (tSeq (tFor (iRng2 (tCons (tOp rAdd (tVar 2) (tC (.int 1))) (tCons (xM0 C "size" (spSize C) 0) tNil))) (gName 4) (tIfS (c_br K) (tAug 3 (xPow K pw (tVar 4)) (ipI fun i j => i + j)) tNext))
    (tRet (tVar 3)))
theorem at_br (X : Txt K C pw) {T : Ks592.Tree} {t : Addr} {m i b z : Nat} {H : Hp} {Q : Bool → Hp → Prop} (hT : TreeAt C H t T) (hV : Valid T) (hz : z < T.length) (k : Q (m.testBit z && parIn T b z) H) :
    c_br K [some (.ref t), some (iv m), some (iv i), some (iv b), some (iv z)] H Q := by
  have hlen := hV.len
  have hp := hV.par z hz
  refine ⟨_, rfl, _, rfl, m, z, rfl, by omega, _, rfl, ?_⟩
  cases c : m.testBit z with
  | false =>
    rw [c] at k
    exact k
  | true =>
    rw [c, Bool.true_and] at k
    refine ifT rfl ?_
    refine at_par X rfl hT rfl hz (fun e => ?_) (fun p e => ?_)
    · refine ⟨_, _, rfl, rfl, _, rfl, ifF (by decide) ?_⟩
      have e2 : parIn T b z = false := by unfold parIn; rw [e]
      rw [e2] at k
      exact k
    · refine ⟨_, _, rfl, rfl, _, rfl, ifT (decide_eq_true (by omega)) ?_⟩
      refine ⟨_, rfl, ?_⟩
      refine at_par X rfl hT rfl hz (fun e' => by rw [e] at e'; cases e') (fun p' e' => ?_)
      refine ⟨b, p', rfl, by rw [e'] at hp; omega, _, rfl, ?_⟩
      have e2 : parIn T b z = b.testBit p' := by unfold parIn; rw [e']
      rw [e2] at k
      exact k
theorem pure_branch (X : Txt K C pw) (vs : List V) (H : Hp) (Q : VK) (E : XK) (h : spBranch C vs H Q E) : t_branch K C pw { nx := fun _ H' => Q .non H', rt := Q } (start ["self", "mask", "top", "found", "node"] vs) H := by
  obtain ⟨t, T, m, i, rfl, hT, hV, hi, hb, k⟩ := h
  have hlen := hV.len
  refine ⟨_, rfl, pw, _, _, _, rfl, rfl, X.pT H, pow_at (by omega), ?_⟩
  refine ⟨_, rfl, _, _, rfl, rfl, ?_⟩
  refine at_m0 (t := t) (T := T) (by decide +kernel) rfl hT ⟨t, T, rfl, hT, (i : Int) + 1, (T.length : Int), rfl, ⟨by omega, by omega, by omega, by omega⟩, ?_⟩
  refine for_range (lo := (i : Int) + 1) (fun j σ H' => H' = H ∧ ∃ v : Option V, σ = [some (.ref t), some (iv m), some (iv i), some (iv (br T m i (i + 1 + j))), v]) ⟨rfl, none, by rw [Nat.add_zero, br_top hb]; rfl⟩ ?_ ?_
  · rintro j σ H' hj ⟨rfl, v, rfl⟩
    have hz : i + 1 + j < T.length := by omega
    have e2 : (i : Int) + 1 + (j : Int) = ((i + 1 + j : Nat) : Int) := by omega
    rw [e2]
    refine at_br (t := t) (T := T) (m := m) (i := i) (z := i + 1 + j) X hT hV hz ?_
    have e3 := br_on (T := T) (m := m) (i := i) (k := i + 1 + j) (by omega)
    cases c : (m.testBit (i + 1 + j) && parIn T (br T m i (i + 1 + j)) (i + 1 + j)) with
    | true =>
      rw [if_pos c] at e3
      refine ifT rfl ?_
      refine ⟨_, rfl, _, rfl, pw, _, _, _, rfl, rfl, X.pT H', pow_at (by omega), _, _, rfl, rfl, rfl, some (iv (i + 1 + j)), ?_⟩
      rw [show i + 1 + (j + 1) = i + 1 + j + 1 from rfl, e3]
      rfl
    | false =>
      rw [if_neg (by rw [c]; exact Bool.false_ne_true)] at e3
      refine ⟨rfl, some (iv (i + 1 + j)), ?_⟩
      rw [show i + 1 + (j + 1) = i + 1 + j + 1 from rfl, e3]
      rfl
  · rintro σ H' ⟨rfl, v, rfl⟩
    refine ⟨_, rfl, ?_⟩
    have e : i + 1 + ((T.length : Int) - ((i : Int) + 1)).toNat = T.length := by omega
    rw [e]
    exact k _ (Same.refl _)

/-! #### weakest (slots: self, mask, best, least, node, own) -/
def c_wk (C : Addr) : TT := tOr (tTest (tOp rLt (tVar 2) (tC (.int 0)))) (tTest (tOp rLt (tOp rMul (xM1 C "weight_of" (spWeight C) 0 5) (xM1 C "count_of" (spCount C) 0 3)) (tOp rMul (xM1 C "weight_of" (spWeight C) 0 3) (xM1 C "count_of" (spCount C) 0 5))))
def t_weakest (K : PySem.W.Frag) (C : Addr) : TS :=
  tSeq (tAsg (tTup (tCons (tUn rNeg (tC (.int 1))) (tCons (tC (.int 0)) tNil))) (gTup K 2 (gCons (gName 2) (gCons (gName 3) gNil))))
    (tSeq (tFor (iList K (xM1 C "nodes_in" (spNodes C) 0 1)) (gName 4) (tSeq (tAsg (xM2 C "branch_of" (spBranch C) 0 1 4) (gName 5)) (tIfS (c_wk C) (tPar 2 3 (tCons (tVar 4) (tCons (tVar 5) tNil))) tNext)))
    (tRet (tVar 2)))
def wkB (T : Ks592.Tree) (m : Nat) (o : Option Nat) (z : Nat) : Bool := match o with
  | none => true
  | some j => decide (Ks592.weightOf T (Ks592.branchOf T m z) * Ks592.countOf T (Ks592.branchOf T m j) < Ks592.weightOf T (Ks592.branchOf T m j) * Ks592.countOf T (Ks592.branchOf T m z))
theorem wkB_step (T : Ks592.Tree) (m : Nat) (o : Option Nat) (z : Nat) : wkStep T m o z = if wkB T m o z = true then some z else o := by
  unfold wkStep wkB
  cases o with
  | none => rfl
  | some j =>
    dsimp only
    split
    · rename_i h
      rw [if_pos (decide_eq_true h)]
    · rename_i h
      rw [if_neg (by simpa using h)]
theorem cast_lt (a b c d : Nat) : decide ((a : Int) * (b : Int) < (c : Int) * (d : Int)) = decide (a * b < c * d) := by
  rw [← Int.natCast_mul, ← Int.natCast_mul]
  by_cases h : a * b < c * d
  · rw [decide_eq_true h, decide_eq_true (Int.ofNat_lt.mpr h)]
  · rw [decide_eq_false h, decide_eq_false (fun z => h (Int.ofNat_lt.mp z))]
theorem mulOk {n : Nat} (h : n ≤ 1000000) (j : Int) : CMul (n : Int) j := .inl ⟨by omega, by omega⟩
theorem at_wk {T : Ks592.Tree} {t : Addr} {m z : Nat} {o : Option Nat} {H : Hp} {Q : Bool → Hp → Prop} (hT : TreeAt C H t T) (hV : Valid T) (k : ∀ H', Same H H' → Q (wkB T m o z) H') :
    c_wk C [some (.ref t), some (iv m), some (.int (bestI o)), some (iv (leastN T m o)), some (iv z), some (iv (Ks592.branchOf T m z))] H Q := by
  refine ⟨_, rfl, _, _, rfl, rfl, _, rfl, ?_⟩
  cases o with
  | none => exact ifT (by decide) (k H (Same.refl _))
  | some j =>
    refine ifF (decide_eq_false (by show ¬ ((j : Int) < 0); omega)) ?_
    refine at_nat (t := t) (T := T) (n := Ks592.branchOf T m z) (by decide +kernel) rfl hT hV rfl fun H1 s1 => ?_
    refine at_nat (t := t) (T := T) (n := Ks592.branchOf T m j) (by decide +kernel) rfl (hT.same s1) hV rfl fun H2 s2 => ?_
    have w1 := weight_le hV (Ks592.branchOf T m z)
    have w2 := weight_le hV (Ks592.branchOf T m j)
    refine ⟨_, _, rfl, rfl, mulOk (by omega) _, ?_⟩
    refine at_nat (t := t) (T := T) (n := Ks592.branchOf T m j) (by decide +kernel) rfl ((hT.same s1).same s2) hV rfl fun H3 s3 => ?_
    refine at_nat (t := t) (T := T) (n := Ks592.branchOf T m z) (by decide +kernel) rfl (((hT.same s1).same s2).same s3) hV rfl fun H4 s4 => ?_
    refine ⟨_, _, rfl, rfl, mulOk (by omega) _, _, _, rfl, rfl, _, rfl, ?_⟩
    have q := k H4 (((s1.trans s2).trans s3).trans s4)
    unfold wkB at q
    dsimp only at q
    rw [← cast_lt] at q
    exact q
theorem pure_weakest (vs : List V) (H : Hp) (Q : VK) (E : XK) (h : spWeakest C vs H Q E) : t_weakest K C { nx := fun _ H' => Q .non H', rt := Q } (start ["self", "mask", "best", "least", "node", "own"] vs) H := by
  obtain ⟨t, T, m, rfl, hT0, hV, k⟩ := h
  refine ⟨_, rfl, (by show 2 ≤ sizeLine; decide), fun p0 hp0 => ⟨p0, _, rfl, SqT.of upd_same, rfl, _, _, rfl, _, _, rfl, rfl, ?_⟩⟩
  have hT := hT0.same (sameNew (o := .tup [.int (-1), .int 0]) hp0)
  refine at_m1 (t := t) (T := T) (by decide +kernel) rfl hT rfl ⟨t, T, m, rfl, hT, hV, fun H1 p s1 hp => ?_⟩
  refine ⟨p, rfl, ⟨_, SqL.of hp⟩, for_list (K := K) (a := p) (xs := ivs (nodes T m)) (fun i σ H' => ∃ v w : Option V, σ = [some (.ref t), some (iv m), some (.int (bestI (((nodes T m).take i).foldl (wkStep T m) none))), some (iv (leastN T m (((nodes T m).take i).foldl (wkStep T m) none))), v, w] ∧ Same H1 H')
    ⟨none, none, rfl, Same.refl _⟩ (fun i σ H' _ ⟨_, _, _, s2⟩ => s2.seq (SqL.of hp)) ?_ ?_⟩
  · rintro i x σ H' hx ⟨v, w, rfl, s2⟩
    obtain ⟨z, hz, rfl⟩ := ivs_at hx
    have hm := mem_nodes.mp (List.mem_of_getElem? hz)
    have hT2 := (hT.same s1).same s2
    refine at_m2 (t := t) (T := T) (by decide +kernel) rfl hT2 rfl rfl ⟨t, T, m, z, rfl, hT2, hV, hm.1, hm.2, fun H2 s3 => ?_⟩
    refine at_wk (t := t) (T := T) (m := m) (z := z) (hT2.same s3) hV fun H3 s4 => ?_
    have s5 := (s2.trans s3).trans s4
    have e := wkB_step T m (((nodes T m).take i).foldl (wkStep T m) none) z
    have e0 : ((nodes T m).take (i + 1)).foldl (wkStep T m) none = wkStep T m (((nodes T m).take i).foldl (wkStep T m) none) z := by
      rw [take_more hz, List.foldl_append]
      rfl
    rw [e] at e0
    cases c : wkB T m (((nodes T m).take i).foldl (wkStep T m) none) z with
    | true =>
      rw [c, if_pos rfl] at e0
      refine ifT rfl ?_
      refine ⟨_, rfl, _, rfl, _, _, rfl, some (iv z), some (iv (Ks592.branchOf T m z)), ?_, s5⟩
      rw [e0]
      rfl
    | false =>
      rw [c, if_neg Bool.false_ne_true] at e0
      refine ⟨some (iv z), some (iv (Ks592.branchOf T m z)), ?_, s5⟩
      rw [e0]
      rfl
  · rintro σ H' ⟨v, w, rfl, s2⟩
    rw [List.length_map, List.take_length, ← weakest_is]
    exact ⟨_, rfl, k H' ((sameNew hp0).trans (s1.trans s2))⟩

/-! #### value_of (slots: tree, mask, p, q) -/
def t_value (C : Addr) : TS := tRet (tOp rSub (tOp rMul (tVar 3) (xM1 C "weight_of" (spWeight C) 0 1)) (tOp rMul (tVar 2) (xM1 C "count_of" (spCount C) 0 1)))
theorem pure_value (vs : List V) (H : Hp) (Q : VK) (E : XK) (h : spValue C vs H Q E) : t_value C { nx := fun _ H' => Q .non H', rt := Q } (start ["tree", "mask", "p", "q"] vs) H := by
  obtain ⟨t, T, m, p, q, rfl, hT, hV, hp, hq, k⟩ := h
  refine ⟨_, rfl, ?_⟩
  refine at_nat (t := t) (T := T) (n := m) (by decide +kernel) rfl hT hV rfl fun H1 s1 => ?_
  refine ⟨_, _, rfl, rfl, mulOk (by omega) _, _, rfl, ?_⟩
  refine at_nat (t := t) (T := T) (n := m) (by decide +kernel) rfl (hT.same s1) hV rfl fun H2 s2 => ?_
  refine ⟨_, _, rfl, rfl, mulOk (by omega) _, _, _, rfl, rfl, ?_⟩
  exact k H2 (s1.trans s2)

/-! #### best_mask (slots: tree, p, q, best, mask, more) -/
def xVal (C : Addr) (m : Nat) : TE := tCall (spValue C) [] E0 (tCons (tVar 0) (tCons (tVar m) (tCons (tVar 1) (tCons (tVar 2) tNil))))
def c_op (C : Addr) : TT := tOr (tTest (tOp rGt (tVar 5) (tC (.int 0)))) (tAnd (tTest (tOp rEq (tVar 5) (tC (.int 0)))) (tTest (tOp rLt (xM1 C "count_of" (spCount C) 0 4) (xM1 C "count_of" (spCount C) 0 3))))
def t_best (K : PySem.W.Frag) (C : Addr) : TS :=
  tSeq (tAsg (tC (.int 0)) (gName 3))
    (tSeq (tFor (iList K (xM0 C "closed_sets" (spSets C) 0)) (gName 4) (tSeq (tAsg (tOp rSub (xVal C 4) (xVal C 3)) (gName 5)) (tIfS (c_op C) (tAsg (tVar 4) (gName 3)) tNext)))
    (tRet (tVar 3)))
theorem better_is (T : Ks592.Tree) (p q b m : Nat) : Ks592.isBetter T p q b m = (decide (0 < Ks592.objective T p q m - Ks592.objective T p q b) || (decide (V.int (Ks592.objective T p q m - Ks592.objective T p q b) = V.int 0) && decide ((Ks592.countOf T m : Int) < (Ks592.countOf T b : Int)))) := by
  unfold Ks592.isBetter
  have e1 : decide (Ks592.objective T p q b < Ks592.objective T p q m) = decide (0 < Ks592.objective T p q m - Ks592.objective T p q b) := by
    by_cases h : Ks592.objective T p q b < Ks592.objective T p q m
    · rw [decide_eq_true h, decide_eq_true (by omega)]
    · rw [decide_eq_false h, decide_eq_false (by omega)]
  have e2 : (Ks592.objective T p q b == Ks592.objective T p q m) = decide (V.int (Ks592.objective T p q m - Ks592.objective T p q b) = V.int 0) := by
    rw [dec_int, Bool.eq_iff_iff, beq_iff_eq, beq_iff_eq]
    omega
  have e3 : decide (Ks592.countOf T m < Ks592.countOf T b) = decide ((Ks592.countOf T m : Int) < (Ks592.countOf T b : Int)) := by
    by_cases h : Ks592.countOf T m < Ks592.countOf T b
    · rw [decide_eq_true h, decide_eq_true (Int.ofNat_lt.mpr h)]
    · rw [decide_eq_false h, decide_eq_false (fun z => h (Int.ofNat_lt.mp z))]
  rw [e1, e2, e3]
theorem at_op {T : Ks592.Tree} {t : Addr} {m b : Nat} {p q : V} {g : Int} {H : Hp} {Q : Bool → Hp → Prop} (hT : TreeAt C H t T) (hV : Valid T)
    (k : ∀ H', Same H H' → Q (decide (0 < g) || (decide (V.int g = V.int 0) && decide ((Ks592.countOf T m : Int) < (Ks592.countOf T b : Int)))) H') :
    c_op C [some (.ref t), some p, some q, some (iv b), some (iv m), some (.int g)] H Q := by
  refine ⟨_, rfl, _, _, rfl, rfl, _, rfl, ?_⟩
  by_cases h1 : 0 < g
  · rw [decide_eq_true h1, Bool.true_or] at k
    exact ifT (decide_eq_true h1) (k H (Same.refl _))
  · rw [decide_eq_false h1, Bool.false_or] at k
    refine ifF (decide_eq_false h1) ?_
    refine ⟨_, rfl, rfl, _, rfl, ?_⟩
    cases h2 : decide (V.int g = V.int 0) with
    | false =>
      rw [h2, Bool.false_and] at k
      exact k H (Same.refl _)
    | true =>
      rw [h2, Bool.true_and] at k
      refine ifT rfl ?_
      refine at_nat (t := t) (T := T) (n := m) (by decide +kernel) rfl hT hV rfl fun H1 s1 => ?_
      refine at_nat (t := t) (T := T) (n := b) (by decide +kernel) rfl (hT.same s1) hV rfl fun H2 s2 => ?_
      exact ⟨_, _, rfl, rfl, _, rfl, k H2 (s1.trans s2)⟩
theorem pure_best (vs : List V) (H : Hp) (Q : VK) (E : XK) (h : spBest C vs H Q E) : t_best K C { nx := fun _ H' => Q .non H', rt := Q } (start ["tree", "p", "q", "best", "mask", "more"] vs) H := by
  obtain ⟨t, T, p, q, rfl, hT, hV, hp, hq, k⟩ := h
  refine at_m0 (t := t) (T := T) (by decide +kernel) rfl hT ⟨t, T, rfl, hT, hV, fun H1 l s1 hl => ?_⟩
  refine ⟨l, rfl, ⟨_, SqL.of hl⟩, for_list (K := K) (a := l) (xs := ivs (sets T)) (fun i σ H' => ∃ v w : Option V, σ = [some (.ref t), some (iv p), some (iv q), some (iv (((sets T).take i).foldl (opStep T p q) 0)), v, w] ∧ Same H1 H')
    ⟨none, none, rfl, Same.refl _⟩ (fun i σ H' _ ⟨_, _, _, s2⟩ => s2.seq (SqL.of hl)) ?_ ?_⟩
  · rintro i x σ H' hx ⟨v, w, rfl, s2⟩
    obtain ⟨m, hm, rfl⟩ := ivs_at hx
    have hT2 := (hT.same s1).same s2
    have e0 : ((sets T).take (i + 1)).foldl (opStep T p q) 0 = opStep T p q (((sets T).take i).foldl (opStep T p q) 0) m := by
      rw [take_more hm, List.foldl_append]
      rfl
    generalize ((sets T).take i).foldl (opStep T p q) 0 = b at e0 ⊢
    refine ⟨_, rfl, _, rfl, _, rfl, _, rfl, t, T, m, p, q, rfl, hT2, hV, hp, hq, fun H2 s3 => ?_⟩
    refine ⟨_, rfl, _, rfl, _, rfl, _, rfl, t, T, b, p, q, rfl, hT2.same s3, hV, hp, hq, fun H3 s4 => ?_⟩
    refine ⟨_, _, rfl, rfl, ?_⟩
    refine at_op (t := t) (T := T) (m := m) (b := b) ((hT2.same s3).same s4) hV fun H4 s5 => ?_
    have s6 := ((s2.trans s3).trans s4).trans s5
    rw [← better_is]
    rw [show opStep T p q b m = if Ks592.isBetter T p q b m = true then m else b from rfl] at e0
    cases c : Ks592.isBetter T p q b m with
    | true =>
      rw [c, if_pos rfl] at e0
      refine ifT rfl ?_
      refine ⟨_, rfl, some (iv m), some (.int (Ks592.objective T p q m - Ks592.objective T p q b)), ?_, s6⟩
      rw [e0]
      rfl
    | false =>
      rw [c, if_neg Bool.false_ne_true] at e0
      refine ⟨some (iv m), some (.int (Ks592.objective T p q m - Ks592.objective T p q b)), ?_, s6⟩
      rw [e0]
      rfl
  · rintro σ H' ⟨v, w, rfl, s2⟩
    rw [List.length_map, List.take_length, ← op_is]
    exact ⟨_, rfl, k H' (s1.trans s2)⟩

/-! #### best_within (slots: tree, limit, best, mask) -/
def c_bw (C : Addr) : TT := tAnd (tTest (tOp rLe (xM1 C "count_of" (spCount C) 0 3) (tVar 1))) (tTest (tOp rGt (xM1 C "weight_of" (spWeight C) 0 3) (xM1 C "weight_of" (spWeight C) 0 2)))
def t_within (K : PySem.W.Frag) (C : Addr) : TS :=
  tSeq (tAsg (tC (.int 0)) (gName 2))
    (tSeq (tFor (iList K (xM0 C "closed_sets" (spSets C) 0)) (gName 3) (tIfS (c_bw C) (tAsg (tVar 3) (gName 2)) tNext))
    (tRet (tVar 2)))
theorem at_bw {T : Ks592.Tree} {t : Addr} {m b l : Nat} {H : Hp} {Q : Bool → Hp → Prop} (hT : TreeAt C H t T) (hV : Valid T)
    (k : ∀ H', Same H H' → Q (decide (Ks592.countOf T m ≤ l ∧ Ks592.weightOf T b < Ks592.weightOf T m)) H') :
    c_bw C [some (.ref t), some (iv l), some (iv b), some (iv m)] H Q := by
  refine at_nat (t := t) (T := T) (n := m) (by decide +kernel) rfl hT hV rfl fun H1 s1 => ?_
  refine ⟨_, rfl, _, _, rfl, rfl, _, rfl, ?_⟩
  by_cases h1 : Ks592.countOf T m ≤ l
  · refine ifT (decide_eq_true (Int.ofNat_le.mpr h1)) ?_
    refine at_nat (t := t) (T := T) (n := m) (by decide +kernel) rfl (hT.same s1) hV rfl fun H2 s2 => ?_
    refine at_nat (t := t) (T := T) (n := b) (by decide +kernel) rfl ((hT.same s1).same s2) hV rfl fun H3 s3 => ?_
    refine ⟨_, _, rfl, rfl, _, rfl, ?_⟩
    have q := k H3 ((s1.trans s2).trans s3)
    by_cases h2 : Ks592.weightOf T b < Ks592.weightOf T m
    · rw [decide_eq_true (Int.ofNat_lt.mpr h2)]
      rw [decide_eq_true ⟨h1, h2⟩] at q
      exact q
    · rw [decide_eq_false (fun z => h2 (Int.ofNat_lt.mp z))]
      rw [decide_eq_false (fun z => h2 z.2)] at q
      exact q
  · refine ifF (decide_eq_false (fun z => h1 (Int.ofNat_le.mp z))) ?_
    have q := k H1 s1
    rw [decide_eq_false (fun z => h1 z.1)] at q
    exact q
theorem pure_within (vs : List V) (H : Hp) (Q : VK) (E : XK) (h : spWithin C vs H Q E) : t_within K C { nx := fun _ H' => Q .non H', rt := Q } (start ["tree", "limit", "best", "mask"] vs) H := by
  obtain ⟨t, T, lim, rfl, hT, hV, k⟩ := h
  refine at_m0 (t := t) (T := T) (by decide +kernel) rfl hT ⟨t, T, rfl, hT, hV, fun H1 l s1 hl => ?_⟩
  refine ⟨l, rfl, ⟨_, SqL.of hl⟩, for_list (K := K) (a := l) (xs := ivs (sets T)) (fun i σ H' => ∃ v : Option V, σ = [some (.ref t), some (iv lim), some (iv (((sets T).take i).foldl (bwStep T lim) 0)), v] ∧ Same H1 H')
    ⟨none, rfl, Same.refl _⟩ (fun i σ H' _ ⟨_, _, s2⟩ => s2.seq (SqL.of hl)) ?_ ?_⟩
  · rintro i x σ H' hx ⟨v, rfl, s2⟩
    obtain ⟨m, hm, rfl⟩ := ivs_at hx
    have hT2 := (hT.same s1).same s2
    have e0 : ((sets T).take (i + 1)).foldl (bwStep T lim) 0 = bwStep T lim (((sets T).take i).foldl (bwStep T lim) 0) m := by
      rw [take_more hm, List.foldl_append]
      rfl
    generalize ((sets T).take i).foldl (bwStep T lim) 0 = b at e0 ⊢
    refine at_bw (t := t) (T := T) (m := m) (b := b) (l := lim) hT2 hV fun H2 s3 => ?_
    have s4 := s2.trans s3
    rw [show bwStep T lim b m = if Ks592.countOf T m ≤ lim ∧ Ks592.weightOf T b < Ks592.weightOf T m then m else b from rfl] at e0
    by_cases c : Ks592.countOf T m ≤ lim ∧ Ks592.weightOf T b < Ks592.weightOf T m
    · rw [if_pos c] at e0
      rw [decide_eq_true c]
      refine ifT rfl ?_
      refine ⟨_, rfl, some (iv m), ?_, s4⟩
      rw [e0]
      rfl
    · rw [if_neg c] at e0
      rw [decide_eq_false c]
      refine ⟨some (iv m), ?_, s4⟩
      rw [e0]
      rfl
  · rintro σ H' ⟨v, rfl, s2⟩
    rw [List.length_map, List.take_length, ← bw_is]
    exact ⟨_, rfl, k H' (s1.trans s2)⟩

/-! #### cut_list (slots: tree, found, mask, node, own) -/
def t_cuts (C : Addr) : TS :=
  tSeq (tPar 1 2 (tCons (tLst tNil) (tCons (xM0 C "full" (spFull C) 0) tNil)))
    (tSeq (tWhile (tTest (tOp rGt (tVar 2) (tC (.int 0))))
      (tSeq (tAsg (xM1 C "weakest" (spWeakest C) 0 2) (gName 3))
      (tSeq (tAsg (xM2 C "branch_of" (spBranch C) 0 2 3) (gName 4))
      (tSeq (tAug 2 (tVar 4) (ipI fun i j => i - j))
      (tAsg (tOp rCat (tVar 1) (tLst (tCons (tVar 3) (tCons (xM1 C "weight_of" (spWeight C) 0 4) (tCons (xM1 C "count_of" (spCount C) 0 4) (tCons (tVar 2) tNil)))))) (gName 1))))))
    (tRet (tVar 1)))
def CutsAt (T : Ks592.Tree) (t : Addr) (H : Hp) (n : Nat) (σ : L2.St) (H' : Hp) : Prop := ∃ (fp : Addr) (acc : List Int) (v w : Option V), σ = [some (.ref t), some (.ref fp), some (iv n), v, w] ∧ Same H H' ∧ H' fp = some (.lst (acc.map V.int)) ∧ SeqAt T acc n
theorem pure_cuts (vs : List V) (H : Hp) (Q : VK) (E : XK) (h : spCuts C vs H Q E) : t_cuts C { nx := fun _ H' => Q .non H', rt := Q } (start ["tree", "found", "mask", "node", "own"] vs) H := by
  obtain ⟨t, T, rfl, hT, hV, k⟩ := h
  refine ⟨Nat.zero_le _, fun f0 hf0 => ?_⟩
  have hT1 := hT.same (sameNew (o := .lst []) hf0)
  refine at_m0 (t := t) (T := T) (by decide +kernel) rfl hT1 ⟨t, T, rfl, hT1, hV, _, _, rfl, ?_⟩
  refine ⟨CutsAt T t H,
    ⟨Ks592.fullSet T, f0, [], none, none, rfl, sameNew hf0, upd_same, seqAt_start T⟩, ?_⟩
  rintro n σ H' ⟨fp, acc, v, w, rfl, s1, hfp, hq⟩
  refine ⟨_, rfl, _, _, rfl, rfl, _, rfl, ?_⟩
  by_cases c : 0 < n
  · refine ifT (decide_eq_true (by omega)) ?_
    obtain ⟨i, hi⟩ := weakest_some c hq.1
    obtain ⟨h1, h2⟩ := weakest_mem hi
    have hT2 := hT.same s1
    have hb := branch_pos (T := T) h2 h1
    have hle := branch_le T n i
    refine ⟨fun σ' H' => ∃ n', n' < n ∧ CutsAt T t H n' σ' H', fun _ _ z => z, ?_⟩
    refine at_nat (t := t) (T := T) (n := n) (by decide +kernel) rfl hT2 hV rfl fun H2 s2 => ?_
    rw [hi]
    have hT3 := hT2.same s2
    refine at_m2 (t := t) (T := T) (by decide +kernel) rfl hT3 rfl rfl ⟨t, T, n, i, rfl, hT3, hV, h1, h2, fun H3 s3 => ?_⟩
    refine ⟨_, rfl, _, rfl, _, _, rfl, rfl, ?_⟩
    have hT4 := hT3.same s3
    have e1 : (n : Int) - (Ks592.branchOf T n i : Int) = ((n - Ks592.branchOf T n i : Nat) : Int) := by omega
    dsimp only
    rw [e1]
    refine ⟨_, rfl, _, rfl, ?_⟩
    refine at_nat (t := t) (T := T) (n := Ks592.branchOf T n i) (by decide +kernel) rfl hT4 hV rfl fun H4 s4 => ?_
    refine at_nat (t := t) (T := T) (n := Ks592.branchOf T n i) (by decide +kernel) rfl (hT4.same s4) hV rfl fun H5 s5 => ?_
    have s25 := ((s2.trans s3).trans s4).trans s5
    refine ⟨_, rfl, (by show 4 ≤ sizeLine; decide), fun p hp => ?_⟩
    have hfp5 := s25 _ _ hfp
    have hacc := seqAt_le hV hq
    have s6 : Same H5 (upd H5 p (.lst [.int (bestI (some i)), iv (Ks592.weightOf T (Ks592.branchOf T n i)), iv (Ks592.countOf T (Ks592.branchOf T n i)), iv (n - Ks592.branchOf T n i)])) := sameNew hp
    refine ⟨fp, p, _, _, rfl, rfl, s6 _ _ hfp5, upd_same, ?_, fun g hg => ?_⟩
    · rw [List.length_map]
      exact Nat.le_trans (show _ ≤ 44 by simp only [List.length_cons, List.length_nil]; omega) (by decide)
    · refine ⟨n - Ks592.branchOf T n i, by omega, g, _, some (.int (bestI (some i))), some (iv (Ks592.branchOf T n i)), rfl, (s1.trans s25).trans (s6.trans (sameNew hg)), ?_, seqAt_turn hq hi⟩
      rw [upd_same, List.map_append]
      rfl
  · refine ifF (decide_eq_false (by omega)) ?_
    have e : n = 0 := by omega
    subst e
    have e2 := seqAt_end hq
    subst e2
    exact ⟨_, rfl, k H' fp s1 hfp⟩
end
end WR

/-! Promises, readings and the pure theorems, third part: what raises, and the seven functions. -/
namespace WR
open PySem PySem.Spec PyProof.Rows L2 WM

section
variable {K : PySem.W.Frag} {C pw R : Addr}

/-! #### Refused.__init__ and want -/
def t_xinit (K : PySem.W.Frag) : TS := tOst K "code" (tVar 0) (tVar 1)
theorem pure_xinit (T : OexC K R) (hn : PySem.W.findIn K (.ref R) "code" = some none) (vs : List V) (H : Hp) (Q : VK) (E : XK) (h : spXInit R vs H Q E) : t_xinit K { nx := fun _ H' => Q .non H', rt := Q } (start ["self", "code"] vs) H := by
  obtain ⟨a, v, rfl, ha, k⟩ := h
  exact ⟨_, rfl, _, rfl, a, R, rfl, T, hn, .inl ⟨ha, fun dx h1 h2 => k dx h1 h2⟩⟩
def t_want (R : Addr) (E : XK) : TS := tIfS (tNot (tB (tVar 0))) (fun _ σ H => tMkO R (spXInit R) [] (tCons (tVar 1) tNil) σ H fun cls d H' => E cls d H') tNext
theorem pure_want (vs : List V) (H : Hp) (Q : VK) (E : XK) (h : spWant R vs H Q E) : t_want R E { nx := fun _ H' => Q .non H', rt := Q } (start ["is_so", "code"] vs) H := by
  obtain ⟨b, c, rfl, kT, kF⟩ := h
  refine ⟨_, rfl, _, rfl, ?_⟩
  cases b with
  | true => exact ifF rfl (kT rfl)
  | false =>
    refine ifT rfl ⟨_, rfl, (by show 1 ≤ 1000; decide), fun a ha => ⟨a, _, rfl, upd_same, fun dx hdx hne => ⟨rfl, dx, _, upd_same, (upd_ne hne).trans upd_same, ?_, ?_⟩⟩⟩
    · rw [upd_ne hne] at hdx
      exact hdx
    · rw [upd_ne hne] at hdx
      refine kF rfl dx _ (fun b o e => ?_) upd_same
      have n1 := ne_of_none e hdx
      have n2 := ne_of_none e ha
      rw [upd_ne n1, del_ne n2, upd_ne n2, upd_ne n1, upd_ne n2]
      exact e

/-! #### tree_of (slots: row, parents, weights, at) -/
def xLen (K : PySem.W.Frag) (o : Nat) : TE := tCB (rLen K) (tCons (tVar o) tNil)
def xWant (R : Addr) (E : XK) (tb : TE) (c : Int) : TS := tDrop (tCall (spWant R) [] E (tCons tb (tCons (tC (.int c)) tNil)))
def xRow (K : PySem.W.Frag) (ti : TE) : TE := tOp (rIxL K) (tVar 0) ti
def xApp (K : PySem.W.Frag) (o : Nat) (te : TE) : TS := tDrop (tBM K "list" rAppend (tVar o) (tCons te tNil))
def v_len (K : PySem.W.Frag) : TE := tAndV (tOp rEq (tOp rMod (xLen K 0) (tC (.int 2))) (tC (.int 0))) (tOp rLe (xLen K 0) (tOp rMul (tC (.int 2)) (tC (.int 10))))
def v_row (K : PySem.W.Frag) : TE := tAndV (tOp rLe (xRow K (tVar 3)) (tOp rFdv (tVar 3) (tC (.int 2)))) (tOp rLe (xRow K (tOp rAdd (tVar 3) (tC (.int 1)))) (tC (.int 99)))
def b_row (K : PySem.W.Frag) (R : Addr) (E : XK) : TS :=
  tSeq (xWant R E (v_row K) (-22)) (tSeq (xApp K 1 (tOp rSub (xRow K (tVar 3)) (tC (.int 1)))) (xApp K 2 (xRow K (tOp rAdd (tVar 3) (tC (.int 1))))))
def t_tree (K : PySem.W.Frag) (C R : Addr) (E : XK) : TS :=
  tSeq (xWant R E (v_len K) (-22))
    (tSeq (tPar 1 2 (tCons (tLst tNil) (tCons (tLst tNil) tNil)))
    (tSeq (tFor (iRng3 (tCons (tC (.int 0)) (tCons (xLen K 0) (tCons (tC (.int 2)) tNil)))) (gName 3) (b_row K R E))
    (tRet (tMake C (spInit C) [] E0 (tCons (tVar 1) (tCons (tVar 2) tNil))))))
theorem at_vlen {a : Addr} {l : List Nat} {H : Hp} {Q : VK} {r : List (Option V)} (hs : SqL K H a (ivs l)) (k : Q (.bl (decide (l.length % 2 = 0 ∧ l.length ≤ 20))) H) : v_len K (some (.ref a) :: r) H Q := by
  refine ⟨_, rfl, a, _, rfl, .inl hs, _, _, rfl, rfl, (by show (0 : Int) < 2; decide), rfl, _, rfl, ?_⟩
  rw [List.length_map, dec_int]
  by_cases h1 : l.length % 2 = 0
  · refine ifT (by rw [beq_iff_eq]; omega) ⟨_, rfl, a, _, rfl, .inl hs, _, _, rfl, rfl, .inl ⟨by decide, by decide⟩, _, _, rfl, rfl, ?_⟩
    rw [List.length_map]
    show Q (.bl (decide ((l.length : Int) ≤ 2 * 10))) H
    by_cases h2 : l.length ≤ 20
    · rw [decide_eq_true ⟨h1, h2⟩] at k
      rw [decide_eq_true (show (l.length : Int) ≤ 2 * 10 by omega)]
      exact k
    · rw [decide_eq_false (fun z => h2 z.2)] at k
      rw [decide_eq_false (show ¬ (l.length : Int) ≤ 2 * 10 by omega)]
      exact k
  · rw [decide_eq_false (fun z => h1 z.1)] at k
    exact ifF (by rw [beq_eq_false_iff_ne]; omega) k
theorem row_at {l : List Nat} {i : Nat} (h : i < l.length) : atI (ivs l) (i : Int) = some (iv (l.getD i 0)) := atI_nat (by
  rw [List.getElem?_map, List.getD_eq_getElem?_getD, List.getElem?_eq_getElem h]
  rfl)
theorem at_vrow {a : Addr} {l : List Nat} {i : Nat} {H : Hp} {Q : VK} {u v : Option V} (hs : SqL K H a (ivs l)) (hi : 2 * i + 1 < l.length) (k1 : okAt l i → Q (.bl true) H) (k2 : ¬ okAt l i → Q (.bl false) H) :
    v_row K [some (.ref a), u, v, some (iv (2 * i))] H Q := by
  refine ⟨_, rfl, _, rfl, a, _, _, _, rfl, rfl, hs, row_at (by omega), _, rfl, _, _, rfl, rfl, ⟨by decide, by decide⟩, _, _, rfl, rfl, _, rfl, ?_⟩
  have e : ((2 * i : Nat) : Int) / 2 = (i : Int) := by omega
  rw [e]
  by_cases h1 : l.getD (2 * i) 0 ≤ i
  · refine ifT (decide_eq_true (Int.ofNat_le.mpr h1)) ⟨_, rfl, _, rfl, _, _, rfl, rfl, a, _, ((2 * i + 1 : Nat) : Int), _, rfl, rfl, hs, row_at hi, _, _, rfl, rfl, ?_⟩
    show Q (.bl (decide (((l.getD (2 * i + 1) 0 : Nat) : Int) ≤ 99))) H
    by_cases h2 : l.getD (2 * i + 1) 0 ≤ 99
    · rw [decide_eq_true (show ((l.getD (2 * i + 1) 0 : Nat) : Int) ≤ 99 by omega)]
      exact k1 ⟨h1, h2⟩
    · rw [decide_eq_false (show ¬ ((l.getD (2 * i + 1) 0 : Nat) : Int) ≤ 99 by omega)]
      exact k2 fun z => h2 z.2
  · exact ifF (decide_eq_false (fun z => h1 (Int.ofNat_le.mp z))) (k2 fun z => h1 z.1)
theorem rng2 : ∀ n : Nat, n ≤ 10 → RgC 0 ((2 * n : Nat) : Int) 2 n := by
  intro n h
  refine ⟨by decide, by decide, ?_, ?_⟩
  · match n, h with
    | 0, _ => decide
    | 1, _ => decide
    | 2, _ => decide
    | 3, _ => decide
    | 4, _ => decide
    | 5, _ => decide
    | 6, _ => decide
    | 7, _ => decide
    | 8, _ => decide
    | 9, _ => decide
    | 10, _ => decide
    | n + 11, h => omega
  · match n, h with
    | 0, _ => decide
    | 1, _ => decide
    | 2, _ => decide
    | 3, _ => decide
    | 4, _ => decide
    | 5, _ => decide
    | 6, _ => decide
    | 7, _ => decide
    | 8, _ => decide
    | 9, _ => decide
    | 10, _ => decide
    | n + 11, h => omega
theorem parL_more (l : List Nat) (i : Nat) : parL (pre l (i + 1)) = parL (pre l i) ++ [.int ((l.getD (2 * i) 0 : Int) - 1)] := by
  unfold parL
  rw [pre_more, List.map_append]
  rfl
theorem wtL_more (l : List Nat) (i : Nat) : wtL (pre l (i + 1)) = wtL (pre l i) ++ [iv (l.getD (2 * i + 1) 0)] := by
  unfold wtL
  rw [pre_more, List.map_append]
  rfl
theorem parL_len (l : List Nat) (i : Nat) : (parL (pre l i)).length = i := by
  unfold parL
  rw [List.length_map, pre_length]
theorem wtL_len (l : List Nat) (i : Nat) : (wtL (pre l i)).length = i := by
  unfold wtL
  rw [List.length_map, pre_length]
theorem pure_tree (vs : List V) (H : Hp) (Q : VK) (E : XK) (h : spTreeOf K C R vs H Q E) : t_tree K C R E { nx := fun _ H' => Q .non H', rt := Q } (start ["row", "parents", "weights", "at"] vs) H := by
  obtain ⟨a, l, rfl, hs, hl, kN, kS⟩ := h
  refine at_vlen (l := l) hs ⟨_, _, rfl, fun e => ?_, fun e => ?_⟩
  · have e := of_decide_eq_true e
    obtain ⟨n, hn⟩ : ∃ n, l.length = 2 * n := ⟨l.length / 2, by omega⟩
    have hn10 : n ≤ 10 := by omega
    refine ⟨Nat.zero_le _, fun pa hpa => ⟨Nat.zero_le _, fun wa hwa => ⟨_, _, rfl, ?_⟩⟩⟩
    have npw : wa ≠ pa := fun z => by
      rw [z, upd_same] at hwa
      cases hwa
    rw [upd_ne npw] at hwa
    have s0 : Same H (upd (upd H pa (.lst [])) wa (.lst [])) := samePut (sameNew hpa) hwa
    refine ⟨_, rfl, a, _, rfl, .inl (s0.seq hs), 0, ((2 * n : Nat) : Int), 2, n, (by rw [List.length_map, hn]), rng2 n hn10, ?_⟩
    refine for_rangeC (lo := 0) (c := 2) (n := n) (fun i σ H' => ∃ v : Option V, σ = [some (.ref a), some (.ref pa), some (.ref wa), v] ∧ Same H H' ∧ H' pa = some (.lst (parL (pre l i))) ∧ H' wa = some (.lst (wtL (pre l i))) ∧ ∀ j, j < i → okAt l j)
      ⟨none, rfl, s0, (upd_ne (Ne.symm npw)).trans upd_same, upd_same, fun j hj => absurd hj (Nat.not_lt_zero _)⟩ ?_ ?_
    · rintro i σ H' hi ⟨v, rfl, s1, h1, h2, hok⟩
      have e2 : (0 : Int) + (i : Int) * 2 = ((2 * i : Nat) : Int) := by omega
      rw [e2]
      have hs1 := s1.seq hs
      refine at_vrow (l := l) (i := i) hs1 (by omega) (fun ok => ⟨_, _, rfl, fun _ => ?_, fun z => Bool.noConfusion z⟩) (fun nok => ⟨_, _, rfl, fun z => Bool.noConfusion z, fun _ => (kN (treeOf_none hn hi nok)).same s1⟩)
      refine ⟨_, rfl, .inl ⟨rfl, _, SqL.of h1⟩, _, rfl, _, rfl, a, _, _, _, rfl, rfl, hs1, row_at (by omega), _, _, rfl, rfl, pa, _, _, rfl, rfl, h1, lt1000 (by rw [parL_len]; omega), ?_⟩
      have s2 : Same H (upd H' pa (.lst (parL (pre l i) ++ [.int ((l.getD (2 * i) 0 : Int) - 1)]))) := samePut s1 hpa
      have h2' : (upd H' pa (.lst (parL (pre l i) ++ [.int ((l.getD (2 * i) 0 : Int) - 1)]))) wa = some (.lst (wtL (pre l i))) := (upd_ne npw).trans h2
      refine ⟨_, rfl, .inl ⟨rfl, _, SqL.of h2'⟩, _, rfl, _, rfl, _, _, rfl, rfl, a, _, ((2 * i + 1 : Nat) : Int), _, rfl, rfl, s2.seq hs, row_at (by omega), wa, _, _, rfl, rfl, h2', lt1000 (by rw [wtL_len]; omega), ?_⟩
      refine ⟨some (iv (2 * i)), rfl, samePut s2 hwa, ?_, ?_, fun j hj => ?_⟩
      · rw [upd_ne (Ne.symm npw), upd_same, parL_more]
      · rw [upd_same, wtL_more]
      · by_cases c : j = i
        · rw [c]
          exact ok
        · exact hok j (by omega)
    · rintro σ H' ⟨v, rfl, s1, h1, h2, hok⟩
      refine ⟨_, rfl, _, rfl, fun x dx nx nd ne => ⟨x, dx, pa, wa, rfl, upd_same, fun H2 hx kp => ⟨rfl, ?_⟩⟩⟩
      have s2 := Same.made nx nd kp
      exact kS _ (treeOf_some hn hn10 hok) (pre_valid hn10 hok) H2 x (s1.trans s2) ⟨dx, pa, wa, hx, s2 _ _ h1, s2 _ _ h2⟩
  · have e := of_decide_eq_false e
    refine kN ?_
    by_cases c : l.length % 2 = 1
    · exact treeOf_odd c
    · exact treeOf_long (by omega)

/-! #### want_cost (slots: p, q), want_closed (slots: tree, mask) -/
def t_wcost (R : Addr) (E : XK) : TS := xWant R E (tAndV (tOp rLe (tVar 0) (tC (.int 999))) (tChain rLe rLe (tC (.int 1)) (tVar 1) (tC (.int 99)))) (-22)
theorem pure_wcost (vs : List V) (H : Hp) (Q : VK) (E : XK) (h : spWantCost R vs H Q E) : t_wcost R E { nx := fun _ H' => Q .non H', rt := Q } (start ["p", "q"] vs) H := by
  obtain ⟨p, q, rfl, kT, kF⟩ := h
  refine ⟨_, rfl, _, _, rfl, rfl, _, rfl, ?_⟩
  by_cases h1 : p ≤ 999
  · refine ifT (decide_eq_true (by omega)) ⟨_, rfl, _, _, rfl, rfl, _, rfl, ?_⟩
    by_cases h2 : 1 ≤ q
    · refine ifT (decide_eq_true (by omega)) ⟨_, _, rfl, rfl, _, _, rfl, fun e => kT ⟨h1, h2, ?_⟩, fun e => kF fun z => ?_⟩
      · have := of_decide_eq_true e
        omega
      · have := of_decide_eq_false e
        have := z.2.2
        omega
    · refine ifF (decide_eq_false (by omega)) ⟨_, _, rfl, fun e => Bool.noConfusion e, fun _ => kF fun z => h2 z.2.1⟩
  · exact ifF (decide_eq_false (by omega)) ⟨_, _, rfl, fun e => Bool.noConfusion e, fun _ => kF fun z => h1 z.1⟩
def t_wclosed (C R : Addr) (E : XK) : TS := tSeq (xWant R E (tOp rLe (tVar 1) (xM0 C "full" (spFull C) 0)) (-22)) (xWant R E (xM1 C "is_closed" (spClosed C) 0 1) (-33))
theorem pure_wclosed (vs : List V) (H : Hp) (Q : VK) (E : XK) (h : spWantClosed C R vs H Q E) : t_wclosed C R E { nx := fun _ H' => Q .non H', rt := Q } (start ["tree", "mask"] vs) H := by
  obtain ⟨t, T, m, rfl, hT, hV, kFar, kOpen, kOk⟩ := h
  have h1 : 0 < 2 ^ T.length := Nat.pow_pos (by decide)
  have ef : Ks592.fullSet T = 2 ^ T.length - 1 := rfl
  refine ⟨_, rfl, ?_⟩
  refine at_m0 (t := t) (T := T) (by decide +kernel) rfl hT ⟨t, T, rfl, hT, hV, _, _, rfl, rfl, _, _, rfl, fun e => ?_, fun e => ?_⟩
  · have e := of_decide_eq_true e
    have hm : m < 2 ^ T.length := by rw [ef] at e; omega
    refine at_nat (t := t) (T := T) (n := m) (by decide +kernel) rfl hT hV rfl fun H1 s1 => ⟨_, _, rfl, fun c => kOk hm c H1 s1, fun c => (kOpen hm c).same s1⟩
  · have e := of_decide_eq_false e
    exact kFar (by rw [ef] at e; omega)

/-! ### the seven functions -/
/-- except Refused as e: return [e.code] (e in slot i) -/
def t_code (R : Addr) (i : Nat) : Addr → Value → Option Addr → TS := fun a cls d => tRet (tLst (tCons (tXf a cls d R "code" (tVar i)) tNil))
def Wq (K : PySem.W.Frag) (R : Addr) (i : Nat) (D : Ends) : WX := wAs K (.ref R) i (t_code R i) (fun _ _ _ _ => False) D
theorem err_way {D : Ends} {σ : L2.St} {i : Nat} {H : Hp} {c : Int} (te : PySem.W.exmOne K (.ref R) (.ref R) = some true) (hi : i < σ.length) (k : ∀ (H' : Hp) (r : Addr), H' r = some (.lst ([c].map V.int)) → D.rt (.ref r) H') : ErrAt (WE (Wq K R i D) σ) R c H := by
  intro d H' s hd
  refine ⟨true, te, fun _ a ha => ?_, fun z => Bool.noConfusion z⟩
  exact ⟨_, List.getElem?_set_self hi, rfl, rfl, d, _, _, rfl, hd, lkHere, (by show 1 ≤ sizeLine; decide), fun r hr => k _ r upd_same⟩
def xTree (K : PySem.W.Frag) (C R : Addr) (W : WX) (o : Nat) : TE := tCallS (spTreeOf K C R) (WE W) (tCons (tVar o) tNil)
theorem cost_ok {p q : Nat} : CostOk p q ↔ ¬ badCost p q := by
  unfold CostOk badCost
  omega

/-- optimal_pruning (slots: p, q, tree, own, mask, e) -/
def spOpt (K : PySem.W.Frag) : Sp := fun vs H Q _ => ∃ (p q : Nat) (a : Addr) (l : List Nat), vs = [iv p, iv q, .ref a] ∧ SqL K H a (ivs l) ∧ l.length ≤ 23 ∧
  ∀ (H' : Hp) (r : Addr), H' r = some (.lst ((ansOpt p q l).map V.int)) → Q (.ref r) H'
def b_opt (K : PySem.W.Frag) (C R : Addr) (W : WX) : TS :=
  tSeq (tAsg (xTree K C R W 2) (gName 3))
    (tSeq (tDrop (tCallS (spWantCost R) (WE W) (tCons (tVar 0) (tCons (tVar 1) tNil))))
    (tSeq (tAsg (tCall (spBest C) [] E0 (tCons (tVar 3) (tCons (tVar 0) (tCons (tVar 1) tNil)))) (gName 4))
    (tRet (tLst (tCons (xM1 C "count_of" (spCount C) 3 4) (tCons (tVar 4) (tCons (xM1 C "weight_of" (spWeight C) 3 4) tNil)))))))
def t_opt (K : PySem.W.Frag) (C R : Addr) : TS := fun D σ H => b_opt K C R (Wq K R 5 D) D σ H
theorem pure_opt (te : PySem.W.exmOne K (.ref R) (.ref R) = some true) (vs : List V) (H : Hp) (Q : VK) (E : XK) (h : spOpt K vs H Q E) : t_opt K C R { nx := fun _ H' => Q .non H', rt := Q } (start ["p", "q", "tree", "own", "mask", "e"] vs) H := by
  obtain ⟨p, q, a, l, rfl, hs, hl, k⟩ := h
  refine ⟨_, rfl, a, l, rfl, hs, hl, fun e => err_way te (by show 5 < 6; decide) fun H' r hr => k H' r (by unfold ansOpt; rw [byTree_none e]; exact hr), fun T e hV H1 t s1 hT => ?_⟩
  unfold ansOpt at k
  rw [byTree_some e] at k
  refine ⟨_, rfl, _, rfl, p, q, rfl, fun c => ?_, fun c => err_way te (by show 5 < 6; decide) fun H' r hr => k H' r (by rw [if_pos (Classical.byContradiction fun z => c (cost_ok.mpr z))]; exact hr)⟩
  rw [if_neg (cost_ok.mp c)] at k
  refine ⟨_, rfl, _, rfl, _, rfl, t, T, p, q, rfl, hT, hV, c.1, c.2.2, fun H2 s2 => ?_⟩
  have hT2 := hT.same s2
  refine at_nat (t := t) (T := T) (n := Ks592.optimalPruning T p q) (by decide +kernel) rfl hT2 hV rfl fun H3 s3 => ?_
  refine ⟨_, rfl, ?_⟩
  refine at_nat (t := t) (T := T) (n := Ks592.optimalPruning T p q) (by decide +kernel) rfl (hT2.same s3) hV rfl fun H4 s4 => ?_
  exact ⟨(by show 3 ≤ sizeLine; decide), fun r hr => k _ r upd_same⟩

/-- objective (slots: p, q, mask, tree, own, e) -/
def spObj (K : PySem.W.Frag) : Sp := fun vs H Q _ => ∃ (p q m : Nat) (a : Addr) (l : List Nat), vs = [iv p, iv q, iv m, .ref a] ∧ SqL K H a (ivs l) ∧ l.length ≤ 23 ∧
  ∀ (H' : Hp) (r : Addr), H' r = some (.lst ((ansObj p q m l).map V.int)) → Q (.ref r) H'
def xClosed (C R : Addr) (W : WX) (o m : Nat) : TS := tDrop (tCallS (spWantClosed C R) (WE W) (tCons (tVar o) (tCons (tVar m) tNil)))
def b_obj (K : PySem.W.Frag) (C R : Addr) (W : WX) : TS :=
  tSeq (tAsg (xTree K C R W 3) (gName 4))
    (tSeq (tDrop (tCallS (spWantCost R) (WE W) (tCons (tVar 0) (tCons (tVar 1) tNil))))
    (tSeq (xClosed C R W 4 2)
    (tRet (tLst (tCons (tC (.int 0)) (tCons (tCall (spValue C) [] E0 (tCons (tVar 4) (tCons (tVar 2) (tCons (tVar 0) (tCons (tVar 1) tNil))))) tNil))))))
def t_obj (K : PySem.W.Frag) (C R : Addr) : TS := fun D σ H => b_obj K C R (Wq K R 5 D) D σ H
theorem pure_obj (te : PySem.W.exmOne K (.ref R) (.ref R) = some true) (vs : List V) (H : Hp) (Q : VK) (E : XK) (h : spObj K vs H Q E) : t_obj K C R { nx := fun _ H' => Q .non H', rt := Q } (start ["p", "q", "mask", "tree", "own", "e"] vs) H := by
  obtain ⟨p, q, m, a, l, rfl, hs, hl, k⟩ := h
  refine ⟨_, rfl, a, l, rfl, hs, hl, fun e => err_way te (by show 5 < 6; decide) fun H' r hr => k H' r (by unfold ansObj; rw [byTree_none e]; exact hr), fun T e hV H1 t s1 hT => ?_⟩
  unfold ansObj at k
  rw [byTree_some e] at k
  refine ⟨_, rfl, _, rfl, p, q, rfl, fun c => ?_, fun c => err_way te (by show 5 < 6; decide) fun H' r hr => k H' r (by rw [if_pos (Classical.byContradiction fun z => c (cost_ok.mpr z))]; exact hr)⟩
  rw [if_neg (cost_ok.mp c)] at k
  refine ⟨_, rfl, _, rfl, t, T, m, rfl, hT, hV, fun z => err_way te (by show 5 < 6; decide) fun H' r hr => k H' r (by rw [onClosed_far z]; exact hr),
    fun z y => err_way te (by show 5 < 6; decide) fun H' r hr => k H' r (by rw [onClosed_open z y]; exact hr), fun z y H2 s2 => ?_⟩
  rw [onClosed_ok z y] at k
  refine ⟨_, rfl, _, rfl, _, rfl, _, rfl, t, T, m, p, q, rfl, hT.same s2, hV, c.1, c.2.2, fun H3 s3 => ?_⟩
  exact ⟨(by show 2 ≤ sizeLine; decide), fun r hr => k _ r upd_same⟩

/-- branch (slots: mask, node, tree, own, found, e) -/
def spBrn (K : PySem.W.Frag) : Sp := fun vs H Q _ => ∃ (m i : Nat) (a : Addr) (l : List Nat), vs = [iv m, iv i, .ref a] ∧ SqL K H a (ivs l) ∧ l.length ≤ 23 ∧
  ∀ (H' : Hp) (r : Addr), H' r = some (.lst ((ansBranch m i l).map V.int)) → Q (.ref r) H'
def v_in (K : PySem.W.Frag) (C : Addr) : TE := tAndV (tOp rLt (tVar 1) (xM0 C "size" (spSize C) 3)) (tOp (rIn K false) (tVar 1) (xM1 C "nodes_in" (spNodes C) 3 0))
def b_brn (K : PySem.W.Frag) (C R : Addr) (W : WX) : TS :=
  tSeq (tAsg (xTree K C R W 2) (gName 3))
    (tSeq (xClosed C R W 3 0)
    (tSeq (tDrop (tCallS (spWant R) (WE W) (tCons (v_in K C) (tCons (tC (.int (-2))) tNil))))
    (tSeq (tAsg (xM2 C "branch_of" (spBranch C) 3 0 1) (gName 4))
    (tRet (tLst (tCons (xM1 C "count_of" (spCount C) 3 4) (tCons (tVar 4) (tCons (xM1 C "weight_of" (spWeight C) 3 4) tNil))))))))
def t_brn (K : PySem.W.Frag) (C R : Addr) : TS := fun D σ H => b_brn K C R (Wq K R 5 D) D σ H
theorem in_ivs (n : Nat) : ∀ l : List Nat, inV (iv n) (ivs l) = decide (n ∈ l)
  | [] => rfl
  | a :: r => by
    have ih := in_ivs n r
    show (((a : Int) == (n : Int)) || inV (iv n) (ivs r)) = _
    rw [ih, Bool.eq_iff_iff, Bool.or_eq_true, beq_iff_eq, decide_eq_true_iff, decide_eq_true_iff, List.mem_cons]
    have z : ((a : Int) = (n : Int)) ↔ n = a := by omega
    rw [z]
theorem flat_ivs : ∀ l : List Nat, (ivs l).all flatV = true
  | [] => rfl
  | a :: r => flat_ivs r
theorem pure_brn (te : PySem.W.exmOne K (.ref R) (.ref R) = some true) (vs : List V) (H : Hp) (Q : VK) (E : XK) (h : spBrn K vs H Q E) : t_brn K C R { nx := fun _ H' => Q .non H', rt := Q } (start ["mask", "node", "tree", "own", "found", "e"] vs) H := by
  obtain ⟨m, i, a, l, rfl, hs, hl, k⟩ := h
  refine ⟨_, rfl, a, l, rfl, hs, hl, fun e => err_way te (by show 5 < 6; decide) fun H' r hr => k H' r (by unfold ansBranch; rw [byTree_none e]; exact hr), fun T e hV H1 t s1 hT => ?_⟩
  unfold ansBranch at k
  rw [byTree_some e] at k
  refine ⟨_, rfl, _, rfl, t, T, m, rfl, hT, hV, fun z => err_way te (by show 5 < 6; decide) fun H' r hr => k H' r (by rw [onClosed_far z]; exact hr),
    fun z y => err_way te (by show 5 < 6; decide) fun H' r hr => k H' r (by rw [onClosed_open z y]; exact hr), fun z y H2 s2 => ?_⟩
  rw [onClosed_ok z y] at k
  have hT2 := hT.same s2
  -- the word of the test: what follows it, by the node's place
  have no : ∀ H3, m.testBit i = false → ErrAt (WE (Wq K R 5 { nx := fun _ H' => Q .non H', rt := Q }) [some (iv m), some (iv i), some (.ref a), some (.ref t), none, none]) R (-2) H3 := fun H3 c =>
    err_way te (by show 5 < 6; decide) fun H' r hr => k H' r (by rw [if_pos c]; exact hr)
  refine ⟨_, rfl, ?_⟩
  refine at_m0 (t := t) (T := T) (by decide +kernel) rfl hT2 ⟨t, T, rfl, hT2, _, _, rfl, rfl, _, rfl, ?_⟩
  by_cases hi : i < T.length
  · refine ifT (decide_eq_true (Int.ofNat_lt.mpr hi)) ⟨_, rfl, ?_⟩
    refine at_m1 (t := t) (T := T) (by decide +kernel) rfl hT2 rfl ⟨t, T, m, rfl, hT2, hV, fun H3 p s3 hp => ?_⟩
    refine ⟨p, _, rfl, .inl (SqL.of hp), rfl, flat_ivs _, ?_⟩
    refine ⟨_, _, rfl, fun c => ?_, fun c => no H3 ?_⟩
    · have c : inV (iv i) (ivs (nodes T m)) = true := c
      rw [in_ivs] at c
      have hb := (mem_nodes.mp (of_decide_eq_true c)).2
      rw [if_neg (by rw [hb]; exact Bool.noConfusion)] at k
      have hT3 := hT2.same s3
      refine at_m2 (t := t) (T := T) (by decide +kernel) rfl hT3 rfl rfl ⟨t, T, m, i, rfl, hT3, hV, hi, hb, fun H4 s4 => ?_⟩
      have hT4 := hT3.same s4
      refine at_nat (t := t) (T := T) (n := Ks592.branchOf T m i) (by decide +kernel) rfl hT4 hV rfl fun H5 s5 => ?_
      refine ⟨_, rfl, ?_⟩
      refine at_nat (t := t) (T := T) (n := Ks592.branchOf T m i) (by decide +kernel) rfl (hT4.same s5) hV rfl fun H6 s6 => ?_
      exact ⟨(by show 3 ≤ sizeLine; decide), fun r hr => k _ r upd_same⟩
    · have c : inV (iv i) (ivs (nodes T m)) = false := c
      rw [in_ivs] at c
      cases hb : m.testBit i with
      | false => rfl
      | true => exact absurd (mem_nodes.mpr ⟨hi, hb⟩) (of_decide_eq_false c)
  · refine ifF (decide_eq_false (fun z => hi (Int.ofNat_lt.mp z))) ⟨_, _, rfl, fun c => Bool.noConfusion c, fun _ => no H2 ?_⟩
    have h3 : 2 ^ T.length ≤ 2 ^ i := Nat.pow_le_pow_right (by decide) (by omega)
    exact Nat.testBit_lt_two_pow (by omega)

/-- weakest_link (slots: mask, tree, own, node, found, e) -/
def spLnk (K : PySem.W.Frag) : Sp := fun vs H Q _ => ∃ (m : Nat) (a : Addr) (l : List Nat), vs = [iv m, .ref a] ∧ SqL K H a (ivs l) ∧ l.length ≤ 23 ∧
  ∀ (H' : Hp) (r : Addr), H' r = some (.lst ((ansWeakest m l).map V.int)) → Q (.ref r) H'
def b_lnk (K : PySem.W.Frag) (C R : Addr) (W : WX) : TS :=
  tSeq (tAsg (xTree K C R W 1) (gName 2))
    (tSeq (xClosed C R W 2 0)
    (tSeq (tDrop (tCallS (spWant R) (WE W) (tCons (tOp rGt (tVar 0) (tC (.int 0))) (tCons (tC (.int (-6))) tNil))))
    (tSeq (tAsg (xM1 C "weakest" (spWeakest C) 2 0) (gName 3))
    (tSeq (tAsg (xM2 C "branch_of" (spBranch C) 2 0 3) (gName 4))
    (tRet (tLst (tCons (tVar 3) (tCons (xM1 C "weight_of" (spWeight C) 2 4) (tCons (xM1 C "count_of" (spCount C) 2 4) tNil)))))))))
def t_lnk (K : PySem.W.Frag) (C R : Addr) : TS := fun D σ H => b_lnk K C R (Wq K R 5 D) D σ H
theorem pure_lnk (te : PySem.W.exmOne K (.ref R) (.ref R) = some true) (vs : List V) (H : Hp) (Q : VK) (E : XK) (h : spLnk K vs H Q E) : t_lnk K C R { nx := fun _ H' => Q .non H', rt := Q } (start ["mask", "tree", "own", "node", "found", "e"] vs) H := by
  obtain ⟨m, a, l, rfl, hs, hl, k⟩ := h
  refine ⟨_, rfl, a, l, rfl, hs, hl, fun e => err_way te (by show 5 < 6; decide) fun H' r hr => k H' r (by unfold ansWeakest; rw [byTree_none e]; exact hr), fun T e hV H1 t s1 hT => ?_⟩
  unfold ansWeakest at k
  rw [byTree_some e] at k
  refine ⟨_, rfl, _, rfl, t, T, m, rfl, hT, hV, fun z => err_way te (by show 5 < 6; decide) fun H' r hr => k H' r (by rw [onClosed_far z]; exact hr),
    fun z y => err_way te (by show 5 < 6; decide) fun H' r hr => k H' r (by rw [onClosed_open z y]; exact hr), fun z y H2 s2 => ?_⟩
  rw [onClosed_ok z y] at k
  have hT2 := hT.same s2
  refine ⟨_, rfl, _, _, rfl, rfl, _, _, rfl, fun c => ?_, fun c => err_way te (by show 5 < 6; decide) fun H' r hr => k H' r ?_⟩
  · have c := of_decide_eq_true c
    obtain ⟨i, hi⟩ := weakest_some (T := T) (m := m) (by omega) z
    obtain ⟨h1, h2⟩ := weakest_mem hi
    rw [hi] at k
    refine at_nat (t := t) (T := T) (n := m) (by decide +kernel) rfl hT2 hV rfl fun H3 s3 => ?_
    rw [hi]
    have hT3 := hT2.same s3
    refine at_m2 (t := t) (T := T) (by decide +kernel) rfl hT3 rfl rfl ⟨t, T, m, i, rfl, hT3, hV, h1, h2, fun H4 s4 => ?_⟩
    have hT4 := hT3.same s4
    refine ⟨_, rfl, ?_⟩
    refine at_nat (t := t) (T := T) (n := Ks592.branchOf T m i) (by decide +kernel) rfl hT4 hV rfl fun H5 s5 => ?_
    refine at_nat (t := t) (T := T) (n := Ks592.branchOf T m i) (by decide +kernel) rfl (hT4.same s5) hV rfl fun H6 s6 => ?_
    exact ⟨(by show 3 ≤ sizeLine; decide), fun r hr => k _ r upd_same⟩
  · have c := of_decide_eq_false c
    have e0 : m = 0 := by omega
    rw [e0, weakest_zero]
    exact hr

/-- pruning_sequence (slots: tree, found, e) -/
def spSeq (K : PySem.W.Frag) : Sp := fun vs H Q _ => ∃ (a : Addr) (l : List Nat), vs = [.ref a] ∧ SqL K H a (ivs l) ∧ l.length ≤ 23 ∧
  ∀ (H' : Hp) (r : Addr), H' r = some (.lst ((ansSeq l).map V.int)) → Q (.ref r) H'
def b_seq (K : PySem.W.Frag) (C R : Addr) (W : WX) : TS :=
  tSeq (tAsg (tCall (spCuts C) [] E0 (tCons (xTree K C R W 0) tNil)) (gName 1))
    (tRet (tOp rCat (tLst (tCons (tOp rFdv (xLen K 1) (tC (.int 4))) tNil)) (tVar 1)))
def t_seq (K : PySem.W.Frag) (C R : Addr) : TS := fun D σ H => b_seq K C R (Wq K R 2 D) D σ H
theorem pure_seq (te : PySem.W.exmOne K (.ref R) (.ref R) = some true) (vs : List V) (H : Hp) (Q : VK) (E : XK) (h : spSeq K vs H Q E) : t_seq K C R { nx := fun _ H' => Q .non H', rt := Q } (start ["tree", "found", "e"] vs) H := by
  obtain ⟨a, l, rfl, hs, hl, k⟩ := h
  refine ⟨_, rfl, a, l, rfl, hs, hl, fun e => err_way te (by show 2 < 3; decide) fun H' r hr => k H' r (by unfold ansSeq; rw [byTree_none e]; exact hr), fun T e hV H1 t s1 hT => ?_⟩
  unfold ansSeq at k
  rw [byTree_some e] at k
  refine ⟨t, T, rfl, hT, hV, fun H2 p s2 hp => ?_⟩
  refine ⟨_, rfl, p, _, rfl, .inl (SqL.of hp), _, _, rfl, rfl, ⟨by decide, by decide⟩, (by show 1 ≤ sizeLine; decide), fun q hq => ?_⟩
  have hlen := seqAll_le hV
  refine ⟨_, rfl, q, p, _, _, rfl, rfl, upd_same, (sameNew hq) _ _ hp, ?_, fun r hr => k _ r ?_⟩
  · rw [List.length_map]
    exact Nat.le_trans (show _ ≤ 44 by simp only [List.length_cons, List.length_nil]; omega) (by decide)
  · rw [upd_same, List.length_map]
    show some (HO.lst (V.int (((seqAll T).length : Int) / 4) :: (seqAll T).map V.int)) = _
    rw [seqAll_four]
    rfl

/-- best_with_limit (slots: limit, tree, own, mask, e) -/
def spLim (K : PySem.W.Frag) : Sp := fun vs H Q _ => ∃ (n : Nat) (a : Addr) (l : List Nat), vs = [iv n, .ref a] ∧ SqL K H a (ivs l) ∧ l.length ≤ 23 ∧
  ∀ (H' : Hp) (r : Addr), H' r = some (.lst ((ansLimit n l).map V.int)) → Q (.ref r) H'
def b_lim (K : PySem.W.Frag) (C R : Addr) (W : WX) : TS :=
  tSeq (tAsg (xTree K C R W 1) (gName 2))
    (tSeq (tAsg (tCall (spWithin C) [] E0 (tCons (tVar 2) (tCons (tVar 0) tNil))) (gName 3))
    (tRet (tLst (tCons (xM1 C "weight_of" (spWeight C) 2 3) (tCons (tVar 3) tNil)))))
def t_lim (K : PySem.W.Frag) (C R : Addr) : TS := fun D σ H => b_lim K C R (Wq K R 4 D) D σ H
theorem pure_lim (te : PySem.W.exmOne K (.ref R) (.ref R) = some true) (vs : List V) (H : Hp) (Q : VK) (E : XK) (h : spLim K vs H Q E) : t_lim K C R { nx := fun _ H' => Q .non H', rt := Q } (start ["limit", "tree", "own", "mask", "e"] vs) H := by
  obtain ⟨n, a, l, rfl, hs, hl, k⟩ := h
  refine ⟨_, rfl, a, l, rfl, hs, hl, fun e => err_way te (by show 4 < 5; decide) fun H' r hr => k H' r (by unfold ansLimit; rw [byTree_none e]; exact hr), fun T e hV H1 t s1 hT => ?_⟩
  unfold ansLimit at k
  rw [byTree_some e] at k
  refine ⟨_, rfl, _, rfl, t, T, n, rfl, hT, hV, fun H2 s2 => ?_⟩
  refine at_nat (t := t) (T := T) (n := Ks592.bestWithLimit T n) (by decide +kernel) rfl (hT.same s2) hV rfl fun H3 s3 => ?_
  exact ⟨_, rfl, (by show 2 ≤ sizeLine; decide), fun r hr => k _ r upd_same⟩

/-- count_closed_sets (slots: tree, e) -/
def spCnt (K : PySem.W.Frag) : Sp := fun vs H Q _ => ∃ (a : Addr) (l : List Nat), vs = [.ref a] ∧ SqL K H a (ivs l) ∧ l.length ≤ 23 ∧
  ∀ (H' : Hp) (r : Addr), H' r = some (.lst ((ansCount l).map V.int)) → Q (.ref r) H'
def b_cnt (K : PySem.W.Frag) (C R : Addr) (W : WX) : TS := tRet (tLst (tCons (tCB (rLen K) (tCons (tMeth C "closed_sets" (spSets C) [] E0 (xTree K C R W 0) tNil) tNil)) tNil))
def t_cnt (K : PySem.W.Frag) (C R : Addr) : TS := fun D σ H => b_cnt K C R (Wq K R 1 D) D σ H
theorem pure_cnt (te : PySem.W.exmOne K (.ref R) (.ref R) = some true) (vs : List V) (H : Hp) (Q : VK) (E : XK) (h : spCnt K vs H Q E) : t_cnt K C R { nx := fun _ H' => Q .non H', rt := Q } (start ["tree", "e"] vs) H := by
  obtain ⟨a, l, rfl, hs, hl, k⟩ := h
  refine ⟨_, rfl, a, l, rfl, hs, hl, fun e => err_way te (by show 1 < 2; decide) fun H' r hr => k H' r (by unfold ansCount; rw [byTree_none e]; exact hr), fun T e hV H1 t s1 hT => ?_⟩
  unfold ansCount at k
  rw [byTree_some e] at k
  obtain ⟨dx, pa, wa, h1, h2, h3⟩ := id hT
  refine ⟨t, dx, _, rfl, h1, okM_no (by decide +kernel) pa wa, t, T, rfl, hT, hV, fun H2 p s2 hp => ?_⟩
  refine ⟨p, _, rfl, .inl (SqL.of hp), (by show 1 ≤ sizeLine; decide), fun r hr => k _ r ?_⟩
  rw [upd_same, List.length_map]
  rfl
end
end WR

/-! Words for the text's defs; the request. -/
namespace WR
open PySem PySem.Spec PyProof.Rows L2 WM
open PySem.W (Codec WData)
/-- a def of the module, a method, an __init__ as they stand behind the top -/
structure Dfn (K : PySem.W.Frag) (mg : Str → Option Value) (x : Str) (st : Stmt) (f : Addr) (fd : FuncData) (ps : List Str) : Prop where
  F : Fun K x x st f fd
  b : Binds K fd ps []
  g : mg x = some (.ref f)
structure Mth (K : PySem.W.Frag) (C : Addr) (x q : Str) (st : Stmt) (f : Addr) (fd : FuncData) (ps : List Str) : Prop where
  F : Fun K x q st f fd
  b : Binds K fd ps []
  m : Meth K C x f
structure Ini (K : PySem.W.Frag) (q : Str) (st : Stmt) (f : Addr) (fd : FuncData) (ps : List Str) : Prop where
  F : Fun K "__init__" q st f fd
  b : Binds K fd ps []
/-- an error of the class at S is what «except S» names -/
theorem exmSelf {K : PySem.W.Frag} {S : Addr} (h1 : PySem.W.subIn K (.ref S) (.type "BaseException") = some true) (h2 : PySem.W.isClsIn K S = true) (h3 : PySem.W.typeIn K (.ref S) = some (.type "type")) (h4 : PySem.W.subIn K (.ref S) (.ref S) = some true) :
    PySem.W.exmOne K (.ref S) (.ref S) = some true := by
  have e1 : (PySem.W.subIn K (.ref S) (.type "BaseException") == some true) = true := by rw [h1] <;> rfl
  have e2 : ((PySem.W.clsIn K S).isSome && PySem.W.typeIn K (.ref S) == some (.type "type")) = true := by
    have h2' : (PySem.W.clsIn K S).isSome = true := h2
    rw [h2', h3] <;> rfl
  show (if (PySem.W.subIn K (.ref S) (.type "BaseException") == some true) = true then (if ((PySem.W.clsIn K S).isSome && PySem.W.typeIn K (.ref S) == some (.type "type")) = true then PySem.W.subIn K (.ref S) (.ref S) else none) else none) = some true
  rw [if_pos e1, if_pos e2]
  exact h4
theorem vals_pow {t0 t1 t2 t3 t4 t5 t6 t7 t8 t9 t10 : Tok} : Vals (ivs powN) [.int 1 t0, .int 2 t1, .int 4 t2, .int 8 t3, .int 16 t4, .int 32 t5, .int 64 t6, .int 128 t7, .int 256 t8, .int 512 t9, .int 1024 t10] :=
  .cons ⟨_, rfl⟩ (.cons ⟨_, rfl⟩ (.cons ⟨_, rfl⟩ (.cons ⟨_, rfl⟩ (.cons ⟨_, rfl⟩ (.cons ⟨_, rfl⟩ (.cons ⟨_, rfl⟩ (.cons ⟨_, rfl⟩ (.cons ⟨_, rfl⟩ (.cons ⟨_, rfl⟩ (.cons ⟨_, rfl⟩ .nil))))))))))

/-! ### the request -/
abbrev cI : Codec := .int (Int.ofNat 0) (Int.ofNat 4294967295)
abbrev cL : Codec := .list 0 23 cI
section
variable {K : PySem.W.Frag} {H : Hp}
theorem dw_cons {xs : List V} {d : WData} {ds : List WData} (h : DwAll K H xs (d :: ds)) : ∃ v r, xs = v :: r ∧ Dw K H v d ∧ DwAll K H r ds := by
  cases h with
  | cons h1 h2 => exact ⟨_, _, rfl, h1, h2⟩
theorem dw_nil {xs : List V} (h : DwAll K H xs []) : xs = [] := by
  cases h
  rfl
theorem rd_int {v : V} {i : Int} (h : Codec.inInt (Int.ofNat 0) (Int.ofNat 4294967295) i = true) (hx : Dw K H v (.int i)) : v = iv i.toNat := by
  cases hx
  have h0 : 0 ≤ i := (Codec.inInt_iff.mp h).1
  show V.int i = V.int ((i.toNat : Nat) : Int)
  rw [Int.toNat_of_nonneg h0]
theorem rd_list {v : V} {ns : List Int} (h : (Codec.inLen 0 23 ns && ns.all (Codec.inInt (Int.ofNat 0) (Int.ofNat 4294967295))) = true) (hx : Dw K H v (.list (ns.map WData.int))) :
    ∃ a, v = .ref a ∧ SqL K H a (ivs (ns.map Int.toNat)) ∧ (ns.map Int.toNat).length ≤ 23 := by
  rw [Bool.and_eq_true] at h
  obtain ⟨h1, h2⟩ := h
  cases hx with
  | @lst a xs ds hs ha =>
    have e := ints_dw ns _ ha
    subst e
    have e2 : ivs (ns.map Int.toNat) = ns.map V.int := by
      rw [← nat_back ns fun x hx => (Codec.inInt_iff.mp (List.all_eq_true.mp h2 x hx)).1, List.map_map, List.map_map, List.map_map]
      congr 1
    refine ⟨a, rfl, ?_, ?_⟩
    · rw [e2]
      exact hs
    · rw [List.length_map]
      exact (Codec.inNat_iff.mp h1).2
theorem said_cnt {a : Codec.denoteAll [cL]} {xs : List V} (hwi : Codec.withinAll [cL] a = true) (hx : DwAll K H xs (Codec.encAll [cL] a)) : spCnt K xs H (fun v H' => Dw K H' v (WData.list ((PyKs592.count_closed_sets a.1).map WData.int))) (fun _ _ _ => False) := by
  have q : ((Codec.inLen 0 23 a.1 && a.1.all (Codec.inInt (Int.ofNat 0) (Int.ofNat 4294967295))) && true) = true := hwi
  simp only [Bool.and_eq_true] at q
  obtain ⟨ql, _⟩ := q
  obtain ⟨v, xs, rfl, h, hx⟩ := dw_cons hx
  have e0 := dw_nil hx
  subst e0
  obtain ⟨b, rfl, hs, hl⟩ := rd_list (by rw [Bool.and_eq_true]; exact ql) h
  rw [py_count]
  exact ⟨_, _, rfl, hs, hl, fun H' p hp => .lst (SqL.of hp) (dw_ints _)⟩
theorem said_seq {a : Codec.denoteAll [cL]} {xs : List V} (hwi : Codec.withinAll [cL] a = true) (hx : DwAll K H xs (Codec.encAll [cL] a)) : spSeq K xs H (fun v H' => Dw K H' v (WData.list ((PyKs592.pruning_sequence a.1).map WData.int))) (fun _ _ _ => False) := by
  have q : ((Codec.inLen 0 23 a.1 && a.1.all (Codec.inInt (Int.ofNat 0) (Int.ofNat 4294967295))) && true) = true := hwi
  simp only [Bool.and_eq_true] at q
  obtain ⟨ql, _⟩ := q
  obtain ⟨v, xs, rfl, h, hx⟩ := dw_cons hx
  have e0 := dw_nil hx
  subst e0
  obtain ⟨b, rfl, hs, hl⟩ := rd_list (by rw [Bool.and_eq_true]; exact ql) h
  rw [py_seq]
  exact ⟨_, _, rfl, hs, hl, fun H' p hp => .lst (SqL.of hp) (dw_ints _)⟩
theorem said_lim {a : Codec.denoteAll [cI, cL]} {xs : List V} (hwi : Codec.withinAll [cI, cL] a = true) (hx : DwAll K H xs (Codec.encAll [cI, cL] a)) : spLim K xs H (fun v H' => Dw K H' v (WData.list ((PyKs592.best_with_limit a.1 a.2.1).map WData.int))) (fun _ _ _ => False) := by
  have q : (Codec.inInt (Int.ofNat 0) (Int.ofNat 4294967295) a.1 && ((Codec.inLen 0 23 a.2.1 && a.2.1.all (Codec.inInt (Int.ofNat 0) (Int.ofNat 4294967295))) && true)) = true := hwi
  simp only [Bool.and_eq_true] at q
  obtain ⟨q0, ql, _⟩ := q
  obtain ⟨v0, xs, rfl, h0, hx⟩ := dw_cons hx
  obtain ⟨v, xs, rfl, h, hx⟩ := dw_cons hx
  have e0 := dw_nil hx
  subst e0
  have e1 := rd_int q0 h0
  subst e1
  obtain ⟨b, rfl, hs, hl⟩ := rd_list (by rw [Bool.and_eq_true]; exact ql) h
  rw [py_limit]
  exact ⟨_, _, _, rfl, hs, hl, fun H' p hp => .lst (SqL.of hp) (dw_ints _)⟩
theorem said_lnk {a : Codec.denoteAll [cI, cL]} {xs : List V} (hwi : Codec.withinAll [cI, cL] a = true) (hx : DwAll K H xs (Codec.encAll [cI, cL] a)) : spLnk K xs H (fun v H' => Dw K H' v (WData.list ((PyKs592.weakest_link a.1 a.2.1).map WData.int))) (fun _ _ _ => False) := by
  have q : (Codec.inInt (Int.ofNat 0) (Int.ofNat 4294967295) a.1 && ((Codec.inLen 0 23 a.2.1 && a.2.1.all (Codec.inInt (Int.ofNat 0) (Int.ofNat 4294967295))) && true)) = true := hwi
  simp only [Bool.and_eq_true] at q
  obtain ⟨q0, ql, _⟩ := q
  obtain ⟨v0, xs, rfl, h0, hx⟩ := dw_cons hx
  obtain ⟨v, xs, rfl, h, hx⟩ := dw_cons hx
  have e0 := dw_nil hx
  subst e0
  have e1 := rd_int q0 h0
  subst e1
  obtain ⟨b, rfl, hs, hl⟩ := rd_list (by rw [Bool.and_eq_true]; exact ql) h
  rw [py_weakest]
  exact ⟨_, _, _, rfl, hs, hl, fun H' p hp => .lst (SqL.of hp) (dw_ints _)⟩
theorem said_opt {a : Codec.denoteAll [cI, cI, cL]} {xs : List V} (hwi : Codec.withinAll [cI, cI, cL] a = true) (hx : DwAll K H xs (Codec.encAll [cI, cI, cL] a)) : spOpt K xs H (fun v H' => Dw K H' v (WData.list ((PyKs592.optimal_pruning a.1 a.2.1 a.2.2.1).map WData.int))) (fun _ _ _ => False) := by
  have q : (Codec.inInt (Int.ofNat 0) (Int.ofNat 4294967295) a.1 && (Codec.inInt (Int.ofNat 0) (Int.ofNat 4294967295) a.2.1 && ((Codec.inLen 0 23 a.2.2.1 && a.2.2.1.all (Codec.inInt (Int.ofNat 0) (Int.ofNat 4294967295))) && true))) = true := hwi
  simp only [Bool.and_eq_true] at q
  obtain ⟨q0, q1, ql, _⟩ := q
  obtain ⟨v0, xs, rfl, h0, hx⟩ := dw_cons hx
  obtain ⟨v1, xs, rfl, h1, hx⟩ := dw_cons hx
  obtain ⟨v, xs, rfl, h, hx⟩ := dw_cons hx
  have e0 := dw_nil hx
  subst e0
  have e1 := rd_int q0 h0
  subst e1
  have e2 := rd_int q1 h1
  subst e2
  obtain ⟨b, rfl, hs, hl⟩ := rd_list (by rw [Bool.and_eq_true]; exact ql) h
  rw [py_opt]
  exact ⟨_, _, _, _, rfl, hs, hl, fun H' p hp => .lst (SqL.of hp) (dw_ints _)⟩
theorem said_brn {a : Codec.denoteAll [cI, cI, cL]} {xs : List V} (hwi : Codec.withinAll [cI, cI, cL] a = true) (hx : DwAll K H xs (Codec.encAll [cI, cI, cL] a)) : spBrn K xs H (fun v H' => Dw K H' v (WData.list ((PyKs592.branch a.1 a.2.1 a.2.2.1).map WData.int))) (fun _ _ _ => False) := by
  have q : (Codec.inInt (Int.ofNat 0) (Int.ofNat 4294967295) a.1 && (Codec.inInt (Int.ofNat 0) (Int.ofNat 4294967295) a.2.1 && ((Codec.inLen 0 23 a.2.2.1 && a.2.2.1.all (Codec.inInt (Int.ofNat 0) (Int.ofNat 4294967295))) && true))) = true := hwi
  simp only [Bool.and_eq_true] at q
  obtain ⟨q0, q1, ql, _⟩ := q
  obtain ⟨v0, xs, rfl, h0, hx⟩ := dw_cons hx
  obtain ⟨v1, xs, rfl, h1, hx⟩ := dw_cons hx
  obtain ⟨v, xs, rfl, h, hx⟩ := dw_cons hx
  have e0 := dw_nil hx
  subst e0
  have e1 := rd_int q0 h0
  subst e1
  have e2 := rd_int q1 h1
  subst e2
  obtain ⟨b, rfl, hs, hl⟩ := rd_list (by rw [Bool.and_eq_true]; exact ql) h
  rw [py_branch]
  exact ⟨_, _, _, _, rfl, hs, hl, fun H' p hp => .lst (SqL.of hp) (dw_ints _)⟩
theorem said_obj {a : Codec.denoteAll [cI, cI, cI, cL]} {xs : List V} (hwi : Codec.withinAll [cI, cI, cI, cL] a = true) (hx : DwAll K H xs (Codec.encAll [cI, cI, cI, cL] a)) : spObj K xs H (fun v H' => Dw K H' v (WData.list ((PyKs592.objective a.1 a.2.1 a.2.2.1 a.2.2.2.1).map WData.int))) (fun _ _ _ => False) := by
  have q : (Codec.inInt (Int.ofNat 0) (Int.ofNat 4294967295) a.1 && (Codec.inInt (Int.ofNat 0) (Int.ofNat 4294967295) a.2.1 && (Codec.inInt (Int.ofNat 0) (Int.ofNat 4294967295) a.2.2.1 && ((Codec.inLen 0 23 a.2.2.2.1 && a.2.2.2.1.all (Codec.inInt (Int.ofNat 0) (Int.ofNat 4294967295))) && true)))) = true := hwi
  simp only [Bool.and_eq_true] at q
  obtain ⟨q0, q1, q2, ql, _⟩ := q
  obtain ⟨v0, xs, rfl, h0, hx⟩ := dw_cons hx
  obtain ⟨v1, xs, rfl, h1, hx⟩ := dw_cons hx
  obtain ⟨v2, xs, rfl, h2, hx⟩ := dw_cons hx
  obtain ⟨v, xs, rfl, h, hx⟩ := dw_cons hx
  have e0 := dw_nil hx
  subst e0
  have e1 := rd_int q0 h0
  subst e1
  have e2 := rd_int q1 h1
  subst e2
  have e3 := rd_int q2 h2
  subst e3
  obtain ⟨b, rfl, hs, hl⟩ := rd_list (by rw [Bool.and_eq_true]; exact ql) h
  rw [py_obj]
  exact ⟨_, _, _, _, _, rfl, hs, hl, fun H' p hp => .lst (SqL.of hp) (dw_ints _)⟩
end
end WR

namespace WP
open PySem PySem.Spec PyProof.Rows L2 WM WR
/-! ### the text by places -/
def top (i : Nat) : Stmt := PySem.Challenge.pw_weaklink_s06_best_with_limit.main.body.getD i (.Pass ⟨0, 0, 0, 0⟩)
abbrev sXinit : Stmt := inClass (top 3) 0
abbrev sWant : Stmt := top 4
abbrev sInit : Stmt := inClass (top 9) 0
abbrev sTree : Stmt := top 11
abbrev sSize : Stmt := inClass (top 9) 1
abbrev sHas : Stmt := top 10
abbrev sNodes : Stmt := inClass (top 9) 3
abbrev sClosed : Stmt := inClass (top 9) 6
abbrev sSets : Stmt := inClass (top 9) 7
abbrev sCount : Stmt := inClass (top 9) 5
abbrev sWeight : Stmt := inClass (top 9) 4
abbrev sWithin : Stmt := top 13
abbrev sLim : Stmt := top 14
/-- what else the top has written -/
structure Left (K : PySem.W.Frag) (mg : Str → Option Value) (C R pw fXI fTI : Addr) (tNodes tMost tRange22 : Tok) : Prop where
  len : mg "len" = none
  range : mg "range" = none
  sum : mg "sum" = none
  pow : mg "POWERS" = some (.ref pw)
  gC : mg "Tree" = some (.ref C)
  gR : mg "Refused" = some (.ref R)
  mkT : Mk K C fTI
  oex : OexC K R
  noC : PySem.W.findIn K (.ref R) "code" = some none
  xi : PySem.W.findIn K (.ref R) "__init__" = some (some (.ref fXI))
  xt : PySem.W.typeIn K (.ref fXI) = some (.type "function")
  xf : XfC K R
  te : PySem.W.exmOne K (.ref R) (.ref R) = some true
  nodes : mg "MOST_NODES" = some (.int (10) tNodes)
  most : mg "MOST_WEIGHT" = some (.int (99) tMost)
  range22 : mg "OUT_OF_RANGE" = some (.int (-22) tRange22)
section
variable {P : Program} {w : World} {K : PySem.W.Frag} {mg : Str → Option Value} {base : Heap} {C R pw : Addr}
variable {fXI fTI fWant fTree fSize fHas fNodes fClosed fSets fCount fWeight fWithin fLim : Addr} {dXinit dWant dInit dTree dSize dHas dNodes dClosed dSets dCount dWeight dWithin dLim : FuncData} {tNodes tMost tRange22 : Tok}
theorem sc_xinit : FnScope ["self", "code"] ["self", "code"] (defScope sXinit) := ⟨rfl, rfl, rfl, by decide +kernel, rfl, by decide +kernel, by decide +kernel⟩
theorem ok_xinit (X : Txt K C pw) (Y : Left K mg C R pw fXI fTI tNodes tMost tRange22) (Dxinit : Ini K "Refused.__init__" sXinit fXI dXinit ["self", "code"])  : FnOk P w K mg base CX0 1 fXI dXinit ["self", "code"] (spXInit R) := by
  refine Dxinit.F.ok sc_xinit (fun vs H Q E h => by obtain ⟨_, _, rfl, _⟩ := h; rfl) (fun cdv A outer s H vs Q E hr h => ⟨t_xinit K, ?_, pure_xinit Y.oex Y.noC vs H Q E h⟩)
  exact (pss_one (ps_ost (pv 0) (pv 1)))
theorem sc_want : FnScope ["is_so", "code"] ["is_so", "code"] (defScope sWant) := ⟨rfl, rfl, rfl, by decide +kernel, rfl, by decide +kernel, by decide +kernel⟩
theorem ok_want (X : Txt K C pw) (Y : Left K mg C R pw fXI fTI tNodes tMost tRange22) (Dwant : Dfn K mg "want" sWant fWant dWant ["is_so", "code"]) (Dxinit : Ini K "Refused.__init__" sXinit fXI dXinit ["self", "code"]) (Gxinit : FnOk P w K mg base CX0 1 fXI dXinit ["self", "code"] (spXInit R)) : FnOk P w K mg base (L2.CX P w) 3 fWant dWant ["is_so", "code"] (spWant R) := by
  refine Dwant.F.okX sc_want (fun vs H Q E h => by obtain ⟨_, _, rfl, _⟩ := h; rfl) (fun cdv A outer s H vs Q E hr h => ⟨t_want R E, ?_, pure_want vs H Q E h⟩)
  exact (pss_one (ps_if (pt_not (pt_val (pv 0))) (pss_one (ps_raise rfl (takes_of rfl rfl rfl rfl) (pmk_oex Y.oex Y.xi Y.xt Gxinit (hr.mono (by decide)) Dxinit.b .nil pass0 rfl Y.gR (pa_cons (pv 1) pa_nil)))) pss_nil))
theorem sc_init : FnScope ["self", "parents", "weights"] ["self", "parents", "weights"] (defScope sInit) := ⟨rfl, rfl, rfl, by decide +kernel, rfl, by decide +kernel, by decide +kernel⟩
theorem ok_init (X : Txt K C pw) (Y : Left K mg C R pw fXI fTI tNodes tMost tRange22) (Dinit : Ini K "Tree.__init__" sInit fTI dInit ["self", "parents", "weights"])  : FnOk P w K mg base CX0 1 fTI dInit ["self", "parents", "weights"] (spInit C) := by
  refine Dinit.F.ok sc_init (fun vs H Q E h => by obtain ⟨_, _, _, _, rfl, _⟩ := h; rfl) (fun cdv A outer s H vs Q E hr h => ⟨t_init K, ?_, pure_init X vs H Q E h⟩)
  exact (pss_cons (ps_fld (pv 0) (pv 1) rfl)
      (pss_one (ps_fld (pv 0) (pv 2) rfl)))
theorem sc_tree : FnScope ["row", "parents", "weights", "at"] ["row"] (defScope sTree) := ⟨rfl, rfl, rfl, by decide +kernel, rfl, by decide +kernel, by decide +kernel⟩
theorem ok_tree (X : Txt K C pw) (Y : Left K mg C R pw fXI fTI tNodes tMost tRange22) (Dtree : Dfn K mg "tree_of" sTree fTree dTree ["row"]) (Dwant : Dfn K mg "want" sWant fWant dWant ["is_so", "code"]) (Gwant : FnOk P w K mg base (L2.CX P w) 3 fWant dWant ["is_so", "code"] (spWant R)) (Dinit : Ini K "Tree.__init__" sInit fTI dInit ["self", "parents", "weights"]) (Ginit : FnOk P w K mg base CX0 1 fTI dInit ["self", "parents", "weights"] (spInit C)) : FnOk P w K mg base (L2.CX P w) 4 fTree dTree ["row"] (spTreeOf K C R) := by
  refine Dtree.F.okX sc_tree (fun vs H Q E h => by obtain ⟨_, _, rfl, _⟩ := h; rfl) (fun cdv A outer s H vs Q E hr h => ⟨t_tree K C R E, ?_, pure_tree vs H Q E h⟩)
  exact (pss_cons (ps_expr (pe_call Gwant (hr.mono (by decide)) rfl Dwant.g Dwant.F.kp Dwant.b .nil (passes_call (takes_of rfl rfl rfl rfl) fun _ _ _ _ h => h) (pa_cons (pe_and (pe_cmpR op_eq (pe_op op_mod (pe_callB call_len_seq (by rfl) Y.len PySem.boot_len (pa_cons (pv 0) pa_nil)) pe_int) pe_int (nomark _)) (pe_one (pe_cmpR op_le (pe_callB call_len_seq (by rfl) Y.len PySem.boot_len (pa_cons (pv 0) pa_nil)) (pe_op op_mul pe_int (pe_glob rfl Y.nodes ⟨_, rfl⟩)) (nomark _)))) (pa_cons (pe_glob rfl Y.range22 ⟨_, rfl⟩) pa_nil))))
      (pss_cons (ps_par (i := 1) (j := 2) rfl sc_tree.nd rfl rfl (by decide) rfl rfl (pa_cons (pe_lst pa_nil) (pa_cons (pe_lst pa_nil) pa_nil)) (by rfl))
      (pss_cons (ps_for (passes_of rfl) rfl (pi_range3 (by rfl) Y.range (pa_cons pe_int (pa_cons (pe_callB call_len_seq (by rfl) Y.len PySem.boot_len (pa_cons (pv 0) pa_nil)) (pa_cons pe_int pa_nil)))) (pg_name (i := 3) sc_tree.nd rfl (Or.inl rfl)) (pss_cons (ps_expr (pe_call Gwant (hr.mono (by decide)) rfl Dwant.g Dwant.F.kp Dwant.b .nil (passes_call (takes_of rfl rfl rfl rfl) fun _ _ _ _ h => h) (pa_cons (pe_and (pe_cmpR op_le (pe_ix ix_list (pv 0) (pv 3) (fun _ _ => rfl)) (pe_op op_fdiv (pv 3) pe_int) (nomark _)) (pe_one (pe_cmpR op_le (pe_ix ix_list (pv 0) (pe_op op_add (pv 3) pe_int) (fun _ _ => rfl)) (pe_glob rfl Y.most ⟨_, rfl⟩) (nomark _)))) (pa_cons (pe_glob rfl Y.range22 ⟨_, rfl⟩) pa_nil))))
      (pss_cons (ps_expr (pe_bm PySem.F.plainAttrs_list PySem.F.slot_list_append PySem.F.type_list_append mt_append (pv 1) (pa_cons (pe_op op_sub (pe_ix ix_list (pv 0) (pv 3) (fun _ _ => rfl)) pe_int) pa_nil)))
      (pss_one (ps_expr (pe_bm PySem.F.plainAttrs_list PySem.F.slot_list_append PySem.F.type_list_append mt_append (pv 2) (pa_cons (pe_ix ix_list (pv 0) (pe_op op_add (pv 3) pe_int) (fun _ _ => rfl)) pa_nil)))))))
      (pss_one (ps_ret (pe_make Y.mkT Ginit (hr.mono (by decide)) rfl Y.gC Dinit.b .nil pass0 (pa_cons (pv 1) (pa_cons (pv 2) pa_nil))))))))
theorem sc_size : FnScope ["self"] ["self"] (defScope sSize) := ⟨rfl, rfl, rfl, by decide +kernel, rfl, by decide +kernel, by decide +kernel⟩
theorem ok_size (X : Txt K C pw) (Y : Left K mg C R pw fXI fTI tNodes tMost tRange22) (Dsize : Mth K C "size" "Tree.size" sSize fSize dSize ["self"])  : FnOk P w K mg base CX0 1 fSize dSize ["self"] (spSize C) := by
  refine Dsize.F.ok sc_size (fun vs H Q E h => by obtain ⟨_, _, rfl, _⟩ := h; rfl) (fun cdv A outer s H vs Q E hr h => ⟨t_size K, ?_, pure_size X vs H Q E h⟩)
  exact (pss_one (ps_ret (pe_callB call_len_seq (by rfl) Y.len PySem.boot_len (pa_cons (pe_fld (pv 0) rfl) pa_nil))))
theorem sc_has : FnScope ["mask", "node"] ["mask", "node"] (defScope sHas) := ⟨rfl, rfl, rfl, by decide +kernel, rfl, by decide +kernel, by decide +kernel⟩
theorem ok_has (X : Txt K C pw) (Y : Left K mg C R pw fXI fTI tNodes tMost tRange22) (Dhas : Dfn K mg "has_node" sHas fHas dHas ["mask", "node"])  : FnOk P w K mg base CX0 1 fHas dHas ["mask", "node"] (spHas) := by
  refine Dhas.F.ok sc_has (fun vs H Q E h => by obtain ⟨_, _, rfl, _⟩ := h; rfl) (fun cdv A outer s H vs Q E hr h => ⟨t_has K pw, ?_, pure_has X vs H Q E h⟩)
  exact (pss_one (ps_ret (pe_cmpR op_eq (pe_op op_mod (pe_op op_fdiv (pv 0) (pe_ix ix_tup (pe_glob rfl Y.pow rfl) (pv 1) (fun _ _ => rfl))) pe_int) pe_int (nomark _))))
theorem sc_nodes : FnScope ["self", "mask", "node"] ["self", "mask"] (defScope sNodes) := ⟨rfl, rfl, rfl, by decide +kernel, rfl, by decide +kernel, by decide +kernel⟩
theorem ok_nodes (X : Txt K C pw) (Y : Left K mg C R pw fXI fTI tNodes tMost tRange22) (Dnodes : Mth K C "nodes_in" "Tree.nodes_in" sNodes fNodes dNodes ["self", "mask"]) (Dsize : Mth K C "size" "Tree.size" sSize fSize dSize ["self"]) (Gsize : FnOk P w K mg base CX0 1 fSize dSize ["self"] (spSize C)) (Dhas : Dfn K mg "has_node" sHas fHas dHas ["mask", "node"]) (Ghas : FnOk P w K mg base CX0 1 fHas dHas ["mask", "node"] (spHas)) : FnOk P w K mg base CX0 2 fNodes dNodes ["self", "mask"] (spNodes C) := by
  refine Dnodes.F.ok sc_nodes (fun vs H Q E h => by obtain ⟨_, _, _, rfl, _⟩ := h; rfl) (fun cdv A outer s H vs Q E hr h => ⟨t_nodes C, ?_, pure_nodes vs H Q E h⟩)
  exact (pss_one (ps_ret (pe_lc (own := [("node", 2)]) (g := gName 2) rfl sc_nodes.nd (pi_range1 (by rfl) Y.range (pa_cons (pe_meth0 (pv 0) X.cl Dsize.m Gsize (hr.mono (by decide)) Dsize.b .nil pass0) pa_nil)) (blkOk_by (N := ["self", "mask", "node"]) (sc := defScope sNodes) (by decide +kernel)) (fun _ _ _ _ _ => pg_name (i := 2) sc_nodes.nd rfl (Or.inl rfl)) (fun _ _ _ _ _ => pts_one (pt_val (pe_call Ghas (hr.mono (by decide)) rfl Dhas.g Dhas.F.kp Dhas.b .nil pass0 (pa_cons (pv 1) (pa_cons (pv 2) pa_nil))))) (fun _ _ _ _ _ => pv 2))))
theorem sc_closed : FnScope ["self", "mask", "node"] ["self", "mask"] (defScope sClosed) := ⟨rfl, rfl, rfl, by decide +kernel, rfl, by decide +kernel, by decide +kernel⟩
theorem ok_closed (X : Txt K C pw) (Y : Left K mg C R pw fXI fTI tNodes tMost tRange22) (Dclosed : Mth K C "is_closed" "Tree.is_closed" sClosed fClosed dClosed ["self", "mask"]) (Dnodes : Mth K C "nodes_in" "Tree.nodes_in" sNodes fNodes dNodes ["self", "mask"]) (Gnodes : FnOk P w K mg base CX0 2 fNodes dNodes ["self", "mask"] (spNodes C)) (Dhas : Dfn K mg "has_node" sHas fHas dHas ["mask", "node"]) (Ghas : FnOk P w K mg base CX0 1 fHas dHas ["mask", "node"] (spHas)) : FnOk P w K mg base CX0 3 fClosed dClosed ["self", "mask"] (spClosed C) := by
  refine Dclosed.F.ok sc_closed (fun vs H Q E h => by obtain ⟨_, _, _, rfl, _⟩ := h; rfl) (fun cdv A outer s H vs Q E hr h => ⟨t_closed K C, ?_, pure_closed X vs H Q E h⟩)
  exact (pss_cons (ps_for PassesOwn.never rfl (pi_list (pe_meth (pv 0) X.cl Dnodes.m Gnodes (hr.mono (by decide)) Dnodes.b .nil pass0 (pa_cons (pv 1) pa_nil))) (pg_name (i := 2) sc_closed.nd rfl (Or.inl rfl)) (pss_one (ps_if (PW.pt (pw_and (pt_cmpR op_ge (pe_ix ix_list (pe_fld (pv 0) rfl) (pv 2) (fun _ _ => rfl)) pe_int (nomark _)) (pw_and1 (pt_not (pt_val (pe_call Ghas (hr.mono (by decide)) rfl Dhas.g Dhas.F.kp Dhas.b .nil pass0 (pa_cons (pv 1) (pa_cons (pe_ix ix_list (pe_fld (pv 0) rfl) (pv 2) (fun _ _ => rfl)) pa_nil)))))))) (pss_one (ps_ret pe_bl)) pss_nil)))
      (pss_one (ps_ret pe_bl)))
theorem sc_sets : FnScope ["self", "mask"] ["self"] (defScope sSets) := ⟨rfl, rfl, rfl, by decide +kernel, rfl, by decide +kernel, by decide +kernel⟩
theorem ok_sets (X : Txt K C pw) (Y : Left K mg C R pw fXI fTI tNodes tMost tRange22) (Dsets : Mth K C "closed_sets" "Tree.closed_sets" sSets fSets dSets ["self"]) (Dsize : Mth K C "size" "Tree.size" sSize fSize dSize ["self"]) (Gsize : FnOk P w K mg base CX0 1 fSize dSize ["self"] (spSize C)) (Dclosed : Mth K C "is_closed" "Tree.is_closed" sClosed fClosed dClosed ["self", "mask"]) (Gclosed : FnOk P w K mg base CX0 3 fClosed dClosed ["self", "mask"] (spClosed C)) : FnOk P w K mg base CX0 4 fSets dSets ["self"] (spSets C) := by
  refine Dsets.F.ok sc_sets (fun vs H Q E h => by obtain ⟨_, _, rfl, _⟩ := h; rfl) (fun cdv A outer s H vs Q E hr h => ⟨t_sets K C pw, ?_, pure_sets X vs H Q E h⟩)
  exact (pss_one (ps_ret (pe_lc (own := [("mask", 1)]) (g := gName 1) rfl sc_sets.nd (pi_range1 (by rfl) Y.range (pa_cons (pe_ix ix_tup (pe_glob rfl Y.pow rfl) (pe_meth0 (pv 0) X.cl Dsize.m Gsize (hr.mono (by decide)) Dsize.b .nil pass0) (fun _ _ => rfl)) pa_nil)) (blkOk_by (N := ["self", "mask"]) (sc := defScope sSets) (by decide +kernel)) (fun _ _ _ _ _ => pg_name (i := 1) sc_sets.nd rfl (Or.inl rfl)) (fun _ _ _ _ _ => pts_one (pt_val (pe_meth (pv 0) X.cl Dclosed.m Gclosed (hr.mono (by decide)) Dclosed.b .nil pass0 (pa_cons (pv 1) pa_nil)))) (fun _ _ _ _ _ => pv 1))))
theorem sc_count : FnScope ["self", "mask"] ["self", "mask"] (defScope sCount) := ⟨rfl, rfl, rfl, by decide +kernel, rfl, by decide +kernel, by decide +kernel⟩
theorem ok_count (X : Txt K C pw) (Y : Left K mg C R pw fXI fTI tNodes tMost tRange22) (Dcount : Mth K C "count_of" "Tree.count_of" sCount fCount dCount ["self", "mask"]) (Dnodes : Mth K C "nodes_in" "Tree.nodes_in" sNodes fNodes dNodes ["self", "mask"]) (Gnodes : FnOk P w K mg base CX0 2 fNodes dNodes ["self", "mask"] (spNodes C)) : FnOk P w K mg base CX0 3 fCount dCount ["self", "mask"] (spCount C) := by
  refine Dcount.F.ok sc_count (fun vs H Q E h => by obtain ⟨_, _, _, rfl, _⟩ := h; rfl) (fun cdv A outer s H vs Q E hr h => ⟨t_count K C, ?_, pure_count vs H Q E h⟩)
  exact (pss_one (ps_ret (pe_callB call_len_seq (by rfl) Y.len PySem.boot_len (pa_cons (pe_meth (pv 0) X.cl Dnodes.m Gnodes (hr.mono (by decide)) Dnodes.b .nil pass0 (pa_cons (pv 1) pa_nil)) pa_nil))))
theorem sc_weight : FnScope ["self", "mask", "node"] ["self", "mask"] (defScope sWeight) := ⟨rfl, rfl, rfl, by decide +kernel, rfl, by decide +kernel, by decide +kernel⟩
theorem ok_weight (X : Txt K C pw) (Y : Left K mg C R pw fXI fTI tNodes tMost tRange22) (Dweight : Mth K C "weight_of" "Tree.weight_of" sWeight fWeight dWeight ["self", "mask"]) (Dnodes : Mth K C "nodes_in" "Tree.nodes_in" sNodes fNodes dNodes ["self", "mask"]) (Gnodes : FnOk P w K mg base CX0 2 fNodes dNodes ["self", "mask"] (spNodes C)) : FnOk P w K mg base CX0 3 fWeight dWeight ["self", "mask"] (spWeight C) := by
  refine Dweight.F.ok sc_weight (fun vs H Q E h => by obtain ⟨_, _, _, rfl, _⟩ := h; rfl) (fun cdv A outer s H vs Q E hr h => ⟨t_weight K C, ?_, pure_weight X vs H Q E h⟩)
  exact (pss_one (ps_ret (pe_callB (cr_sum rfl) (by rfl) Y.sum (by decide +kernel) (pa_cons (pe_lc (own := [("node", 2)]) (g := gName 2) rfl sc_weight.nd (pi_list (pe_meth (pv 0) X.cl Dnodes.m Gnodes (hr.mono (by decide)) Dnodes.b .nil pass0 (pa_cons (pv 1) pa_nil))) (blkOk_by (N := ["self", "mask", "node"]) (sc := defScope sWeight) (by decide +kernel)) (fun _ _ _ _ _ => pg_name (i := 2) sc_weight.nd rfl (Or.inl rfl)) (fun _ _ _ _ _ => pts_nil) (fun _ _ _ _ _ => (pe_ix ix_list (pe_fld (pv 0) rfl) (pv 2) (fun _ _ => rfl)))) pa_nil))))
theorem sc_within : FnScope ["tree", "limit", "best", "mask"] ["tree", "limit"] (defScope sWithin) := ⟨rfl, rfl, rfl, by decide +kernel, rfl, by decide +kernel, by decide +kernel⟩
theorem ok_within (X : Txt K C pw) (Y : Left K mg C R pw fXI fTI tNodes tMost tRange22) (Dwithin : Dfn K mg "best_within" sWithin fWithin dWithin ["tree", "limit"]) (Dsets : Mth K C "closed_sets" "Tree.closed_sets" sSets fSets dSets ["self"]) (Gsets : FnOk P w K mg base CX0 4 fSets dSets ["self"] (spSets C)) (Dcount : Mth K C "count_of" "Tree.count_of" sCount fCount dCount ["self", "mask"]) (Gcount : FnOk P w K mg base CX0 3 fCount dCount ["self", "mask"] (spCount C)) (Dweight : Mth K C "weight_of" "Tree.weight_of" sWeight fWeight dWeight ["self", "mask"]) (Gweight : FnOk P w K mg base CX0 3 fWeight dWeight ["self", "mask"] (spWeight C)) : FnOk P w K mg base CX0 5 fWithin dWithin ["tree", "limit"] (spWithin C) := by
  refine Dwithin.F.ok sc_within (fun vs H Q E h => by obtain ⟨_, _, _, rfl, _⟩ := h; rfl) (fun cdv A outer s H vs Q E hr h => ⟨t_within K C, ?_, pure_within vs H Q E h⟩)
  exact (pss_cons (ps_set (i := 2) sc_within.nd rfl (Or.inl rfl) pe_int)
      (pss_cons (ps_for PassesOwn.never rfl (pi_list (pe_meth0 (pv 0) X.cl Dsets.m Gsets (hr.mono (by decide)) Dsets.b .nil pass0)) (pg_name (i := 3) sc_within.nd rfl (Or.inl rfl)) (pss_one (ps_if (PW.pt (pw_and (pt_cmpR op_le (pe_meth (pv 0) X.cl Dcount.m Gcount (hr.mono (by decide)) Dcount.b .nil pass0 (pa_cons (pv 3) pa_nil)) (pv 1) (nomark _)) (pw_and1 (pt_cmpR op_gt (pe_meth (pv 0) X.cl Dweight.m Gweight (hr.mono (by decide)) Dweight.b .nil pass0 (pa_cons (pv 3) pa_nil)) (pe_meth (pv 0) X.cl Dweight.m Gweight (hr.mono (by decide)) Dweight.b .nil pass0 (pa_cons (pv 2) pa_nil)) (nomark _))))) (pss_one (ps_set (i := 2) sc_within.nd rfl (Or.inl rfl) (pv 3))) pss_nil)))
      (pss_one (ps_ret (pv 2)))))
theorem sc_lim : FnScope ["limit", "tree", "own", "mask", "e"] ["limit", "tree"] (defScope sLim) := ⟨rfl, rfl, rfl, by decide +kernel, rfl, by decide +kernel, by decide +kernel⟩
theorem ok_lim (X : Txt K C pw) (Y : Left K mg C R pw fXI fTI tNodes tMost tRange22) (Dlim : Fun K "best_with_limit" "best_with_limit" sLim fLim dLim) (Dtree : Dfn K mg "tree_of" sTree fTree dTree ["row"]) (Gtree : FnOk P w K mg base (L2.CX P w) 4 fTree dTree ["row"] (spTreeOf K C R)) (Dwithin : Dfn K mg "best_within" sWithin fWithin dWithin ["tree", "limit"]) (Gwithin : FnOk P w K mg base CX0 5 fWithin dWithin ["tree", "limit"] (spWithin C)) (Dweight : Mth K C "weight_of" "Tree.weight_of" sWeight fWeight dWeight ["self", "mask"]) (Gweight : FnOk P w K mg base CX0 3 fWeight dWeight ["self", "mask"] (spWeight C)) : FnOk P w K mg base CX0 6 fLim dLim ["limit", "tree"] (spLim K) := by
  refine Dlim.ok sc_lim (fun vs H Q E h => by obtain ⟨_, _, _, rfl, _⟩ := h; rfl) (fun cdv A outer s H vs Q E hr h => ⟨t_lim K C R, ?_, pure_lim Y.te vs H Q E h⟩)
  exact (pss_one (ps_try_as (i := 4) (tb := fun W => b_lim K C R W) (ts := t_code R 4) (Wout := fun _ _ _ _ => False) rfl rfl sc_lim.nd rfl rfl ⟨rfl, by decide, Or.inl Y.gR⟩ takes0
    (fun W pn xe tk _ => (pss_cons (ps_set (i := 2) sc_lim.nd rfl (Or.inl rfl) (pe_callS Gtree (hr.mono (by decide)) rfl Dtree.g Dtree.F.kp Dtree.b (fun σ => passAt tk σ) (by exact (pa_cons (pv 1) pa_nil))))
      (pss_cons (ps_set (i := 3) sc_lim.nd rfl (Or.inl rfl) (pe_call Gwithin (hr.mono (by decide)) rfl Dwithin.g Dwithin.F.kp Dwithin.b .nil pass0 (pa_cons (pv 2) (pa_cons (pv 0) pa_nil))))
      (pss_one (ps_ret (pe_lst (pa_cons (pe_meth (pv 2) X.cl Dweight.m Gweight (hr.mono (by decide)) Dweight.b .nil pass0 (pa_cons (pv 3) pa_nil)) (pa_cons (pv 3) pa_nil))))))))
    (fun a oe cls d pn hz hf => pss_one (ps_ret (pe_lst (pa_cons (pe_xf Y.xf Y.noC hz hf (pv 4)) pa_nil))))))
end
/-! ### the end -/
theorem all_mk {P : Program} {w : World} {K : PySem.W.Frag} {h : Heap} {mg : Str → Option Value} {fa C R pw fXI fTI fWant fTree fSize fHas fNodes fClosed fSets fCount fWeight fWithin fLim : Addr} {tNodes tMost tRange22 : Tok} (X : K.In h) (G : h.Ns mainGlobals mg) (hfa : mg "best_with_limit" = some (.ref fa))
    {odXinit anXinit : Option Addr} {slXinit : Array (Option Value)} {ocXinit kVXinit dcXinit pmXinit cdXinit ctXinit : Value}
    {odWant anWant : Option Addr} {slWant : Array (Option Value)} {ocWant kVWant dcWant pmWant cdWant ctWant : Value}
    {odInit anInit : Option Addr} {slInit : Array (Option Value)} {ocInit kVInit dcInit pmInit cdInit ctInit : Value}
    {odTree anTree : Option Addr} {slTree : Array (Option Value)} {ocTree kVTree dcTree pmTree cdTree ctTree : Value}
    {odSize anSize : Option Addr} {slSize : Array (Option Value)} {ocSize kVSize dcSize pmSize cdSize ctSize : Value}
    {odHas anHas : Option Addr} {slHas : Array (Option Value)} {ocHas kVHas dcHas pmHas cdHas ctHas : Value}
    {odNodes anNodes : Option Addr} {slNodes : Array (Option Value)} {ocNodes kVNodes dcNodes pmNodes cdNodes ctNodes : Value}
    {odClosed anClosed : Option Addr} {slClosed : Array (Option Value)} {ocClosed kVClosed dcClosed pmClosed cdClosed ctClosed : Value}
    {odSets anSets : Option Addr} {slSets : Array (Option Value)} {ocSets kVSets dcSets pmSets cdSets ctSets : Value}
    {odCount anCount : Option Addr} {slCount : Array (Option Value)} {ocCount kVCount dcCount pmCount cdCount ctCount : Value}
    {odWeight anWeight : Option Addr} {slWeight : Array (Option Value)} {ocWeight kVWeight dcWeight pmWeight cdWeight ctWeight : Value}
    {odWithin anWithin : Option Addr} {slWithin : Array (Option Value)} {ocWithin kVWithin dcWithin pmWithin cdWithin ctWithin : Value}
    {odLim anLim : Option Addr} {slLim : Array (Option Value)} {ocLim kVLim dcLim pmLim cdLim ctLim : Value}
    {nm q : Str} {NN : Addr} {bs : List Value} {sn : List Str} {sub : List Value} {ab : Bool} {col : Option Bool} {dd dP : Option Addr} {m0 m1 m2 m3 m5 : Option Value} {vP : Array Value} {nP : Nat} {slP : Array (Option Value)}
    (aC : PySem.W.nsIn K mainGlobals "Tree" = some (some (.ref C)))
    (aR : PySem.W.nsIn K mainGlobals "Refused" = some (some (.ref R)))
    (aP : PySem.W.nsIn K mainGlobals "POWERS" = some (some (.ref pw)))
    (zlen : PySem.W.nsIn K mainGlobals "len" = some none)
    (zrange : PySem.W.nsIn K mainGlobals "range" = some none)
    (zsum : PySem.W.nsIn K mainGlobals "sum" = some none)
    (cNodes : PySem.W.nsIn K mainGlobals "MOST_NODES" = some (some (.int (10) tNodes)))
    (cMost : PySem.W.nsIn K mainGlobals "MOST_WEIGHT" = some (some (.int (99) tMost)))
    (cRange22 : PySem.W.nsIn K mainGlobals "OUT_OF_RANGE" = some (some (.int (-22) tRange22)))
    (lP : K.lookup pw = some ⟨.type "tuple", dP, .seq vP nP, slP⟩)
    (sP : vP.size ≤ sizeLine)
    (vPq : Vals (ivs powN) vP.toList)
    (aXinit : PySem.W.findIn K (.ref R) "__init__" = some (some (.ref fXI)))
    (lXinit : K.lookup fXI = some ⟨ocXinit, odXinit, .func (PySem.W.fnOf "__init__" "Refused.__init__" (defArgs sXinit) (defBody sXinit) (defScope sXinit) .none kVXinit dcXinit pmXinit anXinit cdXinit ctXinit), slXinit⟩)
    (qXinit : PySem.W.codeIn K cdXinit "Refused.__init__" = true)
    (kXinit : PySem.W.keepIn K (.ref fXI) = true)
    (aWant : PySem.W.nsIn K mainGlobals "want" = some (some (.ref fWant)))
    (lWant : K.lookup fWant = some ⟨ocWant, odWant, .func (PySem.W.fnOf "want" "want" (defArgs sWant) (defBody sWant) (defScope sWant) .none kVWant dcWant pmWant anWant cdWant ctWant), slWant⟩)
    (qWant : PySem.W.codeIn K cdWant "want" = true)
    (kWant : PySem.W.keepIn K (.ref fWant) = true)
    (aInit : PySem.W.findIn K (.ref C) "__init__" = some (some (.ref fTI)))
    (iInit : PySem.W.isFn K (.ref fTI) = true)
    (lInit : K.lookup fTI = some ⟨ocInit, odInit, .func (PySem.W.fnOf "__init__" "Tree.__init__" (defArgs sInit) (defBody sInit) (defScope sInit) .none kVInit dcInit pmInit anInit cdInit ctInit), slInit⟩)
    (qInit : PySem.W.codeIn K cdInit "Tree.__init__" = true)
    (kInit : PySem.W.keepIn K (.ref fTI) = true)
    (aTree : PySem.W.nsIn K mainGlobals "tree_of" = some (some (.ref fTree)))
    (lTree : K.lookup fTree = some ⟨ocTree, odTree, .func (PySem.W.fnOf "tree_of" "tree_of" (defArgs sTree) (defBody sTree) (defScope sTree) .none kVTree dcTree pmTree anTree cdTree ctTree), slTree⟩)
    (qTree : PySem.W.codeIn K cdTree "tree_of" = true)
    (kTree : PySem.W.keepIn K (.ref fTree) = true)
    (aSize : PySem.W.findIn K (.ref C) "size" = some (some (.ref fSize)))
    (iSize : PySem.W.isFn K (.ref fSize) = true)
    (lSize : K.lookup fSize = some ⟨ocSize, odSize, .func (PySem.W.fnOf "size" "Tree.size" (defArgs sSize) (defBody sSize) (defScope sSize) .none kVSize dcSize pmSize anSize cdSize ctSize), slSize⟩)
    (qSize : PySem.W.codeIn K cdSize "Tree.size" = true)
    (kSize : PySem.W.keepIn K (.ref fSize) = true)
    (aHas : PySem.W.nsIn K mainGlobals "has_node" = some (some (.ref fHas)))
    (lHas : K.lookup fHas = some ⟨ocHas, odHas, .func (PySem.W.fnOf "has_node" "has_node" (defArgs sHas) (defBody sHas) (defScope sHas) .none kVHas dcHas pmHas anHas cdHas ctHas), slHas⟩)
    (qHas : PySem.W.codeIn K cdHas "has_node" = true)
    (kHas : PySem.W.keepIn K (.ref fHas) = true)
    (aNodes : PySem.W.findIn K (.ref C) "nodes_in" = some (some (.ref fNodes)))
    (iNodes : PySem.W.isFn K (.ref fNodes) = true)
    (lNodes : K.lookup fNodes = some ⟨ocNodes, odNodes, .func (PySem.W.fnOf "nodes_in" "Tree.nodes_in" (defArgs sNodes) (defBody sNodes) (defScope sNodes) .none kVNodes dcNodes pmNodes anNodes cdNodes ctNodes), slNodes⟩)
    (qNodes : PySem.W.codeIn K cdNodes "Tree.nodes_in" = true)
    (kNodes : PySem.W.keepIn K (.ref fNodes) = true)
    (aClosed : PySem.W.findIn K (.ref C) "is_closed" = some (some (.ref fClosed)))
    (iClosed : PySem.W.isFn K (.ref fClosed) = true)
    (lClosed : K.lookup fClosed = some ⟨ocClosed, odClosed, .func (PySem.W.fnOf "is_closed" "Tree.is_closed" (defArgs sClosed) (defBody sClosed) (defScope sClosed) .none kVClosed dcClosed pmClosed anClosed cdClosed ctClosed), slClosed⟩)
    (qClosed : PySem.W.codeIn K cdClosed "Tree.is_closed" = true)
    (kClosed : PySem.W.keepIn K (.ref fClosed) = true)
    (aSets : PySem.W.findIn K (.ref C) "closed_sets" = some (some (.ref fSets)))
    (iSets : PySem.W.isFn K (.ref fSets) = true)
    (lSets : K.lookup fSets = some ⟨ocSets, odSets, .func (PySem.W.fnOf "closed_sets" "Tree.closed_sets" (defArgs sSets) (defBody sSets) (defScope sSets) .none kVSets dcSets pmSets anSets cdSets ctSets), slSets⟩)
    (qSets : PySem.W.codeIn K cdSets "Tree.closed_sets" = true)
    (kSets : PySem.W.keepIn K (.ref fSets) = true)
    (aCount : PySem.W.findIn K (.ref C) "count_of" = some (some (.ref fCount)))
    (iCount : PySem.W.isFn K (.ref fCount) = true)
    (lCount : K.lookup fCount = some ⟨ocCount, odCount, .func (PySem.W.fnOf "count_of" "Tree.count_of" (defArgs sCount) (defBody sCount) (defScope sCount) .none kVCount dcCount pmCount anCount cdCount ctCount), slCount⟩)
    (qCount : PySem.W.codeIn K cdCount "Tree.count_of" = true)
    (kCount : PySem.W.keepIn K (.ref fCount) = true)
    (aWeight : PySem.W.findIn K (.ref C) "weight_of" = some (some (.ref fWeight)))
    (iWeight : PySem.W.isFn K (.ref fWeight) = true)
    (lWeight : K.lookup fWeight = some ⟨ocWeight, odWeight, .func (PySem.W.fnOf "weight_of" "Tree.weight_of" (defArgs sWeight) (defBody sWeight) (defScope sWeight) .none kVWeight dcWeight pmWeight anWeight cdWeight ctWeight), slWeight⟩)
    (qWeight : PySem.W.codeIn K cdWeight "Tree.weight_of" = true)
    (kWeight : PySem.W.keepIn K (.ref fWeight) = true)
    (aWithin : PySem.W.nsIn K mainGlobals "best_within" = some (some (.ref fWithin)))
    (lWithin : K.lookup fWithin = some ⟨ocWithin, odWithin, .func (PySem.W.fnOf "best_within" "best_within" (defArgs sWithin) (defBody sWithin) (defScope sWithin) .none kVWithin dcWithin pmWithin anWithin cdWithin ctWithin), slWithin⟩)
    (qWithin : PySem.W.codeIn K cdWithin "best_within" = true)
    (kWithin : PySem.W.keepIn K (.ref fWithin) = true)
    (aLim : PySem.W.nsIn K mainGlobals "best_with_limit" = some (some (.ref fLim)))
    (lLim : K.lookup fLim = some ⟨ocLim, odLim, .func (PySem.W.fnOf "best_with_limit" "best_with_limit" (defArgs sLim) (defBody sLim) (defScope sLim) .none kVLim dcLim pmLim anLim cdLim ctLim), slLim⟩)
    (qLim : PySem.W.codeIn K cdLim "best_with_limit" = true)
    (kLim : PySem.W.keepIn K (.ref fLim) = true)
    (pg : PySem.W.plainGet K C Str.empty = true)
    (hd : PySem.W.hasDictIn K C = true)
    (po : PySem.W.plainOver K C = true)
    (sa : PySem.W.findIn K (.ref C) "__setattr__" = some (some (.builtin "object.__setattr__")))
    (mk : PySem.W.makesIn K C = true)
    (kc : PySem.W.keepIn K (.ref C) = true)
    (nPa : PySem.W.findIn K (.ref C) "parents" = some none)
    (nWe : PySem.W.findIn K (.ref C) "weights" = some none)
    (xL : K.lookup R = some (excClassObj nm q R NN bs [.type "ValueError", .type "Exception", .type "BaseException", .type "object"] true sn sub ab col dd m0 m1 m2 m3 m5 "ValueError.__new__"))
    (rsa : PySem.W.findIn K (.ref R) "__setattr__" = some (some (.builtin "object.__setattr__")))
    (rga : PySem.W.findIn K (.ref R) "__getattribute__" = some (some (.builtin "BaseException.__getattribute__")))
    (rgg : PySem.W.findIn K (.ref R) "__getattr__" = some none)
    (rnc : PySem.W.findIn K (.ref R) "code" = some none)
    (rt : PySem.W.typeIn K (.ref fXI) = some (.type "function"))
    (rk : PySem.W.keepIn K (.ref R) = true)
    (re : PySem.W.subIn K (.ref R) (.type "BaseException") = some true)
    (rty : PySem.W.typeIn K (.ref R) = some (.type "type"))
    (rh : PySem.W.hasDictIn K R = true)
    (ri : PySem.W.isClsIn K R = true)
    (rs : PySem.W.subIn K (.ref R) (.ref R) = some true)
    : ∃ fd : FuncData, (∀ (s : Shared) (us : List Value), us.length = (["limit", "tree"] : List Str).length → BindsTo s fd ⟨us, []⟩ ((["limit", "tree"] : List Str).zip us)) ∧ ∀ base : Heap, K.In base → base.Ns mainGlobals mg → FnOk P w K mg base CX0 6 fa fd ["limit", "tree"] (spLim K) := by
  have e := hfa.symm.trans (PySem.W.mg_of X G aLim)
  cases e
  have XT : Txt K C pw := ⟨⟨pg, hd, po, sa⟩, nPa, nWe, fun H => .inr ⟨_, vP, nP, lP, rfl, rfl, sP, vPq⟩⟩
  have YT : Left K mg C R pw fXI fTI tNodes tMost tRange22 :=
    { len := PySem.W.mg_none_of X G zlen, range := PySem.W.mg_none_of X G zrange, sum := PySem.W.mg_none_of X G zsum, pow := PySem.W.mg_of X G aP, gC := PySem.W.mg_of X G aC, gR := PySem.W.mg_of X G aR, mkT := ⟨mk, aInit, iInit, kc⟩,
      oex := ⟨⟨nm, q, NN, bs, _, sn, sub, ab, col, dd, m0, m1, m2, m3, m5, xL, by decide +kernel⟩, rsa, re, rty, rk⟩, noC := rnc, xi := aXinit, xt := rt, xf := ⟨rga, rgg, re, rh⟩, te := exmSelf re ri rty rs, nodes := PySem.W.mg_of X G cNodes, most := PySem.W.mg_of X G cMost, range22 := PySem.W.mg_of X G cRange22 }
  have Fxinit := fun_mk (st := sXinit) lXinit qXinit kXinit
  have Bxinit := Fxinit.binds (ps := ["self", "code"]) fun _ _ _ _ _ _ us hl => match us, hl with | [_, _], _ => rfl
  have Dxinit : Ini K "Refused.__init__" sXinit fXI _ ["self", "code"] := ⟨Fxinit, Bxinit⟩
  have Fwant := fun_mk (st := sWant) lWant qWant kWant
  have Bwant := Fwant.binds (ps := ["is_so", "code"]) fun _ _ _ _ _ _ us hl => match us, hl with | [_, _], _ => rfl
  have Dwant : Dfn K mg "want" sWant fWant _ ["is_so", "code"] := ⟨Fwant, Bwant, PySem.W.mg_of X G aWant⟩
  have Finit := fun_mk (st := sInit) lInit qInit kInit
  have Binit := Finit.binds (ps := ["self", "parents", "weights"]) fun _ _ _ _ _ _ us hl => match us, hl with | [_, _, _], _ => rfl
  have Dinit : Ini K "Tree.__init__" sInit fTI _ ["self", "parents", "weights"] := ⟨Finit, Binit⟩
  have Ftree := fun_mk (st := sTree) lTree qTree kTree
  have Btree := Ftree.binds (ps := ["row"]) fun _ _ _ _ _ _ us hl => match us, hl with | [_], _ => rfl
  have Dtree : Dfn K mg "tree_of" sTree fTree _ ["row"] := ⟨Ftree, Btree, PySem.W.mg_of X G aTree⟩
  have Fsize := fun_mk (st := sSize) lSize qSize kSize
  have Bsize := Fsize.binds (ps := ["self"]) fun _ _ _ _ _ _ us hl => match us, hl with | [_], _ => rfl
  have Dsize : Mth K C "size" "Tree.size" sSize fSize _ ["self"] := ⟨Fsize, Bsize, ⟨aSize, iSize, kSize⟩⟩
  have Fhas := fun_mk (st := sHas) lHas qHas kHas
  have Bhas := Fhas.binds (ps := ["mask", "node"]) fun _ _ _ _ _ _ us hl => match us, hl with | [_, _], _ => rfl
  have Dhas : Dfn K mg "has_node" sHas fHas _ ["mask", "node"] := ⟨Fhas, Bhas, PySem.W.mg_of X G aHas⟩
  have Fnodes := fun_mk (st := sNodes) lNodes qNodes kNodes
  have Bnodes := Fnodes.binds (ps := ["self", "mask"]) fun _ _ _ _ _ _ us hl => match us, hl with | [_, _], _ => rfl
  have Dnodes : Mth K C "nodes_in" "Tree.nodes_in" sNodes fNodes _ ["self", "mask"] := ⟨Fnodes, Bnodes, ⟨aNodes, iNodes, kNodes⟩⟩
  have Fclosed := fun_mk (st := sClosed) lClosed qClosed kClosed
  have Bclosed := Fclosed.binds (ps := ["self", "mask"]) fun _ _ _ _ _ _ us hl => match us, hl with | [_, _], _ => rfl
  have Dclosed : Mth K C "is_closed" "Tree.is_closed" sClosed fClosed _ ["self", "mask"] := ⟨Fclosed, Bclosed, ⟨aClosed, iClosed, kClosed⟩⟩
  have Fsets := fun_mk (st := sSets) lSets qSets kSets
  have Bsets := Fsets.binds (ps := ["self"]) fun _ _ _ _ _ _ us hl => match us, hl with | [_], _ => rfl
  have Dsets : Mth K C "closed_sets" "Tree.closed_sets" sSets fSets _ ["self"] := ⟨Fsets, Bsets, ⟨aSets, iSets, kSets⟩⟩
  have Fcount := fun_mk (st := sCount) lCount qCount kCount
  have Bcount := Fcount.binds (ps := ["self", "mask"]) fun _ _ _ _ _ _ us hl => match us, hl with | [_, _], _ => rfl
  have Dcount : Mth K C "count_of" "Tree.count_of" sCount fCount _ ["self", "mask"] := ⟨Fcount, Bcount, ⟨aCount, iCount, kCount⟩⟩
  have Fweight := fun_mk (st := sWeight) lWeight qWeight kWeight
  have Bweight := Fweight.binds (ps := ["self", "mask"]) fun _ _ _ _ _ _ us hl => match us, hl with | [_, _], _ => rfl
  have Dweight : Mth K C "weight_of" "Tree.weight_of" sWeight fWeight _ ["self", "mask"] := ⟨Fweight, Bweight, ⟨aWeight, iWeight, kWeight⟩⟩
  have Fwithin := fun_mk (st := sWithin) lWithin qWithin kWithin
  have Bwithin := Fwithin.binds (ps := ["tree", "limit"]) fun _ _ _ _ _ _ us hl => match us, hl with | [_, _], _ => rfl
  have Dwithin : Dfn K mg "best_within" sWithin fWithin _ ["tree", "limit"] := ⟨Fwithin, Bwithin, PySem.W.mg_of X G aWithin⟩
  have Flim := fun_mk (st := sLim) lLim qLim kLim
  refine ⟨PySem.W.fnOf "best_with_limit" "best_with_limit" (defArgs sLim) (defBody sLim) (defScope sLim) .none kVLim dcLim pmLim anLim cdLim ctLim, fun s us hu => match us, hu with | [_, _], _ => .of_eq rfl, fun base _ _ => ?_⟩
  have Gxinit := ok_xinit (P := P) (w := w) (base := base) XT YT Dxinit 
  have Gwant := ok_want (P := P) (w := w) (base := base) XT YT Dwant Dxinit Gxinit
  have Ginit := ok_init (P := P) (w := w) (base := base) XT YT Dinit 
  have Gtree := ok_tree (P := P) (w := w) (base := base) XT YT Dtree Dwant Gwant Dinit Ginit
  have Gsize := ok_size (P := P) (w := w) (base := base) XT YT Dsize 
  have Ghas := ok_has (P := P) (w := w) (base := base) XT YT Dhas 
  have Gnodes := ok_nodes (P := P) (w := w) (base := base) XT YT Dnodes Dsize Gsize Dhas Ghas
  have Gclosed := ok_closed (P := P) (w := w) (base := base) XT YT Dclosed Dnodes Gnodes Dhas Ghas
  have Gsets := ok_sets (P := P) (w := w) (base := base) XT YT Dsets Dsize Gsize Dclosed Gclosed
  have Gcount := ok_count (P := P) (w := w) (base := base) XT YT Dcount Dnodes Gnodes
  have Gweight := ok_weight (P := P) (w := w) (base := base) XT YT Dweight Dnodes Gnodes
  have Gwithin := ok_within (P := P) (w := w) (base := base) XT YT Dwithin Dsets Gsets Dcount Gcount Dweight Gweight
  exact ok_lim XT YT Flim Dtree Gtree Dwithin Gwithin Dweight Gweight
end WP
open PySem PySem.W PyProof.Rows
set_option maxRecDepth 100000 in
set_option maxHeartbeats 8000000 in
theorem PySem.Challenge.cw_weaklink_s06_best_with_limit_holds : PySem.Challenge.rw_weaklink_s06_best_with_limit.Holds := by
  w_on; k_headS; (case hw => exact ⟨[.int 0, .list []], by decide +kernel, by decide +kernel⟩)
  k_fillS
  refine L2.walk_specK (r := PySem.Challenge.rw_weaklink_s06_best_with_limit) (k := 6) (CX := L2.CX0) (ps := ["limit", "tree"]) (sp := fun K => WR.spLim K) (by decide +kernel) rfl rfl ⟨rfl, by decide, by decide⟩ (fun w h Y => PySem.W.kIn_of Y) ?F ?S (fun _ _ _ _ z => z)
  case F =>
    intro w mg fa h Y KX G hmg
    refine' WP.all_mk KX G hmg ?aC ?aR ?aP ?zlen ?zrange ?zsum ?cNodes ?cMost ?cRange22 ?lP ?sP ?vPq ?aXinit ?lXinit ?qXinit ?kXinit ?aWant ?lWant ?qWant ?kWant ?aInit ?iInit ?lInit ?qInit ?kInit ?aTree ?lTree ?qTree ?kTree ?aSize ?iSize ?lSize ?qSize ?kSize ?aHas ?lHas ?qHas ?kHas ?aNodes ?iNodes ?lNodes ?qNodes ?kNodes ?aClosed ?iClosed ?lClosed ?qClosed ?kClosed ?aSets ?iSets ?lSets ?qSets ?kSets ?aCount ?iCount ?lCount ?qCount ?kCount ?aWeight ?iWeight ?lWeight ?qWeight ?kWeight ?aWithin ?lWithin ?qWithin ?kWithin ?aLim ?lLim ?qLim ?kLim ?pg ?hd ?po ?sa ?mk ?kc ?nPa ?nWe ?xL ?rsa ?rga ?rgg ?rnc ?rt ?rk ?re ?rty ?rh ?ri ?rs
    (case aC => k_is)
    (case aR => k_is)
    (case aP => k_is)
    (case zlen => k_is)
    (case zrange => k_is)
    (case zsum => k_is)
    (case cNodes => k_is)
    (case cMost => k_is)
    (case cRange22 => k_is)
    (case lP => k_is)
    (case sP => first | decide | decide +kernel)
    (case vPq => exact WR.vals_pow)
    (case aXinit => k_is)
    (case lXinit => k_is)
    (case qXinit => k_is)
    (case kXinit => k_is)
    (case aWant => k_is)
    (case lWant => k_is)
    (case qWant => k_is)
    (case kWant => k_is)
    (case aInit => k_is)
    (case iInit => k_is)
    (case lInit => k_is)
    (case qInit => k_is)
    (case kInit => k_is)
    (case aTree => k_is)
    (case lTree => k_is)
    (case qTree => k_is)
    (case kTree => k_is)
    (case aSize => k_is)
    (case iSize => k_is)
    (case lSize => k_is)
    (case qSize => k_is)
    (case kSize => k_is)
    (case aHas => k_is)
    (case lHas => k_is)
    (case qHas => k_is)
    (case kHas => k_is)
    (case aNodes => k_is)
    (case iNodes => k_is)
    (case lNodes => k_is)
    (case qNodes => k_is)
    (case kNodes => k_is)
    (case aClosed => k_is)
    (case iClosed => k_is)
    (case lClosed => k_is)
    (case qClosed => k_is)
    (case kClosed => k_is)
    (case aSets => k_is)
    (case iSets => k_is)
    (case lSets => k_is)
    (case qSets => k_is)
    (case kSets => k_is)
    (case aCount => k_is)
    (case iCount => k_is)
    (case lCount => k_is)
    (case qCount => k_is)
    (case kCount => k_is)
    (case aWeight => k_is)
    (case iWeight => k_is)
    (case lWeight => k_is)
    (case qWeight => k_is)
    (case kWeight => k_is)
    (case aWithin => k_is)
    (case lWithin => k_is)
    (case qWithin => k_is)
    (case kWithin => k_is)
    (case aLim => k_is)
    (case lLim => k_is)
    (case qLim => k_is)
    (case kLim => k_is)
    (case pg => k_is)
    (case hd => k_is)
    (case po => k_is)
    (case sa => k_is)
    (case mk => k_is)
    (case kc => k_is)
    (case nPa => k_is)
    (case nWe => k_is)
    (case xL => k_is)
    (case rsa => k_is)
    (case rga => k_is)
    (case rgg => k_is)
    (case rnc => k_is)
    (case rt => k_is)
    (case rk => k_is)
    (case re => k_is)
    (case rty => k_is)
    (case rh => k_is)
    (case ri => k_is)
    (case rs => first | rfl | k_is)
  case S =>
    intro K H xs a hO hwi hask hx
    exact WR.said_lim hwi hx
#print axioms PySem.Challenge.cw_weaklink_s06_best_with_limit_holds
