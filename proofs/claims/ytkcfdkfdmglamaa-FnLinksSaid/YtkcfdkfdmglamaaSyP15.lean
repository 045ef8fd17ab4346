/- Lists that are marked. -/
import Derived.Test.YtkcfdkfdmglamaaSyP14
set_option linter.unusedVariables false
set_option linter.unusedSimpArgs false
namespace Go.Sx
open Go.RowKit (wrap64)
theorem getD_set_self {α : Type} {l : List α} {i : Nat} {a d : α} (h : i < l.length) : (l.set i a).getD i d = a := by
  rw [List.getD_eq_getElem?_getD, List.getElem?_set_self h]; rfl
/-- A list whose beginning is filled. -/
def filled {α : Type} (f : Nat → α) (l : List α) (j : Nat) : List α := (List.range j).map f ++ l.drop j
theorem filled_len {α : Type} (f : Nat → α) (l : List α) {j : Nat} (h : j ≤ l.length) : (filled f l j).length = l.length := by
  unfold filled
  rw [List.length_append, List.length_map, List.length_range, List.length_drop]
  omega
theorem filled_zero {α : Type} (f : Nat → α) (l : List α) : filled f l 0 = l := rfl
theorem filled_all {α : Type} (f : Nat → α) (l : List α) : filled f l l.length = (List.range l.length).map f := by
  unfold filled
  rw [List.drop_length, List.append_nil]
theorem filled_set {α : Type} (f : Nat → α) (l : List α) {j : Nat} (h : j < l.length) : (filled f l j).set j (f j) = filled f l (j + 1) := by
  unfold filled
  have hc : l.drop j = l[j] :: l.drop (j + 1) := List.drop_eq_getElem_cons h
  rw [List.set_append_right _ _ (by rw [List.length_map, List.length_range]; omega), List.length_map, List.length_range, Nat.sub_self, hc, List.set_cons_zero, List.range_succ, List.map_append, List.append_assoc]
  rfl
def marksT (m : Int) (n : Nat) : List Tick := (List.range n).map fun (i : Nat) => (m + 3 * (i : Int), m + 3 * (i : Int) + 1, m + 3 * (i : Int) + 2)
theorem marksT_length (m : Int) (n : Nat) : (marksT m n).length = n := by simp [marksT]
theorem marksT_get (m : Int) {n i : Nat} (h : i < n) : (marksT m n)[i]'(by rw [marksT_length]; exact h) = (m + 3 * (i : Int), m + 3 * (i : Int) + 1, m + 3 * (i : Int) + 2) := by simp [marksT]
def marksO (m : Int) (n : Nat) : List Order := (List.range n).map fun (i : Nat) => (m + 4 * (i : Int), m + 4 * (i : Int) + 1, m + 4 * (i : Int) + 2, m + 4 * (i : Int) + 3)
theorem marksO_length (m : Int) (n : Nat) : (marksO m n).length = n := by simp [marksO]
theorem marksO_get (m : Int) {n i : Nat} (h : i < n) : (marksO m n)[i]'(by rw [marksO_length]; exact h) = (m + 4 * (i : Int), m + 4 * (i : Int) + 1, m + 4 * (i : Int) + 2, m + 4 * (i : Int) + 3) := by simp [marksO]
theorem marks_get' (m : Int) {n i : Nat} (h : i < n) : (marks m n)[i]'(by rw [marks_length]; exact h) = m + (i : Int) := by simp [marks]
theorem tickD_len (p : Pump) (past : List Int) (alarm : Int) (m : Menu) (ts : List Tick) (ref : Int) (i : In) :
    ∃ p' past' alarm' m' ts' ref', tickD p past alarm m ts ref i = dev p' past' alarm' m' ts' ref' ∧ past'.length ≤ past.length + 1 ∧ ts'.length ≤ ts.length + 1 := by
  unfold tickD
  split
  · exact ⟨_, _, _, _, _, _, rfl, pass_length _ _ _, by rw [List.length_append, List.length_singleton]; omega⟩
  · exact ⟨_, _, _, _, _, _, rfl, by omega, by omega⟩
theorem w3 {k : Int} (h0 : 0 ≤ k) (h1 : k ≤ 1000000000) : wrap64 (k + 1) = k + 1 ∧ wrap64 (wrap64 (k + 1) + 1) = k + 2 ∧ wrap64 (wrap64 (wrap64 (k + 1) + 1) + 1) = k + 3 ∧ wrap64 (wrap64 (wrap64 (wrap64 (k + 1) + 1) + 1) + 1) = k + 4 := by
  have e1 : wrap64 (k + 1) = k + 1 := w64s (by omega) (by omega)
  have e2 : wrap64 (k + 1 + 1) = k + 2 := by rw [w64s (by omega) (by omega)]; omega
  have e3 : wrap64 (k + 2 + 1) = k + 3 := by rw [w64s (by omega) (by omega)]; omega
  have e4 : wrap64 (k + 3 + 1) = k + 4 := by rw [w64s (by omega) (by omega)]; omega
  rw [e1, e2, e3, e4]
  exact ⟨rfl, rfl, rfl, rfl⟩
theorem ex_pos {α : Type} {c : Prop} [Decidable c] {a b : Option α} {P : α → Prop} (h : c) (k : ∃ r, a = some r ∧ P r) : ∃ r, (if c then a else b) = some r ∧ P r := by rw [if_pos h]; exact k
theorem ex_neg {α : Type} {c : Prop} [Decidable c] {a b : Option α} {P : α → Prop} (h : ¬ c) (k : ∃ r, b = some r ∧ P r) : ∃ r, (if c then a else b) = some r ∧ P r := by rw [if_neg h]; exact k
theorem ex_bind {α β : Type} {g : Option α} {f : α → Option β} {a : α} {P : β → Prop} (h : g = some a) (k : ∃ r, f a = some r ∧ P r) : ∃ r, g.bind f = some r ∧ P r := by rw [h]; exact k
end Go.Sx
