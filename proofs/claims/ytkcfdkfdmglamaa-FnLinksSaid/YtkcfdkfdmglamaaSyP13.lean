/- Small things: facts that are hidden, sums of beginnings. -/
import Derived.Test.YtkcfdkfdmglamaaSyP12
set_option linter.unusedVariables false
set_option linter.unusedSimpArgs false
namespace Go.Sx
open Go.RowKit (wrap64)
/-- A fact that is kept, and that a search does not look at. -/
def Hid (p : Prop) : Prop := p
theorem Hid.mk {p : Prop} (h : p) : Hid p := h
theorem Hid.out {p : Prop} (h : Hid p) : p := h
theorem pulses_get {ts : List Tick} {j : Nat} (h : j < ts.length) : (pulses ts)[j]'(by rw [pulses_len]; exact h) = ts[j].1 := by
  unfold pulses
  rw [List.getElem_map]
theorem sum_take_succ {L : List Int} {c : Nat} (h : c < L.length) : (L.take (c + 1)).sum = (L.take c).sum + L[c] := by
  rw [List.take_succ_eq_append_getElem h, List.sum_append]
  simp
theorem take_bound {L : List Int} (h : ∀ x ∈ L, 0 ≤ x ∧ x ≤ 30) (hl : L.length ≤ 200) (j : Nat) : 0 ≤ (L.take j).sum ∧ (L.take j).sum ≤ 6000 := by
  have h1 := sum_le_30 (l := L.take j) (fun x hx => h x (List.mem_of_mem_take hx))
  have h2 : (L.take j).length ≤ L.length := by rw [List.length_take]; omega
  omega
theorem w64s {n : Int} (h0 : 0 ≤ n) (h1 : n ≤ 1000000000000) : wrap64 n = n := w64 (by omega) (by omega)
theorem w64n {n : Nat} (h : n ≤ 1000000000000) : wrap64 (n : Int) = (n : Int) := w64 (by omega) (by omega)
theorem win_bound {L : List Int} (h : ∀ x ∈ L, 0 ≤ x ∧ x ≤ 30) (hw : ∀ i, ((L.drop i).take 10).sum ≤ 30) (i c : Nat) (hc : c ≤ 10) : 0 ≤ ((L.drop i).take c).sum ∧ ((L.drop i).take c).sum ≤ 30 := by
  have h0 : ∀ x ∈ L.drop i, 0 ≤ x := fun x hx => (h x (List.mem_of_mem_drop hx)).1
  have e : (L.drop i).take c = ((L.drop i).take 10).take c := by
    rw [List.take_take, Nat.min_eq_left hc]
  have h1 := sum_take_le c (l := (L.drop i).take 10) (fun x hx => h0 x (List.mem_of_mem_take hx))
  have h2 := sum_nonneg (l := (L.drop i).take c) (fun x hx => h0 x (List.mem_of_mem_take hx))
  have h3 := hw i
  rw [← e] at h1
  omega
end Go.Sx
