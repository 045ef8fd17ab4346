/- What alarms that are held tell tick by tick. -/
import Derived.Test.YtkcfdkfdmglamaaSyP13
set_option linter.unusedVariables false
set_option linter.unusedSimpArgs false
namespace Go.Sx
open Go.RowKit (wrap64)
theorem zero_or : ∀ a : _root_.Fin 16, ior .i64 0 (a.val : Int) = (a.val : Int) := by decide +kernel
theorem zero_or' {a : Int} (ha : senseOk a = true) : ior .i64 0 a = a := by
  have ha := senseOk_den ha
  have h := zero_or ⟨a.toNat, by omega⟩
  simp only [Int.toNat_of_nonneg ha.1] at h
  exact h
theorem latF_at : ∀ (ts : List Tick) (is : List In) (m : Menu) (a : Int), senseOk a = true → latF ts is m a = true → ts.length = is.length → ∀ (j : Nat) (h1 : j < ts.length) (h2 : j < is.length), ∃ (m' : Menu) (a' : Int), senseOk a' = true ∧ (j = 0 → a' = a) ∧ (∀ i (hi : i + 1 = j), a' = (ts[i]'(by omega)).2.1) ∧ latC ts[j].2.1 is[j].1 a' (seenF (ordersOf m' is[j]).2) = true
  | [], _, _, _, _, _, _, j, h1, _ => by simp at h1
  | _ :: _, [], _, _, _, _, _, j, _, h2 => by simp at h2
  | t :: ts, i :: is, m, a, ha, h, hl, j, h1, h2 => by
    have h : (latC t.2.1 i.1 a (seenF (ordersOf m i).2) && latF ts is (ordersOf m i).1 t.2.1) = true := h
    rw [Bool.and_eq_true] at h
    have ht : senseOk t.2.1 = true := by
      have h3 := h.1
      unfold latC at h3
      simp only [Bool.and_eq_true] at h3
      exact h3.2.1
    cases j with
    | zero => exact ⟨m, a, ha, fun _ => rfl, fun i hi => by omega, h.1⟩
    | succ j =>
      simp only [List.length_cons] at h1 h2 hl
      obtain ⟨m', a', g0, g1, g2, g3⟩ := latF_at ts is _ _ ht h.2 (by omega) j (by omega) (by omega)
      refine ⟨m', a', g0, fun h => by omega, fun k hk => ?_, g3⟩
      cases k with
      | zero => exact g1 (by omega)
      | succ k => exact g2 k (by omega)
theorem latC_den {al bits a : Int} {sn : Bool} (h : latC al bits a sn = true) : senseOk bits = true ∧ senseOk al = true ∧ ior .i64 al bits = al ∧ (sn = true ∨ ior .i64 al a = al) := by
  unfold latC at h
  simp only [Bool.and_eq_true, Bool.or_eq_true, decide_eq_true_eq] at h
  exact h
theorem held_facts {ts : List Tick} {is : List In} (h : latched ts is = true) (hs : stops ts = true) (j : Nat) (h1 : j < ts.length) (h2 : j < is.length) :
    (ts[j].2.1 = 0 ∨ ts[j].1 = 0) ∧ (is[j].1 = 0 ∨ ts[j].2.1 ≠ 0) ∧ (∀ i (hi : i + 1 = j), is[j].2.1 = ⟨#[]⟩ → is[j].2.2 = ⟨#[]⟩ → ((ts[i]'(by omega)).2.1 = 0 ∨ ts[j].2.1 ≠ 0)) := by
  unfold latched at h
  rw [Bool.and_eq_true, decide_eq_true_eq] at h
  obtain ⟨m', a', g0, g1, g2, g3⟩ := latF_at ts is _ _ rfl h.2 h.1 j h1 h2
  obtain ⟨q1, q2, q3, q4⟩ := latC_den g3
  refine ⟨?_, ?_, fun i hi hk hl => ?_⟩
  · unfold stops at hs
    rw [List.all_eq_true] at hs
    exact of_decide_eq_true (hs ts[j] (List.getElem_mem h1))
  · by_cases hz : ts[j].2.1 = 0
    · rw [hz, zero_or' q1] at q3
      exact .inl q3
    · exact .inr hz
  · have hsn : seenF (ordersOf m' is[j]).2 = false := by
      have e : ordersOf m' is[j] = (m', []) := by
        unfold ordersOf
        rw [hk, hl, readO_empty, if_neg (by simp)]
        rfl
      rw [e]; rfl
    rw [hsn] at q4
    have q4 := q4.resolve_left (by simp)
    by_cases hz : ts[j].2.1 = 0
    · rw [hz, zero_or' g0] at q4
      exact .inl ((g2 i hi).symm.trans q4)
    · exact .inr hz
end Go.Sx
