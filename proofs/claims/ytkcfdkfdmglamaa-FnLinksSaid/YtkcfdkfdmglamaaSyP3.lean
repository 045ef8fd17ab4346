/- The pump keeps right; what it gives. -/
import Derived.Test.YtkcfdkfdmglamaaSyP2
set_option linter.unusedVariables false
set_option linter.unusedSimpArgs false
namespace Go.Sx
open Go.RowKit (wrap64)
theorem take_ok {p : Pump} (o : Order) (h : pumpOk p = true) : pumpOk (take p o).1 = true := by
  obtain ⟨s, n, d, r, l, b, g, k⟩ := p
  obtain ⟨a, c, e, x⟩ := o
  have hp := pumpOk_den h
  unfold take
  split
  · rename_i hq
    have ho := orderOk_den hq.2
    cases ht : takeR (s, n, d, r, l, b, g, k) (a, c, e, x) with
    | none => exact h
    | some q =>
      show pumpOk q = true
      simp only [takeR] at ht
      unfold PumpOkP RateOkP at hp
      unfold OrderOkP at ho
      split at ht
      · split at ht
        · obtain rfl := Option.some.inj ht
          exact pumpOk_mk (by unfold PumpOkP RateOkP; omega)
        · cases ht
      · split at ht
        · split at ht
          · obtain rfl := Option.some.inj ht
            exact pumpOk_mk (by unfold PumpOkP RateOkP; omega)
          · cases ht
        · split at ht
          · split at ht
            · obtain rfl := Option.some.inj ht
              exact pumpOk_mk (by unfold PumpOkP RateOkP; omega)
            · cases ht
          · split at ht
            · split at ht
              · obtain rfl := Option.some.inj ht
                exact pumpOk_mk (by unfold PumpOkP RateOkP; omega)
              · cases ht
            · split at ht
              · obtain rfl := Option.some.inj ht
                exact pumpOk_mk (by unfold PumpOkP RateOkP; omega)
              · cases ht
  · exact h
theorem take_no {p : Pump} {o : Order} (h : (take p o).2 = false) : (take p o).1 = p := by
  unfold take at h ⊢
  split
  · rename_i hq
    rw [if_pos hq] at h
    cases ht : takeR p o with
    | none => rfl
    | some q => rw [ht] at h; cases h
  · rfl
theorem stepRest_range {n d r : Int} (h : rateOk n d r = true) : 0 ≤ stepRest n d r ∧ stepRest n d r ≤ d - 1 := by
  have h' := rateOk_den h
  unfold stepRest
  rw [if_pos h]
  have h1 := Int.emod_nonneg (r + n) (show d ≠ 0 by omega)
  have h2 := Int.emod_lt_of_pos (r + n) (show 0 < d by omega)
  omega
/-- What is wanted of a pump that runs. -/
theorem wants_runs {s n d r l b g k : Int} (h : runs (s, n, d, r, l, b, g, k) = true) : wants (s, n, d, r, l, b, g, k) = (if s = 1 then min (stepGives n d r) l else stepGives n d r) + min b 3 := by
  simp only [wants, h, if_true]
theorem give_ok {p : Pump} (m : Int) (h : pumpOk p = true) : pumpOk (give p m) = true := by
  obtain ⟨s, n, d, r, l, b, g, k⟩ := p
  by_cases hr : runs (s, n, d, r, l, b, g, k) = true
  · obtain ⟨hp, hs⟩ := runs_den hr
    have hrate : rateOk n d r = true := decide_eq_true hp.2.1
    have hg := stepGives_range hrate hp.2.2.1
    have hq := stepRest_range hrate
    have hw := wants_runs hr
    unfold PumpOkP RateOkP at hp
    simp only [give, hr, if_true, giveB, giveN, hw]
    generalize stepGives n d r = G at *
    generalize stepRest n d r = R at *
    by_cases h1 : s = 1
    · simp only [h1, if_true, true_and] at hw ⊢
      generalize hN : min (max m 0) (min G l + min b 3) = N
      generalize hB : min N (min b 3) = B
      split
      · exact pumpOk_mk (by unfold PumpOkP RateOkP; omega)
      · exact pumpOk_mk (by unfold PumpOkP RateOkP; omega)
    · have h2 : s = 2 := by omega
      simp only [h1, if_false, false_and] at hw ⊢
      generalize hN : min (max m 0) (G + min b 3) = N
      generalize hB : min N (min b 3) = B
      exact pumpOk_mk (by unfold PumpOkP RateOkP; omega)
  · simp only [give, hr, if_false, Bool.false_eq_true]
    exact h
theorem give_given (p : Pump) (m : Int) (h : pumpOk p = true) : (give p m).2.2.2.2.2.2.1 = (if runs p = true then min (p.2.2.2.2.2.2.1 + giveN p m) 1000000000000 else p.2.2.2.2.2.2.1) := by
  obtain ⟨s, n, d, r, l, b, g, k⟩ := p
  by_cases hr : runs (s, n, d, r, l, b, g, k) = true
  · simp only [give, hr, if_true]
    split <;> rfl
  · simp only [give, hr, if_false, Bool.false_eq_true]
theorem giveN_range (p : Pump) (m : Int) : 0 ≤ giveN p m ∧ giveN p m ≤ wants p := by
  have := wants_range p
  unfold giveN; omega
theorem give_more (p : Pump) : give p (wants p) = give p (wants p + 5) := by
  have := wants_range p
  have e : giveN p (wants p) = giveN p (wants p + 5) := by unfold giveN; omega
  have e2 : giveB p (wants p) = giveB p (wants p + 5) := by unfold giveB; rw [e]
  obtain ⟨s, n, d, r, l, b, g, k⟩ := p
  simp only [give]
  rw [e, e2]
theorem pumpNew_ok : pumpOk (0, 0, 1, 0, 0, 0, 0, 0) = true := pumpOk_mk (by unfold PumpOkP RateOkP; omega)
end Go.Sx
