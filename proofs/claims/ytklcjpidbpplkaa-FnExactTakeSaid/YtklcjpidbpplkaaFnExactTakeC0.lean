/- Functions of the program as functions of Lean, and that the program keeps to them. -/
import Derived.Test.YtklcjpidbpplkaaFnExactTakeA0
set_option maxRecDepth 100000
set_option linter.unusedVariables false
set_option linter.unusedSimpArgs false
namespace Go.Proofs
end Go.Proofs
namespace Go.Sx.T
open Go Go.Sx Go.Proofs Go.RowKit
/- impl_within -/
theorem impl_within_eq (a b c : Int) : g_impl_within (a, b, c) = some (decide (b ≤ a ∧ a ≤ c)) := by
  show (if b ≤ a then some (decide (a ≤ c)) else some false) = _
  split
  · rename_i h; refine eq_dec ?_; rw [decide_eq_true_iff]; omega
  · rename_i h; exact dec_no (by omega)
/- impl_RateOk -/
theorem impl_RateOk_eq (n d r : Int) : g_impl_RateOk (n, d, r) = some (rateOk n d r) := by
  unfold g_impl_RateOk impl_RateOk_ rateOk
  simp only [impl_within_eq, Option.bind_some, decide_eq_true_eq]
  by_cases h1 : 0 ≤ n ∧ n ≤ 1000000
  · by_cases h2 : 1 ≤ d ∧ d ≤ 1000000
    · rw [if_pos h1, if_pos h2, w64 (by omega) (by omega)]
      refine eq_dec ?_
      rw [decide_eq_true_iff]; unfold RateOkP; omega
    · rw [if_pos h1, if_neg h2]; exact dec_no (by unfold RateOkP; omega)
  · rw [if_neg h1]; exact dec_no (by unfold RateOkP; omega)
/- impl_PumpOk -/
theorem impl_PumpOk_eq (p : Pump) : g_impl_PumpOk p = some (pumpOk p) := by
  obtain ⟨s, n, d, r, l, b, g, k⟩ := p
  show _ = some (decide (PumpOkP s n d r l b g k))
  unfold g_impl_PumpOk impl_PumpOk_
  simp only [impl_within_eq, impl_RateOk_eq, Option.bind_some, decide_eq_true_eq, rateOk, beq_iff_eq, Bool.true_eq, Bool.false_eq, decide_eq_false_iff_not, decide_eq_decide]
  by_cases h : RateOkP n d r
  · have hw : wrap64 (3 * d) = 3 * d := by unfold RateOkP at h; exact w64 (by omega) (by omega)
    rw [hw]
    have h0 := h
    unfold RateOkP at h
    repeat' refine ite_r (fun _ => ?_) (fun _ => ?_)
    all_goals first
      | exact absurd h0 (by assumption)
      | exact dec_no (by unfold PumpOkP RateOkP; omega)
      | exact dec_yes (by unfold PumpOkP RateOkP; omega)
      | (refine eq_dec ?_; rw [decide_eq_true_iff]; unfold PumpOkP RateOkP; omega)
  · simp only [h, if_false]
    repeat' refine ite_r (fun _ => ?_) (fun _ => ?_)
    all_goals exact dec_no (by unfold PumpOkP; exact fun q => h q.2.1)
/- impl_OrderOk -/
theorem impl_OrderOk_eq (o : Order) : g_impl_OrderOk o = some (orderOk o) := by
  obtain ⟨a, b, c, x⟩ := o
  show _ = some (decide (OrderOkP a b c x))
  unfold g_impl_OrderOk impl_OrderOk_
  simp only [impl_within_eq, Option.bind_some, decide_eq_true_eq, mn_eq]
  by_cases h : 1 ≤ c ∧ c ≤ 1000
  · have hw : wrap64 (3 * c) = 3 * c := w64 (by omega) (by omega)
    rw [hw]
    repeat' refine ite_r (fun _ => ?_) (fun _ => ?_)
    all_goals first
      | exact dec_no (by unfold OrderOkP; omega)
      | exact dec_yes (by unfold OrderOkP; omega)
      | (exfalso; omega)
      | (exfalso; simp_all; done)
      | (refine eq_dec ?_; simp only [Bool.and_eq_true, decide_eq_true_eq, decide_true, true_and]; unfold OrderOkP; omega)
  · simp only [h, if_false]
    repeat' refine ite_r (fun _ => ?_) (fun _ => ?_)
    all_goals first
      | exact dec_no (by unfold OrderOkP; omega)
      | exact dec_yes (by unfold OrderOkP; omega)
      | (exfalso; omega)
      | (exfalso; simp_all; done)
      | (refine eq_dec ?_; simp only [Bool.and_eq_true, decide_eq_true_eq, decide_true, true_and]; unfold OrderOkP; omega)
/- impl_Take -/
theorem impl_Take_eq (p : Pump) (o : Order) : g_impl_Take (p, o) = some (take p o) := by
  obtain ⟨s, n, d, r, l, b, g, k⟩ := p
  obtain ⟨a, c, e, x⟩ := o
  unfold g_impl_Take impl_Take_ take takeR
  simp only [impl_PumpOk_eq, impl_OrderOk_eq, Option.bind_some]
  by_cases h : pumpOk (s, n, d, r, l, b, g, k) = true
  · by_cases h' : orderOk (a, c, e, x) = true
    · obtain ⟨h1, _, _, _, _, _, _, h8, _⟩ := pumpOk_den h
      simp only [h, h', if_true, and_self]
      repeat' split
      all_goals first
        | rfl
        | (exfalso; omega)
        | (simp_all; done)
        | (simp_all; omega)
    · simp only [h, h', if_true, if_false, and_false, Bool.false_eq_true]
  · simp only [h, if_false, false_and, Bool.false_eq_true]
/- spec_l01In -/
theorem spec_l01In_eq (a b c : Int) : g_spec_l01In (a, b, c) = some (decide (b ≤ a ∧ a ≤ c)) := by
  show (if b ≤ a then some (decide (a ≤ c)) else some false) = _
  split
  · rename_i h; refine eq_dec ?_; rw [decide_eq_true_iff]; omega
  · rename_i h; exact dec_no (by omega)
/- spec_OrderOk -/
theorem spec_OrderOk_eq (o : Order) : g_spec_OrderOk o = some (orderOk o) := by
  obtain ⟨a, b, c, x⟩ := o
  show _ = some (decide (OrderOkP a b c x))
  unfold g_spec_OrderOk spec_OrderOk_
  simp only [spec_l01In_eq, Option.bind_some, decide_eq_true_eq, mn_eq]
  by_cases h : 1 ≤ c ∧ c ≤ 1000
  · have hw : wrap64 (3 * c) = 3 * c := w64 (by omega) (by omega)
    rw [hw]
    repeat' refine ite_r (fun _ => ?_) (fun _ => ?_)
    all_goals first
      | exact dec_no (by unfold OrderOkP; omega)
      | exact dec_yes (by unfold OrderOkP; omega)
      | (exfalso; omega)
      | (exfalso; simp_all; done)
      | (refine eq_dec ?_; simp only [Bool.and_eq_true, decide_eq_true_eq, decide_true, true_and]; unfold OrderOkP; omega)
  · simp only [h, if_false]
    repeat' refine ite_r (fun _ => ?_) (fun _ => ?_)
    all_goals first
      | exact dec_no (by unfold OrderOkP; omega)
      | exact dec_yes (by unfold OrderOkP; omega)
      | (exfalso; omega)
      | (exfalso; simp_all; done)
      | (refine eq_dec ?_; simp only [Bool.and_eq_true, decide_eq_true_eq, decide_true, true_and]; unfold OrderOkP; omega)
/- laws_eqRate -/
theorem laws_eqRate_refl (p : Int × Int × Int) : g_laws_eqRate (p, p) = some true := by
  obtain ⟨a, b, c⟩ := p
  unfold g_laws_eqRate laws_eqRate_
  simp
/- laws_eqPump -/
theorem laws_eqPump_refl (p : Pump) : g_laws_eqPump (p, p) = some true := by
  obtain ⟨s, n, d, r, l, b, g, k⟩ := p
  unfold g_laws_eqPump laws_eqPump_
  simp [laws_eqRate_refl]
/- laws_toRate -/
theorem laws_toRate_eq (p : Int × Int × Int) : g_laws_toRate p = some p := rfl
/- laws_toPump -/
theorem laws_toPump_eq (p : Pump) : g_laws_toPump p = some p := rfl
/- spec_RateOk -/
theorem spec_RateOk_eq (n d r : Int) : g_spec_RateOk (n, d, r) = some (rateOk n d r) := by
  unfold g_spec_RateOk spec_RateOk_ rateOk
  simp only [spec_l01In_eq, Option.bind_some, decide_eq_true_eq]
  by_cases h1 : 0 ≤ n ∧ n ≤ 1000000
  · by_cases h2 : 1 ≤ d ∧ d ≤ 1000000
    · rw [if_pos h1, if_pos h2, w64 (by omega) (by omega)]
      refine eq_dec ?_
      rw [decide_eq_true_iff]; unfold RateOkP; omega
    · rw [if_pos h1, if_neg h2]; exact dec_no (by unfold RateOkP; omega)
  · rw [if_neg h1]; exact dec_no (by unfold RateOkP; omega)
/- spec_PumpOk -/
theorem spec_PumpOk_eq (p : Pump) : g_spec_PumpOk p = some (pumpOk p) := by
  obtain ⟨s, n, d, r, l, b, g, k⟩ := p
  show _ = some (decide (PumpOkP s n d r l b g k))
  unfold g_spec_PumpOk spec_PumpOk_
  simp only [spec_l01In_eq, spec_RateOk_eq, Option.bind_some, decide_eq_true_eq, rateOk, beq_iff_eq, Bool.true_eq, Bool.false_eq, decide_eq_false_iff_not, decide_eq_decide]
  by_cases h : RateOkP n d r
  · have hw : wrap64 (3 * d) = 3 * d := by unfold RateOkP at h; exact w64 (by omega) (by omega)
    rw [hw]
    have h0 := h
    unfold RateOkP at h
    repeat' refine ite_r (fun _ => ?_) (fun _ => ?_)
    all_goals first
      | exact absurd h0 (by assumption)
      | exact dec_no (by unfold PumpOkP RateOkP; omega)
      | exact dec_yes (by unfold PumpOkP RateOkP; omega)
      | (refine eq_dec ?_; rw [decide_eq_true_iff]; unfold PumpOkP RateOkP; omega)
  · simp only [h, if_false]
    repeat' refine ite_r (fun _ => ?_) (fun _ => ?_)
    all_goals exact dec_no (by unfold PumpOkP; exact fun q => h q.2.1)
/- laws_toOrder -/
theorem laws_toOrder_eq (p : Order) : g_laws_toOrder p = some p := rfl
/- spec_Take -/
theorem spec_Take_eq (p : Pump) (o : Order) : g_spec_Take (p, o) = some (take p o) := by
  obtain ⟨s, n, d, r, l, b, g, k⟩ := p
  obtain ⟨a, c, e, x⟩ := o
  unfold g_spec_Take spec_Take_ take takeR
  simp only [spec_PumpOk_eq, spec_OrderOk_eq, Option.bind_some]
  by_cases h : pumpOk (s, n, d, r, l, b, g, k) = true
  · by_cases h' : orderOk (a, c, e, x) = true
    · obtain ⟨h1, _, _, _, _, _, _, h8, _⟩ := pumpOk_den h
      simp only [h, h', if_true, and_self]
      repeat' split
      all_goals first
        | rfl
        | (exfalso; omega)
        | (simp_all; done)
        | (simp_all; omega)
    · simp only [h, h', if_true, if_false, and_false, Bool.false_eq_true]
  · simp only [h, if_false, false_and, Bool.false_eq_true]
/- laws_FnExactTake -/
theorem t_FnExactTake (x : Pump × Order) : g_laws_FnExactTake x = some true := by
  obtain ⟨p, o⟩ := x
  obtain ⟨s, n, d, r, l, b, g, k⟩ := p
  obtain ⟨a, c, e, y⟩ := o
  unfold g_laws_FnExactTake laws_FnExactTake_
  simp only [laws_toPump_eq, laws_toOrder_eq, spec_Take_eq, impl_Take_eq, laws_eqPump_refl, Option.bind_some, if_true, beq_self_eq_true]
end Go.Sx.T
