/- Functions of the program as functions of Lean, and that the program keeps to them. -/
import Derived.Test.YthimkepabblloaaFnPausesA0
set_option maxRecDepth 100000
set_option linter.unusedVariables false
set_option linter.unusedSimpArgs false
namespace Go.Proofs
end Go.Proofs
namespace Go.Sx.T
open Go Go.Sx Go.Proofs Go.RowKit
/- spec_PumpNew -/
theorem spec_PumpNew_eq : g_spec_PumpNew () = some (0, 0, 1, 0, 0, 0, 0, 0) := rfl
/- impl_within -/
theorem impl_within_eq (a b c : Int) : g_impl_within (a, b, c) = some (decide (b ≤ a ∧ a ≤ c)) := by
  show (if b ≤ a then some (decide (a ≤ c)) else some false) = _
  split
  · rename_i h; refine eq_dec ?_; rw [decide_eq_true_iff]; omega
  · rename_i h; exact dec_no (by omega)
/- impl_OrderOk -/
theorem impl_OrderOk_eq (o : Order) : g_impl_OrderOk o = some (orderOk o) := by
  obtain ⟨a, b, c, x⟩ := o
  show _ = some (decide (OrderOkP a b c x))
  unfold g_impl_OrderOk impl_OrderOk_
  simp only [impl_within_eq, Option.bind_some, decide_eq_true_eq, mn_eq]
  by_cases h : 1 ≤ c ∧ c ≤ 1000
  · have hw : wrap64 (3 * c) = 3 * c := w64 (by omega) (by omega)
    rw [hw]
    repeat' refine ite_r (fun _ => ?_) (fun _ => ?_)
    all_goals first
      | exact dec_no (by unfold OrderOkP; omega)
      | exact dec_yes (by unfold OrderOkP; omega)
      | (exfalso; omega)
      | (exfalso; simp_all; done)
      | (refine eq_dec ?_; simp only [Bool.and_eq_true, decide_eq_true_eq, decide_true, true_and]; unfold OrderOkP; omega)
  · simp only [h, if_false]
    repeat' refine ite_r (fun _ => ?_) (fun _ => ?_)
    all_goals first
      | exact dec_no (by unfold OrderOkP; omega)
      | exact dec_yes (by unfold OrderOkP; omega)
      | (exfalso; omega)
      | (exfalso; simp_all; done)
      | (refine eq_dec ?_; simp only [Bool.and_eq_true, decide_eq_true_eq, decide_true, true_and]; unfold OrderOkP; omega)
/- spec_l01In -/
theorem spec_l01In_eq (a b c : Int) : g_spec_l01In (a, b, c) = some (decide (b ≤ a ∧ a ≤ c)) := by
  show (if b ≤ a then some (decide (a ≤ c)) else some false) = _
  split
  · rename_i h; refine eq_dec ?_; rw [decide_eq_true_iff]; omega
  · rename_i h; exact dec_no (by omega)
/- spec_OrderOk -/
theorem spec_OrderOk_eq (o : Order) : g_spec_OrderOk o = some (orderOk o) := by
  obtain ⟨a, b, c, x⟩ := o
  show _ = some (decide (OrderOkP a b c x))
  unfold g_spec_OrderOk spec_OrderOk_
  simp only [spec_l01In_eq, Option.bind_some, decide_eq_true_eq, mn_eq]
  by_cases h : 1 ≤ c ∧ c ≤ 1000
  · have hw : wrap64 (3 * c) = 3 * c := w64 (by omega) (by omega)
    rw [hw]
    repeat' refine ite_r (fun _ => ?_) (fun _ => ?_)
    all_goals first
      | exact dec_no (by unfold OrderOkP; omega)
      | exact dec_yes (by unfold OrderOkP; omega)
      | (exfalso; omega)
      | (exfalso; simp_all; done)
      | (refine eq_dec ?_; simp only [Bool.and_eq_true, decide_eq_true_eq, decide_true, true_and]; unfold OrderOkP; omega)
  · simp only [h, if_false]
    repeat' refine ite_r (fun _ => ?_) (fun _ => ?_)
    all_goals first
      | exact dec_no (by unfold OrderOkP; omega)
      | exact dec_yes (by unfold OrderOkP; omega)
      | (exfalso; omega)
      | (exfalso; simp_all; done)
      | (refine eq_dec ?_; simp only [Bool.and_eq_true, decide_eq_true_eq, decide_true, true_and]; unfold OrderOkP; omega)
/- spec_l01Byte -/
theorem and255 (x : Int) : 0 ≤ iand .i64 x 255 ∧ iand .i64 x 255 ≤ 255 := by
  have e : iand .i64 x 255 = IntKind.i64.wrap (((BitVec.ofInt 64 x &&& BitVec.ofInt 64 255).toNat : Nat) : Int) := rfl
  have h : (BitVec.ofInt 64 x &&& BitVec.ofInt 64 255).toNat ≤ 255 := by
    rw [BitVec.toNat_and]
    exact Nat.le_trans Nat.and_le_right (by decide)
  rw [e, IntKind.wrap_i64]
  omega
theorem l01Byte_some (l : List Int) (i s : Int) (hl : l.length ≤ 1048576) (hi : 0 ≤ i) : ∃ b i' s', g_spec_l01Byte (l, i, s) = some (b, ((), i', s')) ∧ 0 ≤ b ∧ b ≤ 255 ∧ 0 ≤ i' := by
  unfold g_spec_l01Byte spec_l01Byte_
  simp only []
  rw [if_pos (by omega), if_pos (by omega)]
  by_cases h : i < (l.length : Int)
  · rw [if_pos h, if_pos hi, if_pos h, w64 (n := i + 1) (by omega) (by omega)]
    exact ⟨_, _, _, rfl, (and255 _).1, (and255 _).2, by omega⟩
  · rw [if_neg h]
    exact ⟨_, _, _, rfl, (and255 _).1, (and255 _).2, hi⟩
/- spec_l01Below -/
theorem l01Below_some (l : List Int) (i s n : Int) (hl : l.length ≤ 1048576) (hi : 0 ≤ i) (hn : 0 < n) : ∃ v i' s', g_spec_l01Below ((l, i, s), n) = some (v, ((), i', s')) ∧ 0 ≤ v ∧ v < n ∧ 0 ≤ i' := by
  unfold g_spec_l01Below spec_l01Below_
  simp only []
  rw [if_neg (by omega)]
  by_cases h : n ≤ 256
  · rw [if_pos h]
    obtain ⟨b, i1, s1, e, h1, h2, h3⟩ := l01Byte_some l i s hl hi
    rw [e, Option.bind_some, if_neg (by omega)]
    exact ⟨_, _, _, rfl, Int.tmod_nonneg _ h1, Int.tmod_lt_of_pos _ hn, h3⟩
  · rw [if_neg h]
    obtain ⟨b1, i1, s1, e1, h11, h12, h13⟩ := l01Byte_some l i s hl hi
    obtain ⟨b2, i2, s2, e2, h21, h22, h23⟩ := l01Byte_some l i1 s1 hl h13
    obtain ⟨b3, i3, s3, e3, h31, h32, h33⟩ := l01Byte_some l i2 s2 hl h23
    obtain ⟨b4, i4, s4, e4, h41, h42, h43⟩ := l01Byte_some l i3 s3 hl h33
    simp only [e1, e2, e3, e4, Option.bind_some]
    rw [if_neg (by omega)]
    refine ⟨_, _, _, rfl, Int.tmod_nonneg _ ?_, Int.tmod_lt_of_pos _ hn, h43⟩
    show 0 ≤ wrap64 ((wrap64 ((wrap64 ((wrap64 (b1 * 16777216)) + (wrap64 (b2 * 65536)))) + (wrap64 (b3 * 256)))) + b4)
    unfold wrap64; omega
/- spec_l01New -/
theorem l01New_ev (l : List Int) (hl : l.length ≤ 1048576) : ∃ x, g_spec_l01New l = some ((), 0, x) := by
  have key : ∀ (d : Nat) (i : Nat), l.length = i + d → ∀ x, ∃ y, Ev (fun k => spec_l01New_L3 k (x, (i : Int), l, ())) ((), (0 : Int), y) := by
    intro d
    induction d with
    | zero =>
      intro i hi x
      exact ⟨x, Ev.step (fun q => by rw [spec_l01New_L3]) (ev_neg (by omega) ev_some)⟩
    | succ d ih =>
      intro i hi x
      by_cases h4 : (i : Int) < 4000
      · obtain ⟨y, hy⟩ := ih (i + 1) (by omega) _
        refine ⟨y, Ev.step (fun q => by rw [spec_l01New_L3]) (ev_pos (by omega) (ev_pos h4 (ev_pos (by omega) (ev_pos (by omega) ?_))))⟩
        rw [w64_succ (by omega)]
        exact hy
      · exact ⟨x, Ev.step (fun q => by rw [spec_l01New_L3]) (ev_pos (by omega) (ev_neg h4 ev_some))⟩
  obtain ⟨y, hy⟩ := key l.length 0 (by omega) _
  exact ⟨y, evG_eq hy⟩
/- laws_big -/
theorem laws_big_eq (l : List Int) : g_laws_big l = some (decide (1048576 < (l.length : Int))) := rfl
/- spec_l01PickInt -/
theorem l01PickInt_some (S : List Int) (i s : Int) (L : List Int) (hS : S.length ≤ 1048576) (hi : 0 ≤ i) (hL : 0 < L.length) : ∃ v i' s', g_spec_l01PickInt ((S, i, s), L) = some (v, ((), i', s')) ∧ v ∈ L ∧ 0 ≤ i' := by
  unfold g_spec_l01PickInt spec_l01PickInt_
  obtain ⟨n, i1, s1, e, h0, h1, h2⟩ := l01Below_some S i s (L.length : Int) hS hi (by omega)
  simp only [e, Option.bind_some]
  rw [if_pos h0, if_pos h1]
  have hn : n.toNat < L.length := by omega
  refine ⟨_, _, _, rfl, ?_, h2⟩
  have : L.getD n.toNat 0 = L[n.toNat] := by simp [List.getD_eq_getElem?_getD, hn]
  rw [this]
  exact List.getElem_mem hn
/- impl_RateOk -/
theorem impl_RateOk_eq (n d r : Int) : g_impl_RateOk (n, d, r) = some (rateOk n d r) := by
  unfold g_impl_RateOk impl_RateOk_ rateOk
  simp only [impl_within_eq, Option.bind_some, decide_eq_true_eq]
  by_cases h1 : 0 ≤ n ∧ n ≤ 1000000
  · by_cases h2 : 1 ≤ d ∧ d ≤ 1000000
    · rw [if_pos h1, if_pos h2, w64 (by omega) (by omega)]
      refine eq_dec ?_
      rw [decide_eq_true_iff]; unfold RateOkP; omega
    · rw [if_pos h1, if_neg h2]; exact dec_no (by unfold RateOkP; omega)
  · rw [if_neg h1]; exact dec_no (by unfold RateOkP; omega)
/- impl_StepRate -/
theorem impl_StepRate_eq (n d r : Int) : g_impl_StepRate (n, d, r) = some ((n, d, stepRest n d r), stepGives n d r) := by
  unfold g_impl_StepRate impl_StepRate_ stepRest stepGives
  simp only [impl_RateOk_eq, Option.bind_some]
  by_cases h : rateOk n d r = true
  · have h' := rateOk_den h
    obtain ⟨e1, e2⟩ := step_plain h
    simp only [h, if_true]
    rw [if_neg (by omega), if_neg (by omega), e1, e2]
  · simp only [h, if_false]; rfl
/- impl_PumpOk -/
theorem impl_PumpOk_eq (p : Pump) : g_impl_PumpOk p = some (pumpOk p) := by
  obtain ⟨s, n, d, r, l, b, g, k⟩ := p
  show _ = some (decide (PumpOkP s n d r l b g k))
  unfold g_impl_PumpOk impl_PumpOk_
  simp only [impl_within_eq, impl_RateOk_eq, Option.bind_some, decide_eq_true_eq, rateOk, beq_iff_eq, Bool.true_eq, Bool.false_eq, decide_eq_false_iff_not, decide_eq_decide]
  by_cases h : RateOkP n d r
  · have hw : wrap64 (3 * d) = 3 * d := by unfold RateOkP at h; exact w64 (by omega) (by omega)
    rw [hw]
    have h0 := h
    unfold RateOkP at h
    repeat' refine ite_r (fun _ => ?_) (fun _ => ?_)
    all_goals first
      | exact absurd h0 (by assumption)
      | exact dec_no (by unfold PumpOkP RateOkP; omega)
      | exact dec_yes (by unfold PumpOkP RateOkP; omega)
      | (refine eq_dec ?_; rw [decide_eq_true_iff]; unfold PumpOkP RateOkP; omega)
  · simp only [h, if_false]
    repeat' refine ite_r (fun _ => ?_) (fun _ => ?_)
    all_goals exact dec_no (by unfold PumpOkP; exact fun q => h q.2.1)
/- impl_Wants -/
theorem impl_Wants_eq (p : Pump) : g_impl_Wants p = some (wants p) := by
  obtain ⟨s, n, d, r, l, b, g, k⟩ := p
  unfold g_impl_Wants impl_Wants_
  simp only [impl_PumpOk_eq, impl_StepRate_eq, Option.bind_some, mn_eq]
  by_cases h : pumpOk (s, n, d, r, l, b, g, k) = true
  · obtain ⟨_, a2, a3, _, _, a6, _, a8, _⟩ := pumpOk_den h
    have hg := stepGives_range (decide_eq_true a2) a3
    unfold wants runs
    simp only [h, if_true, Bool.true_and, decide_eq_true_eq]
    repeat' split
    all_goals first
      | (exfalso; omega)
      | rfl
      | (rw [w64 (by omega) (by omega)])
  · unfold wants runs
    simp only [h, if_false, Bool.false_and, Bool.false_eq_true]
/- impl_Give -/
theorem impl_Give_eq (p : Pump) (m : Int) : g_impl_Give (p, m) = some (give p m) := by
  obtain ⟨s, n, d, r, l, b, g, k⟩ := p
  unfold g_impl_Give impl_Give_
  simp only [impl_PumpOk_eq, impl_StepRate_eq, impl_Wants_eq, Option.bind_some, mn_eq, mx_eq]
  have hw := wants_range (s, n, d, r, l, b, g, k)
  by_cases h : pumpOk (s, n, d, r, l, b, g, k) = true
  · obtain ⟨_, a2, a3, _, _, a6, _, a8, a9⟩ := pumpOk_den h
    unfold give runs giveB giveN
    simp only [h, if_true, Bool.true_and, decide_eq_true_eq]
    generalize hW : wants (s, n, d, r, l, b, g, k) = W at hw
    have e1 : min (min (min (max m 0) W) b) 3 = min (min (max m 0) W) (min b 3) := by omega
    rw [e1]
    generalize hN : min (max m 0) W = N
    have hN' : 0 ≤ N ∧ N ≤ 6 := by omega
    generalize hB : min N (min b 3) = B
    have hB' : 0 ≤ B ∧ B ≤ 3 ∧ B ≤ N := by omega
    rw [w64 (n := b - B) (by omega) (by omega), w64 (n := g + N) (by omega) (by omega), w64 (n := N - B) (by omega) (by omega), w64 (n := l - (N - B)) (by omega) (by omega)]
    repeat' split
    all_goals first
      | rfl
      | (exfalso; omega)
      | (rename_i h0; rw [h0.2])
      | (rename_i h0; rw [h0])
      | (rename_i h0 _; rw [h0])
  · unfold give runs
    simp only [h, if_false, Bool.false_and, Bool.false_eq_true]
/- impl_Take -/
theorem impl_Take_eq (p : Pump) (o : Order) : g_impl_Take (p, o) = some (take p o) := by
  obtain ⟨s, n, d, r, l, b, g, k⟩ := p
  obtain ⟨a, c, e, x⟩ := o
  unfold g_impl_Take impl_Take_ take takeR
  simp only [impl_PumpOk_eq, impl_OrderOk_eq, Option.bind_some]
  by_cases h : pumpOk (s, n, d, r, l, b, g, k) = true
  · by_cases h' : orderOk (a, c, e, x) = true
    · obtain ⟨h1, _, _, _, _, _, _, h8, _⟩ := pumpOk_den h
      simp only [h, h', if_true, and_self]
      repeat' split
      all_goals first
        | rfl
        | (exfalso; omega)
        | (simp_all; done)
        | (simp_all; omega)
    · simp only [h, h', if_true, if_false, and_false, Bool.false_eq_true]
  · simp only [h, if_false, false_and, Bool.false_eq_true]
/- spec_l15Less -/
theorem spec_l15Less_eq (a b : Int) : g_spec_l15Less (a, b) = some (min a b) := by
  show (if a < b then some a else some b) = _
  split <;> (congr 1; omega)
/- spec_RateOk -/
theorem spec_RateOk_eq (n d r : Int) : g_spec_RateOk (n, d, r) = some (rateOk n d r) := by
  unfold g_spec_RateOk spec_RateOk_ rateOk
  simp only [spec_l01In_eq, Option.bind_some, decide_eq_true_eq]
  by_cases h1 : 0 ≤ n ∧ n ≤ 1000000
  · by_cases h2 : 1 ≤ d ∧ d ≤ 1000000
    · rw [if_pos h1, if_pos h2, w64 (by omega) (by omega)]
      refine eq_dec ?_
      rw [decide_eq_true_iff]; unfold RateOkP; omega
    · rw [if_pos h1, if_neg h2]; exact dec_no (by unfold RateOkP; omega)
  · rw [if_neg h1]; exact dec_no (by unfold RateOkP; omega)
/- spec_StepRate -/
theorem spec_StepRate_eq (n d r : Int) : g_spec_StepRate (n, d, r) = some ((n, d, stepRest n d r), stepGives n d r) := by
  unfold g_spec_StepRate spec_StepRate_ stepRest stepGives
  simp only [spec_RateOk_eq, Option.bind_some]
  by_cases h : rateOk n d r = true
  · have h' := rateOk_den h
    obtain ⟨e1, e2⟩ := step_plain h
    simp only [h, if_true]
    rw [if_neg (by omega), if_neg (by omega), e1, e2]
  · simp only [h, if_false]; rfl
/- spec_PumpOk -/
theorem spec_PumpOk_eq (p : Pump) : g_spec_PumpOk p = some (pumpOk p) := by
  obtain ⟨s, n, d, r, l, b, g, k⟩ := p
  show _ = some (decide (PumpOkP s n d r l b g k))
  unfold g_spec_PumpOk spec_PumpOk_
  simp only [spec_l01In_eq, spec_RateOk_eq, Option.bind_some, decide_eq_true_eq, rateOk, beq_iff_eq, Bool.true_eq, Bool.false_eq, decide_eq_false_iff_not, decide_eq_decide]
  by_cases h : RateOkP n d r
  · have hw : wrap64 (3 * d) = 3 * d := by unfold RateOkP at h; exact w64 (by omega) (by omega)
    rw [hw]
    have h0 := h
    unfold RateOkP at h
    repeat' refine ite_r (fun _ => ?_) (fun _ => ?_)
    all_goals first
      | exact absurd h0 (by assumption)
      | exact dec_no (by unfold PumpOkP RateOkP; omega)
      | exact dec_yes (by unfold PumpOkP RateOkP; omega)
      | (refine eq_dec ?_; rw [decide_eq_true_iff]; unfold PumpOkP RateOkP; omega)
  · simp only [h, if_false]
    repeat' refine ite_r (fun _ => ?_) (fun _ => ?_)
    all_goals exact dec_no (by unfold PumpOkP; exact fun q => h q.2.1)
/- spec_Wants -/
theorem spec_Wants_eq (p : Pump) : g_spec_Wants p = some (wants p) := by
  obtain ⟨s, n, d, r, l, b, g, k⟩ := p
  unfold g_spec_Wants spec_Wants_
  simp only [spec_PumpOk_eq, spec_StepRate_eq, Option.bind_some, spec_l15Less_eq]
  by_cases h : pumpOk (s, n, d, r, l, b, g, k) = true
  · obtain ⟨_, a2, a3, _, _, a6, _, a8, _⟩ := pumpOk_den h
    have hg := stepGives_range (decide_eq_true a2) a3
    unfold wants runs
    simp only [h, if_true, Bool.true_and, decide_eq_true_eq]
    repeat' split
    all_goals first
      | (exfalso; omega)
      | rfl
      | (rw [w64 (by omega) (by omega)])
  · unfold wants runs
    simp only [h, if_false, Bool.false_and, Bool.false_eq_true]
/- spec_Give -/
theorem spec_Give_eq (p : Pump) (m : Int) : g_spec_Give (p, m) = some (give p m) := by
  obtain ⟨s, n, d, r, l, b, g, k⟩ := p
  unfold g_spec_Give spec_Give_
  simp only [spec_PumpOk_eq, spec_StepRate_eq, spec_Wants_eq, Option.bind_some, spec_l15Less_eq]
  have hw := wants_range (s, n, d, r, l, b, g, k)
  by_cases h : pumpOk (s, n, d, r, l, b, g, k) = true
  · obtain ⟨_, a2, a3, _, _, a6, _, a8, a9⟩ := pumpOk_den h
    unfold give runs giveB giveN
    simp only [h, if_true, Bool.true_and, decide_eq_true_eq]
    generalize hW : wants (s, n, d, r, l, b, g, k) = W at hw
    have key : ∀ N, N = min (max m 0) W → ∀ B, B = min N (min b 3) → wrap64 (b - B) = b - B ∧ wrap64 (g + N) = g + N ∧ wrap64 (N - B) = N - B ∧ wrap64 (l - (N - B)) = l - (N - B) := by
      intro N hN B hB
      have hN' : 0 ≤ N ∧ N ≤ 6 := by omega
      have hB' : 0 ≤ B ∧ B ≤ 3 ∧ B ≤ N := by omega
      exact ⟨w64 (by omega) (by omega), w64 (by omega) (by omega), w64 (by omega) (by omega), w64 (by omega) (by omega)⟩
    by_cases hm : min m W < 0
    · simp only [hm, if_true]
      have e : (0 : Int) = min (max m 0) W := by omega
      obtain ⟨k1, k2, k3, k4⟩ := key 0 e _ rfl
      rw [k1, k2, k3, k4, ← e]
      repeat' split
      all_goals first
        | rfl
        | (exfalso; omega)
        | (rename_i h0; rw [h0.2])
        | (rename_i h0; rw [h0])
        | (rename_i h0 _; rw [h0])
    · simp only [hm, if_false]
      have e : min m W = min (max m 0) W := by omega
      rw [e]
      obtain ⟨k1, k2, k3, k4⟩ := key _ rfl _ rfl
      rw [k1, k2, k3, k4]
      repeat' split
      all_goals first
        | rfl
        | (exfalso; omega)
        | (rename_i h0; rw [h0.2])
        | (rename_i h0; rw [h0])
        | (rename_i h0 _; rw [h0])
  · unfold give runs
    simp only [h, if_false, Bool.false_and, Bool.false_eq_true]
/- spec_Take -/
theorem spec_Take_eq (p : Pump) (o : Order) : g_spec_Take (p, o) = some (take p o) := by
  obtain ⟨s, n, d, r, l, b, g, k⟩ := p
  obtain ⟨a, c, e, x⟩ := o
  unfold g_spec_Take spec_Take_ take takeR
  simp only [spec_PumpOk_eq, spec_OrderOk_eq, Option.bind_some]
  by_cases h : pumpOk (s, n, d, r, l, b, g, k) = true
  · by_cases h' : orderOk (a, c, e, x) = true
    · obtain ⟨h1, _, _, _, _, _, _, h8, _⟩ := pumpOk_den h
      simp only [h, h', if_true, and_self]
      repeat' split
      all_goals first
        | rfl
        | (exfalso; omega)
        | (simp_all; done)
        | (simp_all; omega)
    · simp only [h, h', if_true, if_false, and_false, Bool.false_eq_true]
  · simp only [h, if_false, false_and, Bool.false_eq_true]
/- spec_l14Order -/
theorem l14Order_some (S : List Int) (i s : Int) (hS : S.length ≤ 1048576) (hi : 0 ≤ i) : ∃ (o : Order) (i' s' : Int), g_spec_l14Order (S, i, s) = some (o, ((), i', s')) ∧ orderOk o = true ∧ 0 ≤ i' := by
  obtain ⟨v, i1, s1, e1, hv, hi1⟩ := l01PickInt_some S i s [1, 1, 1, 2, 2, 3, 4, 5, 6] hS hi (by decide)
  have hv6 : 1 ≤ v ∧ v ≤ 6 := by simp at hv; omega
  unfold g_spec_l14Order spec_l14Order_
  simp only [e1, Option.bind_some]
  by_cases h1 : v = 1
  · rw [if_pos h1]
    obtain ⟨a, i2, s2, e2, a0, a1, hi2⟩ := l01Below_some S i1 s1 9 hS hi1 (by omega)
    simp only [e2, Option.bind_some]
    have w1 : wrap64 (1 + a) = 1 + a := w64 (by omega) (by omega)
    have w2 : wrap64 (3 * (1 + a)) = 3 * (1 + a) := w64 (by omega) (by omega)
    rw [w1, w2]
    obtain ⟨b, i3, s3, e3, b0, b1, hi3⟩ := l01Below_some S i2 s2 (3 * (1 + a)) hS hi2 (by omega)
    obtain ⟨c, i4, s4, e4, c0, c1, hi4⟩ := l01Below_some S i3 s3 60 hS hi3 (by omega)
    simp only [e3, e4, Option.bind_some]
    rw [w64 (n := 1 + b) (by omega) (by omega), w64 (n := 1 + c) (by omega) (by omega)]
    exact ⟨_, _, _, rfl, decide_eq_true (by unfold OrderOkP; omega), hi4⟩
  · rw [if_neg h1]
    by_cases h2 : v = 2
    · rw [if_pos h2]
      obtain ⟨a, i2, s2, e2, a0, a1, hi2⟩ := l01Below_some S i1 s1 40 hS hi1 (by omega)
      simp only [e2, Option.bind_some]
      rw [w64 (n := 1 + a) (by omega) (by omega)]
      exact ⟨_, _, _, rfl, decide_eq_true (by unfold OrderOkP; omega), hi2⟩
    · rw [if_neg h2]
      exact ⟨_, _, _, rfl, decide_eq_true (by unfold OrderOkP; omega), hi1⟩
/- spec_l01Once -/
theorem l01Once_some (l : List Int) (i s n : Int) (hl : l.length ≤ 1048576) (hi : 0 ≤ i) (hn : 0 < n) : ∃ b i' s', g_spec_l01Once ((l, i, s), n) = some (b, ((), i', s')) ∧ 0 ≤ i' := by
  unfold g_spec_l01Once spec_l01Once_
  simp only []
  obtain ⟨v, i1, s1, e, _, _, h⟩ := l01Below_some l i s n hl hi hn
  rw [e]; exact ⟨_, _, _, rfl, h⟩
/- spec_l15Pump -/
theorem l15Pump_some (S : List Int) (i s : Int) (hS : S.length ≤ 1048576) (hi : 0 ≤ i) : ∃ (p : Pump) (i' s' : Int), g_spec_l15Pump (S, i, s) = some (p, ((), i', s')) ∧ pumpOk p = true ∧ 0 ≤ i' := by
  have key : ∀ (d n : Nat), n + d = 14 → ∀ (i s : Int) (p : Pump), 0 ≤ i → pumpOk p = true →
      ∃ (p' : Pump) (i' s' : Int), Ev (fun k => spec_l15Pump_L3 (fun _ => g_spec_Give) (fun _ => g_spec_PumpNew) (fun _ => g_spec_Take) (fun _ => g_spec_l01Below) (fun _ => g_spec_l01Once) (fun _ => g_spec_l14Order) k ((n : Int), i, s, S, 0, 0, 0, 0, 0, 0, 0, 0, p.1, p.2.1, p.2.2.1, p.2.2.2.1, p.2.2.2.2.1, p.2.2.2.2.2.1, p.2.2.2.2.2.2.1, p.2.2.2.2.2.2.2, ())) (p', ((), i', s')) ∧ pumpOk p' = true ∧ 0 ≤ i' := by
    intro d
    induction d with
    | zero =>
      intro n hn i s p hi hp
      obtain ⟨x, i1, s1, e, h0, h1, h2⟩ := l01Below_some S i s 14 hS hi (by omega)
      refine ⟨p, i1, s1, Ev.step (fun w => by rw [spec_l15Pump_L3]) ?_, hp, h2⟩
      refine ev_bind e ?_
      exact ev_neg (show ¬ (n : Int) < x by omega) ev_some
    | succ d ih =>
      intro n hn i s p hi hp
      obtain ⟨x, i1, s1, e, h0, h1, h2⟩ := l01Below_some S i s 14 hS hi (by omega)
      by_cases hx : (n : Int) < x
      · obtain ⟨b, i2, s2, e2, hi2⟩ := l01Once_some S i1 s1 3 hS h2 (by omega)
        cases b with
        | true =>
          obtain ⟨o, i3, s3, e3, _, hi3⟩ := l14Order_some S i2 s2 hS hi2
          obtain ⟨p', i', s', h3, h4⟩ := ih (n + 1) (by omega) i3 s3 (take p o).1 hi3 (take_ok o hp)
          refine ⟨p', i', s', Ev.step (fun w => by rw [spec_l15Pump_L3]) ?_, h4⟩
          refine ev_bind e ?_
          refine ev_pos hx ?_
          refine ev_bind e2 ?_
          refine ev_pos rfl ?_
          refine ev_bind e3 ?_
          refine ev_bind (spec_Take_eq _ _) ?_
          rw [w64_succ (by omega)]
          exact h3
        | false =>
          obtain ⟨m, i3, s3, e3, _, _, hi3⟩ := l01Below_some S i2 s2 8 hS hi2 (by omega)
          obtain ⟨p', i', s', h3, h4⟩ := ih (n + 1) (by omega) i3 s3 (give p m) hi3 (give_ok m hp)
          refine ⟨p', i', s', Ev.step (fun w => by rw [spec_l15Pump_L3]) ?_, h4⟩
          refine ev_bind e ?_
          refine ev_pos hx ?_
          refine ev_bind e2 ?_
          refine ev_neg Bool.false_ne_true ?_
          refine ev_bind e3 ?_
          refine ev_bind (spec_Give_eq _ _) ?_
          rw [w64_succ (by omega)]
          exact h3
      · refine ⟨p, i1, s1, Ev.step (fun w => by rw [spec_l15Pump_L3]) ?_, hp, h2⟩
        refine ev_bind e ?_
        exact ev_neg hx ev_some
  obtain ⟨p', i', s', h1, h2⟩ := key 14 0 rfl i s (0, 0, 1, 0, 0, 0, 0, 0) hi pumpNew_ok
  refine ⟨p', i', s', evG_eq ?_, h2⟩
  unfold spec_l15Pump_
  refine ev_bind spec_PumpNew_eq ?_
  exact h1
/- spec_DrawPump -/
theorem spec_DrawPump_some (S : List Int) (hS : S.length ≤ 1048576) : ∃ p : Pump, g_spec_DrawPump S = some p ∧ pumpOk p = true := by
  obtain ⟨x, hx⟩ := l01New_ev S hS
  obtain ⟨p, i1, s1, e1, h1, hi1⟩ := l15Pump_some S 0 x hS (by omega)
  refine ⟨p, ?_, h1⟩
  unfold g_spec_DrawPump spec_DrawPump_
  simp only [hx, e1, Option.bind_some]
/- laws_FnPauses -/
theorem pause_take {s n d r l b g k : Int} (h : pumpOk (s, n, d, r, l, b, g, k) = true) : take (s, n, d, r, l, b, g, k) (3, 0, 0, 0) = (if s = 1 ∨ s = 2 then ((3, n, d, r, l, b, g, s), true) else ((s, n, d, r, l, b, g, k), false))
    ∧ take (s, n, d, r, l, b, g, k) (6, 0, 0, 0) = ((0, n, d, r, 0, 0, g, 0), true) ∧ take (s, n, d, r, l, b, g, k) (4, 0, 0, 0) = (if s = 3 then ((k, n, d, r, l, b, g, 0), true) else ((s, n, d, r, l, b, g, k), false)) := by
  have h3 : orderOk (3, 0, 0, 0) = true := by decide +kernel
  have h4 : orderOk (4, 0, 0, 0) = true := by decide +kernel
  have h6 : orderOk (6, 0, 0, 0) = true := by decide +kernel
  refine ⟨?_, ?_, ?_⟩
  · simp only [take, takeR, h, h3, and_self, if_true]
    by_cases hs : s = 1 ∨ s = 2
    · rw [if_pos hs, if_pos hs]; rfl
    · rw [if_neg hs, if_neg hs]; rfl
  · simp only [take, takeR, h, h6, and_self, if_true]
    rfl
  · simp only [take, takeR, h, h4, and_self, if_true]
    by_cases hs : s = 3
    · rw [if_pos hs, if_pos hs]; rfl
    · rw [if_neg hs, if_neg hs]; rfl
theorem pause_idle {s n d r l b g k : Int} (hs : ¬ (s = 1 ∨ s = 2)) (m : Int) : wants (s, n, d, r, l, b, g, k) = 0 ∧ give (s, n, d, r, l, b, g, k) m = (s, n, d, r, l, b, g, k) := by
  have hr : runs (s, n, d, r, l, b, g, k) = false := by
    unfold runs
    rw [show decide ((s, n, d, r, l, b, g, k).1 = 1 ∨ (s, n, d, r, l, b, g, k).1 = 2) = false from decide_eq_false hs, Bool.and_false]
  simp only [wants, give, hr, Bool.false_eq_true, if_false, and_self]
set_option maxHeartbeats 1000000 in
theorem t_FnPauses (S : List Int) : g_laws_FnPauses S = some true := by
  unfold g_laws_FnPauses laws_FnPauses_
  simp only [laws_big_eq, Option.bind_some]
  refine ite_r (fun _ => rfl) (fun hb => ?_)
  have hS : S.length ≤ 1048576 := by
    rw [decide_eq_true_eq] at hb; omega
  obtain ⟨⟨s, n, d, r, l, b, g, k⟩, e1, hp⟩ := spec_DrawPump_some S hS
  obtain ⟨a1, a2, a3⟩ := pause_take hp
  have hd := pumpOk_den hp
  obtain ⟨i1, i2⟩ := pause_idle (s := 0) (n := n) (d := d) (r := r) (l := 0) (b := 0) (g := g) (k := 0) (by omega) 9
  obtain ⟨i3, i4⟩ := pause_idle (s := 3) (n := n) (d := d) (r := r) (l := l) (b := b) (g := g) (k := s) (by omega) 9
  simp only [e1, impl_Take_eq, impl_Give_eq, impl_Wants_eq, Option.bind_some]
  rw [a1, a2, a3]
  by_cases hs : s = 1 ∨ s = 2
  · have h3 : pumpOk (3, n, d, r, l, b, g, s) = true := pumpOk_mk (by unfold PumpOkP RateOkP at hd ⊢; omega)
    obtain ⟨_, _, b3⟩ := pause_take h3
    have hk : k = 0 := by unfold PumpOkP at hd; omega
    have hs3 : ¬ s = 3 := by omega
    rw [if_pos hs, if_neg hs3]
    simp only [b3, if_true, i1, i3, i4]
    rcases hs with rfl | rfl <;> simp [hk]
  · rw [if_neg hs]
    have h1 : ¬ s = 1 := by omega
    have h2 : ¬ s = 2 := by omega
    simp only [h1, h2, if_false, i1, decide_false, beq_self_eq_true, if_true, Bool.false_eq_true]
    simp
end Go.Sx.T
