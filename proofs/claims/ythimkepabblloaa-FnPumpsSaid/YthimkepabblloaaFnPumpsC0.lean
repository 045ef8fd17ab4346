/- Functions of the program as functions of Lean, and that the program keeps to them. -/
import Derived.Test.YthimkepabblloaaFnPumpsA0
set_option maxRecDepth 100000
set_option linter.unusedVariables false
set_option linter.unusedSimpArgs false
namespace Go.Proofs
end Go.Proofs
namespace Go.Sx.T
open Go Go.Sx Go.Proofs Go.RowKit
/- impl_PumpNew -/
theorem impl_PumpNew_eq : g_impl_PumpNew () = some (0, 0, 1, 0, 0, 0, 0, 0) := rfl
/- spec_PumpNew -/
theorem spec_PumpNew_eq : g_spec_PumpNew () = some (0, 0, 1, 0, 0, 0, 0, 0) := rfl
/- impl_within -/
theorem impl_within_eq (a b c : Int) : g_impl_within (a, b, c) = some (decide (b ≤ a ∧ a ≤ c)) := by
  show (if b ≤ a then some (decide (a ≤ c)) else some false) = _
  split
  · rename_i h; refine eq_dec ?_; rw [decide_eq_true_iff]; omega
  · rename_i h; exact dec_no (by omega)
/- impl_OrderOk -/
theorem impl_OrderOk_eq (o : Order) : g_impl_OrderOk o = some (orderOk o) := by
  obtain ⟨a, b, c, x⟩ := o
  show _ = some (decide (OrderOkP a b c x))
  unfold g_impl_OrderOk impl_OrderOk_
  simp only [impl_within_eq, Option.bind_some, decide_eq_true_eq, mn_eq]
  by_cases h : 1 ≤ c ∧ c ≤ 1000
  · have hw : wrap64 (3 * c) = 3 * c := w64 (by omega) (by omega)
    rw [hw]
    repeat' refine ite_r (fun _ => ?_) (fun _ => ?_)
    all_goals first
      | exact dec_no (by unfold OrderOkP; omega)
      | exact dec_yes (by unfold OrderOkP; omega)
      | (exfalso; omega)
      | (exfalso; simp_all; done)
      | (refine eq_dec ?_; simp only [Bool.and_eq_true, decide_eq_true_eq, decide_true, true_and]; unfold OrderOkP; omega)
  · simp only [h, if_false]
    repeat' refine ite_r (fun _ => ?_) (fun _ => ?_)
    all_goals first
      | exact dec_no (by unfold OrderOkP; omega)
      | exact dec_yes (by unfold OrderOkP; omega)
      | (exfalso; omega)
      | (exfalso; simp_all; done)
      | (refine eq_dec ?_; simp only [Bool.and_eq_true, decide_eq_true_eq, decide_true, true_and]; unfold OrderOkP; omega)
/- spec_l01In -/
theorem spec_l01In_eq (a b c : Int) : g_spec_l01In (a, b, c) = some (decide (b ≤ a ∧ a ≤ c)) := by
  show (if b ≤ a then some (decide (a ≤ c)) else some false) = _
  split
  · rename_i h; refine eq_dec ?_; rw [decide_eq_true_iff]; omega
  · rename_i h; exact dec_no (by omega)
/- spec_OrderOk -/
theorem spec_OrderOk_eq (o : Order) : g_spec_OrderOk o = some (orderOk o) := by
  obtain ⟨a, b, c, x⟩ := o
  show _ = some (decide (OrderOkP a b c x))
  unfold g_spec_OrderOk spec_OrderOk_
  simp only [spec_l01In_eq, Option.bind_some, decide_eq_true_eq, mn_eq]
  by_cases h : 1 ≤ c ∧ c ≤ 1000
  · have hw : wrap64 (3 * c) = 3 * c := w64 (by omega) (by omega)
    rw [hw]
    repeat' refine ite_r (fun _ => ?_) (fun _ => ?_)
    all_goals first
      | exact dec_no (by unfold OrderOkP; omega)
      | exact dec_yes (by unfold OrderOkP; omega)
      | (exfalso; omega)
      | (exfalso; simp_all; done)
      | (refine eq_dec ?_; simp only [Bool.and_eq_true, decide_eq_true_eq, decide_true, true_and]; unfold OrderOkP; omega)
  · simp only [h, if_false]
    repeat' refine ite_r (fun _ => ?_) (fun _ => ?_)
    all_goals first
      | exact dec_no (by unfold OrderOkP; omega)
      | exact dec_yes (by unfold OrderOkP; omega)
      | (exfalso; omega)
      | (exfalso; simp_all; done)
      | (refine eq_dec ?_; simp only [Bool.and_eq_true, decide_eq_true_eq, decide_true, true_and]; unfold OrderOkP; omega)
/- spec_l01Byte -/
theorem and255 (x : Int) : 0 ≤ iand .i64 x 255 ∧ iand .i64 x 255 ≤ 255 := by
  have e : iand .i64 x 255 = IntKind.i64.wrap (((BitVec.ofInt 64 x &&& BitVec.ofInt 64 255).toNat : Nat) : Int) := rfl
  have h : (BitVec.ofInt 64 x &&& BitVec.ofInt 64 255).toNat ≤ 255 := by
    rw [BitVec.toNat_and]
    exact Nat.le_trans Nat.and_le_right (by decide)
  rw [e, IntKind.wrap_i64]
  omega
theorem l01Byte_some (l : List Int) (i s : Int) (hl : l.length ≤ 1048576) (hi : 0 ≤ i) : ∃ b i' s', g_spec_l01Byte (l, i, s) = some (b, ((), i', s')) ∧ 0 ≤ b ∧ b ≤ 255 ∧ 0 ≤ i' := by
  unfold g_spec_l01Byte spec_l01Byte_
  simp only []
  rw [if_pos (by omega), if_pos (by omega)]
  by_cases h : i < (l.length : Int)
  · rw [if_pos h, if_pos hi, if_pos h, w64 (n := i + 1) (by omega) (by omega)]
    exact ⟨_, _, _, rfl, (and255 _).1, (and255 _).2, by omega⟩
  · rw [if_neg h]
    exact ⟨_, _, _, rfl, (and255 _).1, (and255 _).2, hi⟩
/- spec_l01Below -/
theorem l01Below_some (l : List Int) (i s n : Int) (hl : l.length ≤ 1048576) (hi : 0 ≤ i) (hn : 0 < n) : ∃ v i' s', g_spec_l01Below ((l, i, s), n) = some (v, ((), i', s')) ∧ 0 ≤ v ∧ v < n ∧ 0 ≤ i' := by
  unfold g_spec_l01Below spec_l01Below_
  simp only []
  rw [if_neg (by omega)]
  by_cases h : n ≤ 256
  · rw [if_pos h]
    obtain ⟨b, i1, s1, e, h1, h2, h3⟩ := l01Byte_some l i s hl hi
    rw [e, Option.bind_some, if_neg (by omega)]
    exact ⟨_, _, _, rfl, Int.tmod_nonneg _ h1, Int.tmod_lt_of_pos _ hn, h3⟩
  · rw [if_neg h]
    obtain ⟨b1, i1, s1, e1, h11, h12, h13⟩ := l01Byte_some l i s hl hi
    obtain ⟨b2, i2, s2, e2, h21, h22, h23⟩ := l01Byte_some l i1 s1 hl h13
    obtain ⟨b3, i3, s3, e3, h31, h32, h33⟩ := l01Byte_some l i2 s2 hl h23
    obtain ⟨b4, i4, s4, e4, h41, h42, h43⟩ := l01Byte_some l i3 s3 hl h33
    simp only [e1, e2, e3, e4, Option.bind_some]
    rw [if_neg (by omega)]
    refine ⟨_, _, _, rfl, Int.tmod_nonneg _ ?_, Int.tmod_lt_of_pos _ hn, h43⟩
    show 0 ≤ wrap64 ((wrap64 ((wrap64 ((wrap64 (b1 * 16777216)) + (wrap64 (b2 * 65536)))) + (wrap64 (b3 * 256)))) + b4)
    unfold wrap64; omega
/- spec_l01New -/
theorem l01New_ev (l : List Int) (hl : l.length ≤ 1048576) : ∃ x, g_spec_l01New l = some ((), 0, x) := by
  have key : ∀ (d : Nat) (i : Nat), l.length = i + d → ∀ x, ∃ y, Ev (fun k => spec_l01New_L3 k (x, (i : Int), l, ())) ((), (0 : Int), y) := by
    intro d
    induction d with
    | zero =>
      intro i hi x
      exact ⟨x, Ev.step (fun q => by rw [spec_l01New_L3]) (ev_neg (by omega) ev_some)⟩
    | succ d ih =>
      intro i hi x
      by_cases h4 : (i : Int) < 4000
      · obtain ⟨y, hy⟩ := ih (i + 1) (by omega) _
        refine ⟨y, Ev.step (fun q => by rw [spec_l01New_L3]) (ev_pos (by omega) (ev_pos h4 (ev_pos (by omega) (ev_pos (by omega) ?_))))⟩
        rw [w64_succ (by omega)]
        exact hy
      · exact ⟨x, Ev.step (fun q => by rw [spec_l01New_L3]) (ev_pos (by omega) (ev_neg h4 ev_some))⟩
  obtain ⟨y, hy⟩ := key l.length 0 (by omega) _
  exact ⟨y, evG_eq hy⟩
/- spec_DrawPlaces -/
theorem spec_DrawPlaces_some (code : List Int) (hl : code.length ≤ 1048576) : ∃ q, g_spec_DrawPlaces code = some q ∧ q.length = 12 ∧ ∀ x ∈ q, 0 ≤ x ∧ x < 10000 := by
  have key : ∀ (d n : Nat), n + d = 12 → ∀ (i h : Int) (q : List Int), 0 ≤ i → q.length = n → (∀ x ∈ q, 0 ≤ x ∧ x < 10000) →
      ∃ q', Ev (fun k => spec_DrawPlaces_L5 (fun _ => g_spec_l01Below) (fun _ => g_spec_l01Byte) (fun _ => g_spec_l01New) k ((n : Int), code, i, h, q, ())) q' ∧ q'.length = 12 ∧ ∀ x ∈ q', 0 ≤ x ∧ x < 10000 := by
    intro d
    induction d with
    | zero =>
      intro n hn i h q hi hq hx
      exact ⟨q, Ev.step (fun q => by rw [spec_DrawPlaces_L5]) (ev_neg (by omega) ev_some), by omega, hx⟩
    | succ d ih =>
      intro n hn i h q hi hq hx
      obtain ⟨v, i', s', e, h1, h2, h3⟩ := l01Below_some code i h 10000 hl hi (by omega)
      obtain ⟨q', h4, h5⟩ := ih (n + 1) (by omega) i' s' (q ++ [v]) h3 (by simp [hq]) (fun x hx' => by
        rcases List.mem_append.1 hx' with hx' | hx'
        · exact hx x hx'
        · simp at hx'; subst hx'; exact ⟨h1, h2⟩)
      refine ⟨q', Ev.step (fun q => by rw [spec_DrawPlaces_L5]) (ev_pos (by omega) (ev_bind e (ev_pos ?_ ?_))), h5⟩
      · simp only [List.length_singleton, hq]; omega
      · rw [w64_succ (by omega)]
        exact h4
  obtain ⟨x, hn⟩ := l01New_ev code hl
  obtain ⟨b, i', s', e, _, _, h3⟩ := l01Byte_some code 0 x hl (by omega)
  obtain ⟨q, h4, h5⟩ := key 12 0 rfl i' s' [] h3 rfl (fun x hx => by cases hx)
  refine ⟨q, evG_eq ?_, h5⟩
  unfold spec_DrawPlaces_
  exact ev_bind hn (ev_bind e h4)
/- laws_big -/
theorem laws_big_eq (l : List Int) : g_laws_big l = some (decide (1048576 < (l.length : Int))) := rfl
/- spec_l01PickInt -/
theorem l01PickInt_some (S : List Int) (i s : Int) (L : List Int) (hS : S.length ≤ 1048576) (hi : 0 ≤ i) (hL : 0 < L.length) : ∃ v i' s', g_spec_l01PickInt ((S, i, s), L) = some (v, ((), i', s')) ∧ v ∈ L ∧ 0 ≤ i' := by
  unfold g_spec_l01PickInt spec_l01PickInt_
  obtain ⟨n, i1, s1, e, h0, h1, h2⟩ := l01Below_some S i s (L.length : Int) hS hi (by omega)
  simp only [e, Option.bind_some]
  rw [if_pos h0, if_pos h1]
  have hn : n.toNat < L.length := by omega
  refine ⟨_, _, _, rfl, ?_, h2⟩
  have : L.getD n.toNat 0 = L[n.toNat] := by simp [List.getD_eq_getElem?_getD, hn]
  rw [this]
  exact List.getElem_mem hn
/- impl_RateOk -/
theorem impl_RateOk_eq (n d r : Int) : g_impl_RateOk (n, d, r) = some (rateOk n d r) := by
  unfold g_impl_RateOk impl_RateOk_ rateOk
  simp only [impl_within_eq, Option.bind_some, decide_eq_true_eq]
  by_cases h1 : 0 ≤ n ∧ n ≤ 1000000
  · by_cases h2 : 1 ≤ d ∧ d ≤ 1000000
    · rw [if_pos h1, if_pos h2, w64 (by omega) (by omega)]
      refine eq_dec ?_
      rw [decide_eq_true_iff]; unfold RateOkP; omega
    · rw [if_pos h1, if_neg h2]; exact dec_no (by unfold RateOkP; omega)
  · rw [if_neg h1]; exact dec_no (by unfold RateOkP; omega)
/- impl_StepRate -/
theorem impl_StepRate_eq (n d r : Int) : g_impl_StepRate (n, d, r) = some ((n, d, stepRest n d r), stepGives n d r) := by
  unfold g_impl_StepRate impl_StepRate_ stepRest stepGives
  simp only [impl_RateOk_eq, Option.bind_some]
  by_cases h : rateOk n d r = true
  · have h' := rateOk_den h
    obtain ⟨e1, e2⟩ := step_plain h
    simp only [h, if_true]
    rw [if_neg (by omega), if_neg (by omega), e1, e2]
  · simp only [h, if_false]; rfl
/- impl_PumpOk -/
theorem impl_PumpOk_eq (p : Pump) : g_impl_PumpOk p = some (pumpOk p) := by
  obtain ⟨s, n, d, r, l, b, g, k⟩ := p
  show _ = some (decide (PumpOkP s n d r l b g k))
  unfold g_impl_PumpOk impl_PumpOk_
  simp only [impl_within_eq, impl_RateOk_eq, Option.bind_some, decide_eq_true_eq, rateOk, beq_iff_eq, Bool.true_eq, Bool.false_eq, decide_eq_false_iff_not, decide_eq_decide]
  by_cases h : RateOkP n d r
  · have hw : wrap64 (3 * d) = 3 * d := by unfold RateOkP at h; exact w64 (by omega) (by omega)
    rw [hw]
    have h0 := h
    unfold RateOkP at h
    repeat' refine ite_r (fun _ => ?_) (fun _ => ?_)
    all_goals first
      | exact absurd h0 (by assumption)
      | exact dec_no (by unfold PumpOkP RateOkP; omega)
      | exact dec_yes (by unfold PumpOkP RateOkP; omega)
      | (refine eq_dec ?_; rw [decide_eq_true_iff]; unfold PumpOkP RateOkP; omega)
  · simp only [h, if_false]
    repeat' refine ite_r (fun _ => ?_) (fun _ => ?_)
    all_goals exact dec_no (by unfold PumpOkP; exact fun q => h q.2.1)
/- impl_Wants -/
theorem impl_Wants_eq (p : Pump) : g_impl_Wants p = some (wants p) := by
  obtain ⟨s, n, d, r, l, b, g, k⟩ := p
  unfold g_impl_Wants impl_Wants_
  simp only [impl_PumpOk_eq, impl_StepRate_eq, Option.bind_some, mn_eq]
  by_cases h : pumpOk (s, n, d, r, l, b, g, k) = true
  · obtain ⟨_, a2, a3, _, _, a6, _, a8, _⟩ := pumpOk_den h
    have hg := stepGives_range (decide_eq_true a2) a3
    unfold wants runs
    simp only [h, if_true, Bool.true_and, decide_eq_true_eq]
    repeat' split
    all_goals first
      | (exfalso; omega)
      | rfl
      | (rw [w64 (by omega) (by omega)])
  · unfold wants runs
    simp only [h, if_false, Bool.false_and, Bool.false_eq_true]
/- impl_Give -/
theorem impl_Give_eq (p : Pump) (m : Int) : g_impl_Give (p, m) = some (give p m) := by
  obtain ⟨s, n, d, r, l, b, g, k⟩ := p
  unfold g_impl_Give impl_Give_
  simp only [impl_PumpOk_eq, impl_StepRate_eq, impl_Wants_eq, Option.bind_some, mn_eq, mx_eq]
  have hw := wants_range (s, n, d, r, l, b, g, k)
  by_cases h : pumpOk (s, n, d, r, l, b, g, k) = true
  · obtain ⟨_, a2, a3, _, _, a6, _, a8, a9⟩ := pumpOk_den h
    unfold give runs giveB giveN
    simp only [h, if_true, Bool.true_and, decide_eq_true_eq]
    generalize hW : wants (s, n, d, r, l, b, g, k) = W at hw
    have e1 : min (min (min (max m 0) W) b) 3 = min (min (max m 0) W) (min b 3) := by omega
    rw [e1]
    generalize hN : min (max m 0) W = N
    have hN' : 0 ≤ N ∧ N ≤ 6 := by omega
    generalize hB : min N (min b 3) = B
    have hB' : 0 ≤ B ∧ B ≤ 3 ∧ B ≤ N := by omega
    rw [w64 (n := b - B) (by omega) (by omega), w64 (n := g + N) (by omega) (by omega), w64 (n := N - B) (by omega) (by omega), w64 (n := l - (N - B)) (by omega) (by omega)]
    repeat' split
    all_goals first
      | rfl
      | (exfalso; omega)
      | (rename_i h0; rw [h0.2])
      | (rename_i h0; rw [h0])
      | (rename_i h0 _; rw [h0])
  · unfold give runs
    simp only [h, if_false, Bool.false_and, Bool.false_eq_true]
/- impl_Take -/
theorem impl_Take_eq (p : Pump) (o : Order) : g_impl_Take (p, o) = some (take p o) := by
  obtain ⟨s, n, d, r, l, b, g, k⟩ := p
  obtain ⟨a, c, e, x⟩ := o
  unfold g_impl_Take impl_Take_ take takeR
  simp only [impl_PumpOk_eq, impl_OrderOk_eq, Option.bind_some]
  by_cases h : pumpOk (s, n, d, r, l, b, g, k) = true
  · by_cases h' : orderOk (a, c, e, x) = true
    · obtain ⟨h1, _, _, _, _, _, _, h8, _⟩ := pumpOk_den h
      simp only [h, h', if_true, and_self]
      repeat' split
      all_goals first
        | rfl
        | (exfalso; omega)
        | (simp_all; done)
        | (simp_all; omega)
    · simp only [h, h', if_true, if_false, and_false, Bool.false_eq_true]
  · simp only [h, if_false, false_and, Bool.false_eq_true]
/- spec_l15Less -/
theorem spec_l15Less_eq (a b : Int) : g_spec_l15Less (a, b) = some (min a b) := by
  show (if a < b then some a else some b) = _
  split <;> (congr 1; omega)
/- spec_RateOk -/
theorem spec_RateOk_eq (n d r : Int) : g_spec_RateOk (n, d, r) = some (rateOk n d r) := by
  unfold g_spec_RateOk spec_RateOk_ rateOk
  simp only [spec_l01In_eq, Option.bind_some, decide_eq_true_eq]
  by_cases h1 : 0 ≤ n ∧ n ≤ 1000000
  · by_cases h2 : 1 ≤ d ∧ d ≤ 1000000
    · rw [if_pos h1, if_pos h2, w64 (by omega) (by omega)]
      refine eq_dec ?_
      rw [decide_eq_true_iff]; unfold RateOkP; omega
    · rw [if_pos h1, if_neg h2]; exact dec_no (by unfold RateOkP; omega)
  · rw [if_neg h1]; exact dec_no (by unfold RateOkP; omega)
/- spec_StepRate -/
theorem spec_StepRate_eq (n d r : Int) : g_spec_StepRate (n, d, r) = some ((n, d, stepRest n d r), stepGives n d r) := by
  unfold g_spec_StepRate spec_StepRate_ stepRest stepGives
  simp only [spec_RateOk_eq, Option.bind_some]
  by_cases h : rateOk n d r = true
  · have h' := rateOk_den h
    obtain ⟨e1, e2⟩ := step_plain h
    simp only [h, if_true]
    rw [if_neg (by omega), if_neg (by omega), e1, e2]
  · simp only [h, if_false]; rfl
/- spec_PumpOk -/
theorem spec_PumpOk_eq (p : Pump) : g_spec_PumpOk p = some (pumpOk p) := by
  obtain ⟨s, n, d, r, l, b, g, k⟩ := p
  show _ = some (decide (PumpOkP s n d r l b g k))
  unfold g_spec_PumpOk spec_PumpOk_
  simp only [spec_l01In_eq, spec_RateOk_eq, Option.bind_some, decide_eq_true_eq, rateOk, beq_iff_eq, Bool.true_eq, Bool.false_eq, decide_eq_false_iff_not, decide_eq_decide]
  by_cases h : RateOkP n d r
  · have hw : wrap64 (3 * d) = 3 * d := by unfold RateOkP at h; exact w64 (by omega) (by omega)
    rw [hw]
    have h0 := h
    unfold RateOkP at h
    repeat' refine ite_r (fun _ => ?_) (fun _ => ?_)
    all_goals first
      | exact absurd h0 (by assumption)
      | exact dec_no (by unfold PumpOkP RateOkP; omega)
      | exact dec_yes (by unfold PumpOkP RateOkP; omega)
      | (refine eq_dec ?_; rw [decide_eq_true_iff]; unfold PumpOkP RateOkP; omega)
  · simp only [h, if_false]
    repeat' refine ite_r (fun _ => ?_) (fun _ => ?_)
    all_goals exact dec_no (by unfold PumpOkP; exact fun q => h q.2.1)
/- spec_Wants -/
theorem spec_Wants_eq (p : Pump) : g_spec_Wants p = some (wants p) := by
  obtain ⟨s, n, d, r, l, b, g, k⟩ := p
  unfold g_spec_Wants spec_Wants_
  simp only [spec_PumpOk_eq, spec_StepRate_eq, Option.bind_some, spec_l15Less_eq]
  by_cases h : pumpOk (s, n, d, r, l, b, g, k) = true
  · obtain ⟨_, a2, a3, _, _, a6, _, a8, _⟩ := pumpOk_den h
    have hg := stepGives_range (decide_eq_true a2) a3
    unfold wants runs
    simp only [h, if_true, Bool.true_and, decide_eq_true_eq]
    repeat' split
    all_goals first
      | (exfalso; omega)
      | rfl
      | (rw [w64 (by omega) (by omega)])
  · unfold wants runs
    simp only [h, if_false, Bool.false_and, Bool.false_eq_true]
/- spec_Give -/
theorem spec_Give_eq (p : Pump) (m : Int) : g_spec_Give (p, m) = some (give p m) := by
  obtain ⟨s, n, d, r, l, b, g, k⟩ := p
  unfold g_spec_Give spec_Give_
  simp only [spec_PumpOk_eq, spec_StepRate_eq, spec_Wants_eq, Option.bind_some, spec_l15Less_eq]
  have hw := wants_range (s, n, d, r, l, b, g, k)
  by_cases h : pumpOk (s, n, d, r, l, b, g, k) = true
  · obtain ⟨_, a2, a3, _, _, a6, _, a8, a9⟩ := pumpOk_den h
    unfold give runs giveB giveN
    simp only [h, if_true, Bool.true_and, decide_eq_true_eq]
    generalize hW : wants (s, n, d, r, l, b, g, k) = W at hw
    have key : ∀ N, N = min (max m 0) W → ∀ B, B = min N (min b 3) → wrap64 (b - B) = b - B ∧ wrap64 (g + N) = g + N ∧ wrap64 (N - B) = N - B ∧ wrap64 (l - (N - B)) = l - (N - B) := by
      intro N hN B hB
      have hN' : 0 ≤ N ∧ N ≤ 6 := by omega
      have hB' : 0 ≤ B ∧ B ≤ 3 ∧ B ≤ N := by omega
      exact ⟨w64 (by omega) (by omega), w64 (by omega) (by omega), w64 (by omega) (by omega), w64 (by omega) (by omega)⟩
    by_cases hm : min m W < 0
    · simp only [hm, if_true]
      have e : (0 : Int) = min (max m 0) W := by omega
      obtain ⟨k1, k2, k3, k4⟩ := key 0 e _ rfl
      rw [k1, k2, k3, k4, ← e]
      repeat' split
      all_goals first
        | rfl
        | (exfalso; omega)
        | (rename_i h0; rw [h0.2])
        | (rename_i h0; rw [h0])
        | (rename_i h0 _; rw [h0])
    · simp only [hm, if_false]
      have e : min m W = min (max m 0) W := by omega
      rw [e]
      obtain ⟨k1, k2, k3, k4⟩ := key _ rfl _ rfl
      rw [k1, k2, k3, k4]
      repeat' split
      all_goals first
        | rfl
        | (exfalso; omega)
        | (rename_i h0; rw [h0.2])
        | (rename_i h0; rw [h0])
        | (rename_i h0 _; rw [h0])
  · unfold give runs
    simp only [h, if_false, Bool.false_and, Bool.false_eq_true]
/- spec_Take -/
theorem spec_Take_eq (p : Pump) (o : Order) : g_spec_Take (p, o) = some (take p o) := by
  obtain ⟨s, n, d, r, l, b, g, k⟩ := p
  obtain ⟨a, c, e, x⟩ := o
  unfold g_spec_Take spec_Take_ take takeR
  simp only [spec_PumpOk_eq, spec_OrderOk_eq, Option.bind_some]
  by_cases h : pumpOk (s, n, d, r, l, b, g, k) = true
  · by_cases h' : orderOk (a, c, e, x) = true
    · obtain ⟨h1, _, _, _, _, _, _, h8, _⟩ := pumpOk_den h
      simp only [h, h', if_true, and_self]
      repeat' split
      all_goals first
        | rfl
        | (exfalso; omega)
        | (simp_all; done)
        | (simp_all; omega)
    · simp only [h, h', if_true, if_false, and_false, Bool.false_eq_true]
  · simp only [h, if_false, false_and, Bool.false_eq_true]
/- spec_l14Order -/
theorem l14Order_some (S : List Int) (i s : Int) (hS : S.length ≤ 1048576) (hi : 0 ≤ i) : ∃ (o : Order) (i' s' : Int), g_spec_l14Order (S, i, s) = some (o, ((), i', s')) ∧ orderOk o = true ∧ 0 ≤ i' := by
  obtain ⟨v, i1, s1, e1, hv, hi1⟩ := l01PickInt_some S i s [1, 1, 1, 2, 2, 3, 4, 5, 6] hS hi (by decide)
  have hv6 : 1 ≤ v ∧ v ≤ 6 := by simp at hv; omega
  unfold g_spec_l14Order spec_l14Order_
  simp only [e1, Option.bind_some]
  by_cases h1 : v = 1
  · rw [if_pos h1]
    obtain ⟨a, i2, s2, e2, a0, a1, hi2⟩ := l01Below_some S i1 s1 9 hS hi1 (by omega)
    simp only [e2, Option.bind_some]
    have w1 : wrap64 (1 + a) = 1 + a := w64 (by omega) (by omega)
    have w2 : wrap64 (3 * (1 + a)) = 3 * (1 + a) := w64 (by omega) (by omega)
    rw [w1, w2]
    obtain ⟨b, i3, s3, e3, b0, b1, hi3⟩ := l01Below_some S i2 s2 (3 * (1 + a)) hS hi2 (by omega)
    obtain ⟨c, i4, s4, e4, c0, c1, hi4⟩ := l01Below_some S i3 s3 60 hS hi3 (by omega)
    simp only [e3, e4, Option.bind_some]
    rw [w64 (n := 1 + b) (by omega) (by omega), w64 (n := 1 + c) (by omega) (by omega)]
    exact ⟨_, _, _, rfl, decide_eq_true (by unfold OrderOkP; omega), hi4⟩
  · rw [if_neg h1]
    by_cases h2 : v = 2
    · rw [if_pos h2]
      obtain ⟨a, i2, s2, e2, a0, a1, hi2⟩ := l01Below_some S i1 s1 40 hS hi1 (by omega)
      simp only [e2, Option.bind_some]
      rw [w64 (n := 1 + a) (by omega) (by omega)]
      exact ⟨_, _, _, rfl, decide_eq_true (by unfold OrderOkP; omega), hi2⟩
    · rw [if_neg h2]
      exact ⟨_, _, _, rfl, decide_eq_true (by unfold OrderOkP; omega), hi1⟩
/- spec_l01Once -/
theorem l01Once_some (l : List Int) (i s n : Int) (hl : l.length ≤ 1048576) (hi : 0 ≤ i) (hn : 0 < n) : ∃ b i' s', g_spec_l01Once ((l, i, s), n) = some (b, ((), i', s')) ∧ 0 ≤ i' := by
  unfold g_spec_l01Once spec_l01Once_
  simp only []
  obtain ⟨v, i1, s1, e, _, _, h⟩ := l01Below_some l i s n hl hi hn
  rw [e]; exact ⟨_, _, _, rfl, h⟩
/- spec_l15Pump -/
theorem l15Pump_some (S : List Int) (i s : Int) (hS : S.length ≤ 1048576) (hi : 0 ≤ i) : ∃ (p : Pump) (i' s' : Int), g_spec_l15Pump (S, i, s) = some (p, ((), i', s')) ∧ pumpOk p = true ∧ 0 ≤ i' := by
  have key : ∀ (d n : Nat), n + d = 14 → ∀ (i s : Int) (p : Pump), 0 ≤ i → pumpOk p = true →
      ∃ (p' : Pump) (i' s' : Int), Ev (fun k => spec_l15Pump_L3 (fun _ => g_spec_Give) (fun _ => g_spec_PumpNew) (fun _ => g_spec_Take) (fun _ => g_spec_l01Below) (fun _ => g_spec_l01Once) (fun _ => g_spec_l14Order) k ((n : Int), i, s, S, 0, 0, 0, 0, 0, 0, 0, 0, p.1, p.2.1, p.2.2.1, p.2.2.2.1, p.2.2.2.2.1, p.2.2.2.2.2.1, p.2.2.2.2.2.2.1, p.2.2.2.2.2.2.2, ())) (p', ((), i', s')) ∧ pumpOk p' = true ∧ 0 ≤ i' := by
    intro d
    induction d with
    | zero =>
      intro n hn i s p hi hp
      obtain ⟨x, i1, s1, e, h0, h1, h2⟩ := l01Below_some S i s 14 hS hi (by omega)
      refine ⟨p, i1, s1, Ev.step (fun w => by rw [spec_l15Pump_L3]) ?_, hp, h2⟩
      refine ev_bind e ?_
      exact ev_neg (show ¬ (n : Int) < x by omega) ev_some
    | succ d ih =>
      intro n hn i s p hi hp
      obtain ⟨x, i1, s1, e, h0, h1, h2⟩ := l01Below_some S i s 14 hS hi (by omega)
      by_cases hx : (n : Int) < x
      · obtain ⟨b, i2, s2, e2, hi2⟩ := l01Once_some S i1 s1 3 hS h2 (by omega)
        cases b with
        | true =>
          obtain ⟨o, i3, s3, e3, _, hi3⟩ := l14Order_some S i2 s2 hS hi2
          obtain ⟨p', i', s', h3, h4⟩ := ih (n + 1) (by omega) i3 s3 (take p o).1 hi3 (take_ok o hp)
          refine ⟨p', i', s', Ev.step (fun w => by rw [spec_l15Pump_L3]) ?_, h4⟩
          refine ev_bind e ?_
          refine ev_pos hx ?_
          refine ev_bind e2 ?_
          refine ev_pos rfl ?_
          refine ev_bind e3 ?_
          refine ev_bind (spec_Take_eq _ _) ?_
          rw [w64_succ (by omega)]
          exact h3
        | false =>
          obtain ⟨m, i3, s3, e3, _, _, hi3⟩ := l01Below_some S i2 s2 8 hS hi2 (by omega)
          obtain ⟨p', i', s', h3, h4⟩ := ih (n + 1) (by omega) i3 s3 (give p m) hi3 (give_ok m hp)
          refine ⟨p', i', s', Ev.step (fun w => by rw [spec_l15Pump_L3]) ?_, h4⟩
          refine ev_bind e ?_
          refine ev_pos hx ?_
          refine ev_bind e2 ?_
          refine ev_neg Bool.false_ne_true ?_
          refine ev_bind e3 ?_
          refine ev_bind (spec_Give_eq _ _) ?_
          rw [w64_succ (by omega)]
          exact h3
      · refine ⟨p, i1, s1, Ev.step (fun w => by rw [spec_l15Pump_L3]) ?_, hp, h2⟩
        refine ev_bind e ?_
        exact ev_neg hx ev_some
  obtain ⟨p', i', s', h1, h2⟩ := key 14 0 rfl i s (0, 0, 1, 0, 0, 0, 0, 0) hi pumpNew_ok
  refine ⟨p', i', s', evG_eq ?_, h2⟩
  unfold spec_l15Pump_
  refine ev_bind spec_PumpNew_eq ?_
  exact h1
/- spec_DrawPump -/
theorem spec_DrawPump_some (S : List Int) (hS : S.length ≤ 1048576) : ∃ p : Pump, g_spec_DrawPump S = some p ∧ pumpOk p = true := by
  obtain ⟨x, hx⟩ := l01New_ev S hS
  obtain ⟨p, i1, s1, e1, h1, hi1⟩ := l15Pump_some S 0 x hS (by omega)
  refine ⟨p, ?_, h1⟩
  unfold g_spec_DrawPump spec_DrawPump_
  simp only [hx, e1, Option.bind_some]
/- spec_l14Any -/
theorem l14Any_some (S : List Int) (i s : Int) (hS : S.length ≤ 1048576) (hi : 0 ≤ i) : ∃ (o : Order) (i' s' : Int), g_spec_l14Any (S, i, s) = some (o, ((), i', s')) ∧ 0 ≤ i' := by
  obtain ⟨o, i1, s1, e1, _, hi1⟩ := l14Order_some S i s hS hi
  obtain ⟨x, i2, s2, e2, _, _, hi2⟩ := l01Below_some S i1 s1 12 hS hi1 (by omega)
  obtain ⟨y0, j0, t0, f0, _, _, g0⟩ := l01Below_some S i2 s2 8 hS hi2 (by omega)
  obtain ⟨y1, j1, t1, f1, _, g1⟩ := l01PickInt_some S i2 s2 [(-1), 0, 1, 1000, 1001] hS hi2 (by decide)
  obtain ⟨y2, j2, t2, f2, _, g2⟩ := l01PickInt_some S i2 s2 [0, 1, 1000, 1001] hS hi2 (by decide)
  obtain ⟨y3, j3, t3, f3, _, g3⟩ := l01PickInt_some S i2 s2 [0, 1, 100, 101, 5000, 5001] hS hi2 (by decide)
  unfold g_spec_l14Any spec_l14Any_
  simp only [e1, e2, f0, f1, f2, f3, Option.bind_some]
  by_cases c0 : x = 0
  · rw [if_pos c0]; exact ⟨_, _, _, rfl, g0⟩
  · rw [if_neg c0]
    by_cases c1 : x = 1
    · rw [if_pos c1]; exact ⟨_, _, _, rfl, g1⟩
    · rw [if_neg c1]
      by_cases c2 : x = 2
      · rw [if_pos c2]; exact ⟨_, _, _, rfl, g2⟩
      · rw [if_neg c2]
        by_cases c3 : x = 3
        · rw [if_pos c3]; exact ⟨_, _, _, rfl, g3⟩
        · rw [if_neg c3]; exact ⟨_, _, _, rfl, hi2⟩
/- spec_l03Rate -/
theorem l03Rate_some (S : List Int) (i s : Int) (hS : S.length ≤ 1048576) (hi : 0 ≤ i) : ∃ (r : Int × Int × Int) (i' s' : Int), g_spec_l03Rate (S, i, s) = some (r, ((), i', s')) ∧ 0 ≤ i' := by
  obtain ⟨a, i1, s1, e1, _, _, hi1⟩ := l01Below_some S i s 60 hS hi (by omega)
  obtain ⟨b, i2, s2, e2, b0, b1, hi2⟩ := l01Below_some S i1 s1 40 hS hi1 (by omega)
  have w1 : wrap64 (1 + b) = 1 + b := w64 (by omega) (by omega)
  obtain ⟨c, i3, s3, e3, _, _, hi3⟩ := l01Below_some S i2 s2 (1 + b) hS hi2 (by omega)
  obtain ⟨x, i4, s4, e4, _, _, hi4⟩ := l01Below_some S i3 s3 16 hS hi3 (by omega)
  obtain ⟨y0, j0, t0, f0, _, g0⟩ := l01PickInt_some S i4 s4 [(-1), 1000000, 1000001] hS hi4 (by decide)
  obtain ⟨y1, j1, t1, f1, _, g1⟩ := l01PickInt_some S i4 s4 [0, 1, 1000000, 1000001] hS hi4 (by decide)
  obtain ⟨y2, j2, t2, f2, _, g2⟩ := l01PickInt_some S i4 s4 [(-1), 1 + b] hS hi4 (by simp)
  unfold g_spec_l03Rate spec_l03Rate_
  simp only [e1, e2, w1, e3, e4, f0, f1, f2, Option.bind_some]
  by_cases c0 : x = 0
  · rw [if_pos c0]; exact ⟨_, _, _, rfl, g0⟩
  · rw [if_neg c0]
    by_cases c1 : x = 1
    · rw [if_pos c1]; exact ⟨_, _, _, rfl, g1⟩
    · rw [if_neg c1]
      by_cases c2 : x = 2
      · rw [if_pos c2]; exact ⟨_, _, _, rfl, g2⟩
      · rw [if_neg c2]; exact ⟨_, _, _, rfl, hi4⟩
/- spec_l15Any -/
theorem l15Any_some (S : List Int) (i s : Int) (hS : S.length ≤ 1048576) (hi : 0 ≤ i) : ∃ (p : Pump) (i' s' : Int), g_spec_l15Any (S, i, s) = some (p, ((), i', s')) ∧ 0 ≤ i' := by
  obtain ⟨p, i1, s1, e1, _, hi1⟩ := l15Pump_some S i s hS hi
  obtain ⟨x, i2, s2, e2, _, _, hi2⟩ := l01Below_some S i1 s1 16 hS hi1 (by omega)
  obtain ⟨y0, j0, t0, f0, _, _, g0⟩ := l01Below_some S i2 s2 5 hS hi2 (by omega)
  obtain ⟨y1, j1, t1, f1, _, g1⟩ := l01PickInt_some S i2 s2 [(-1), 0, 1, 5000, 5001] hS hi2 (by decide)
  obtain ⟨y2, j2, t2, f2, _, g2⟩ := l01PickInt_some S i2 s2 [(-1), 0, 100, 101] hS hi2 (by decide)
  obtain ⟨y3, j3, t3, f3, _, g3⟩ := l01PickInt_some S i2 s2 [(-1), 999999999999, 1000000000000, 1000000000001] hS hi2 (by decide)
  obtain ⟨y5, j5, t5, f5, g5⟩ := l03Rate_some S i2 s2 hS hi2
  unfold g_spec_l15Any spec_l15Any_
  simp only [e1, e2, f0, f1, f2, f3, f5, Option.bind_some]
  by_cases c0 : x = 0
  · rw [if_pos c0]; exact ⟨_, _, _, rfl, g0⟩
  · rw [if_neg c0]
    by_cases c1 : x = 1
    · rw [if_pos c1]; exact ⟨_, _, _, rfl, g1⟩
    · rw [if_neg c1]
      by_cases c2 : x = 2
      · rw [if_pos c2]; exact ⟨_, _, _, rfl, g2⟩
      · rw [if_neg c2]
        by_cases c3 : x = 3
        · rw [if_pos c3]; exact ⟨_, _, _, rfl, g3⟩
        · rw [if_neg c3]
          by_cases c4 : x = 4
          · rw [if_pos c4]; exact ⟨_, _, _, rfl, g0⟩
          · rw [if_neg c4]
            by_cases c5 : x = 5
            · rw [if_pos c5]; exact ⟨_, _, _, rfl, g5⟩
            · rw [if_neg c5]; exact ⟨_, _, _, rfl, hi2⟩
/- spec_DrawTake -/
theorem spec_DrawTake_some (S : List Int) (hS : S.length ≤ 1048576) : ∃ (p : Pump) (o : Order), g_spec_DrawTake S = some (p, o) := by
  obtain ⟨x, hx⟩ := l01New_ev S hS
  obtain ⟨p, i1, s1, e1, hi1⟩ := l15Any_some S 0 x hS (by omega)
  obtain ⟨o, i2, s2, e2, hi2⟩ := l14Any_some S i1 s1 hS hi1
  refine ⟨p, o, ?_⟩
  unfold g_spec_DrawTake spec_DrawTake_
  simp only [hx, e1, e2, Option.bind_some]
/- laws_FnPumps -/
set_option maxHeartbeats 1000000 in
theorem t_FnPumps (S : List Int) : g_laws_FnPumps S = some true := by
  unfold g_laws_FnPumps laws_FnPumps_
  simp only [laws_big_eq, Option.bind_some]
  refine ite_r (fun _ => rfl) (fun hb => ?_)
  have hS : S.length ≤ 1048576 := by
    rw [decide_eq_true_eq] at hb; omega
  obtain ⟨p, e1, hp⟩ := spec_DrawPump_some S hS
  obtain ⟨p2, o, e2⟩ := spec_DrawTake_some S hS
  obtain ⟨q, hq, h12, hx⟩ := spec_DrawPlaces_some S hS
  simp only [e1, e2, hq, impl_Take_eq, spec_Take_eq, impl_Give_eq, spec_Give_eq, impl_PumpOk_eq, impl_Wants_eq, spec_Wants_eq, impl_PumpNew_eq, Option.bind_some]
  generalize Int.tmod (q.getD (Int.toNat 0) 0) 9 = n
  have hw := wants_range p
  have hg := give_given p n hp
  have hN := giveN_range p n
  have hG : p.2.2.2.2.2.2.1 ≤ (give p n).2.2.2.2.2.2.1 ∧ (give p n).2.2.2.2.2.2.1 ≤ p.2.2.2.2.2.2.1 + wants p ∧ 0 ≤ p.2.2.2.2.2.2.1 ∧ p.2.2.2.2.2.2.1 ≤ 1000000000000 := by
    obtain ⟨s, m, d, r, l, b, g, k⟩ := p
    obtain ⟨_, _, _, _, _, _, _, _, h9⟩ := pumpOk_den hp
    simp only [] at hg h9 ⊢
    split at hg <;> omega
  rw [w64 (n := p.2.2.2.2.2.2.1 + wants p) (by omega) (by omega), w64 (n := wants p + 5) (by omega) (by omega), ← give_more p]
  rw [if_pos (by omega), if_pos (by omega), if_neg (by omega)]
  simp only [beq_self_eq_true, if_true, hp, take_ok o hp, give_ok n hp, hw.1, show wants p ≤ 7 by omega, hG.1, hG.2.1, pumpNew_ok, decide_true, Bool.and_self]
  cases ht : (take p o).2 with
  | true => simp
  | false => simp [take_no ht]
end Go.Sx.T
