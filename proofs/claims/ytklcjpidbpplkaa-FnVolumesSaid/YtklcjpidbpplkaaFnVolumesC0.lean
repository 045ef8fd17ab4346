/- Functions of the program as functions of Lean, and that the program keeps to them. -/
import Derived.Test.YtklcjpidbpplkaaFnVolumesA0
set_option maxRecDepth 100000
set_option linter.unusedVariables false
set_option linter.unusedSimpArgs false
namespace Go.Proofs
end Go.Proofs
namespace Go.Sx.T
open Go Go.Sx Go.Proofs Go.RowKit
/- impl_within -/
theorem impl_within_eq (a b c : Int) : g_impl_within (a, b, c) = some (decide (b ≤ a ∧ a ≤ c)) := by
  show (if b ≤ a then some (decide (a ≤ c)) else some false) = _
  split
  · rename_i h; refine eq_dec ?_; rw [decide_eq_true_iff]; omega
  · rename_i h; exact dec_no (by omega)
/- impl_RateOk -/
theorem impl_RateOk_eq (n d r : Int) : g_impl_RateOk (n, d, r) = some (rateOk n d r) := by
  unfold g_impl_RateOk impl_RateOk_ rateOk
  simp only [impl_within_eq, Option.bind_some, decide_eq_true_eq]
  by_cases h1 : 0 ≤ n ∧ n ≤ 1000000
  · by_cases h2 : 1 ≤ d ∧ d ≤ 1000000
    · rw [if_pos h1, if_pos h2, w64 (by omega) (by omega)]
      refine eq_dec ?_
      rw [decide_eq_true_iff]; unfold RateOkP; omega
    · rw [if_pos h1, if_neg h2]; exact dec_no (by unfold RateOkP; omega)
  · rw [if_neg h1]; exact dec_no (by unfold RateOkP; omega)
/- impl_StepRate -/
theorem impl_StepRate_eq (n d r : Int) : g_impl_StepRate (n, d, r) = some ((n, d, stepRest n d r), stepGives n d r) := by
  unfold g_impl_StepRate impl_StepRate_ stepRest stepGives
  simp only [impl_RateOk_eq, Option.bind_some]
  by_cases h : rateOk n d r = true
  · have h' := rateOk_den h
    obtain ⟨e1, e2⟩ := step_plain h
    simp only [h, if_true]
    rw [if_neg (by omega), if_neg (by omega), e1, e2]
  · simp only [h, if_false]; rfl
/- impl_PumpOk -/
theorem impl_PumpOk_eq (p : Pump) : g_impl_PumpOk p = some (pumpOk p) := by
  obtain ⟨s, n, d, r, l, b, g, k⟩ := p
  show _ = some (decide (PumpOkP s n d r l b g k))
  unfold g_impl_PumpOk impl_PumpOk_
  simp only [impl_within_eq, impl_RateOk_eq, Option.bind_some, decide_eq_true_eq, rateOk, beq_iff_eq, Bool.true_eq, Bool.false_eq, decide_eq_false_iff_not, decide_eq_decide]
  by_cases h : RateOkP n d r
  · have hw : wrap64 (3 * d) = 3 * d := by unfold RateOkP at h; exact w64 (by omega) (by omega)
    rw [hw]
    have h0 := h
    unfold RateOkP at h
    repeat' refine ite_r (fun _ => ?_) (fun _ => ?_)
    all_goals first
      | exact absurd h0 (by assumption)
      | exact dec_no (by unfold PumpOkP RateOkP; omega)
      | exact dec_yes (by unfold PumpOkP RateOkP; omega)
      | (refine eq_dec ?_; rw [decide_eq_true_iff]; unfold PumpOkP RateOkP; omega)
  · simp only [h, if_false]
    repeat' refine ite_r (fun _ => ?_) (fun _ => ?_)
    all_goals exact dec_no (by unfold PumpOkP; exact fun q => h q.2.1)
/- impl_Wants -/
theorem impl_Wants_eq (p : Pump) : g_impl_Wants p = some (wants p) := by
  obtain ⟨s, n, d, r, l, b, g, k⟩ := p
  unfold g_impl_Wants impl_Wants_
  simp only [impl_PumpOk_eq, impl_StepRate_eq, Option.bind_some, mn_eq]
  by_cases h : pumpOk (s, n, d, r, l, b, g, k) = true
  · obtain ⟨_, a2, a3, _, _, a6, _, a8, _⟩ := pumpOk_den h
    have hg := stepGives_range (decide_eq_true a2) a3
    unfold wants runs
    simp only [h, if_true, Bool.true_and, decide_eq_true_eq]
    repeat' split
    all_goals first
      | (exfalso; omega)
      | rfl
      | (rw [w64 (by omega) (by omega)])
  · unfold wants runs
    simp only [h, if_false, Bool.false_and, Bool.false_eq_true]
/- impl_Give -/
theorem impl_Give_eq (p : Pump) (m : Int) : g_impl_Give (p, m) = some (give p m) := by
  obtain ⟨s, n, d, r, l, b, g, k⟩ := p
  unfold g_impl_Give impl_Give_
  simp only [impl_PumpOk_eq, impl_StepRate_eq, impl_Wants_eq, Option.bind_some, mn_eq, mx_eq]
  have hw := wants_range (s, n, d, r, l, b, g, k)
  by_cases h : pumpOk (s, n, d, r, l, b, g, k) = true
  · obtain ⟨_, a2, a3, _, _, a6, _, a8, a9⟩ := pumpOk_den h
    unfold give runs giveB giveN
    simp only [h, if_true, Bool.true_and, decide_eq_true_eq]
    generalize hW : wants (s, n, d, r, l, b, g, k) = W at hw
    have e1 : min (min (min (max m 0) W) b) 3 = min (min (max m 0) W) (min b 3) := by omega
    rw [e1]
    generalize hN : min (max m 0) W = N
    have hN' : 0 ≤ N ∧ N ≤ 6 := by omega
    generalize hB : min N (min b 3) = B
    have hB' : 0 ≤ B ∧ B ≤ 3 ∧ B ≤ N := by omega
    rw [w64 (n := b - B) (by omega) (by omega), w64 (n := g + N) (by omega) (by omega), w64 (n := N - B) (by omega) (by omega), w64 (n := l - (N - B)) (by omega) (by omega)]
    repeat' split
    all_goals first
      | rfl
      | (exfalso; omega)
      | (rename_i h0; rw [h0.2])
      | (rename_i h0; rw [h0])
      | (rename_i h0 _; rw [h0])
  · unfold give runs
    simp only [h, if_false, Bool.false_and, Bool.false_eq_true]
/- impl_OrderOk -/
theorem impl_OrderOk_eq (o : Order) : g_impl_OrderOk o = some (orderOk o) := by
  obtain ⟨a, b, c, x⟩ := o
  show _ = some (decide (OrderOkP a b c x))
  unfold g_impl_OrderOk impl_OrderOk_
  simp only [impl_within_eq, Option.bind_some, decide_eq_true_eq, mn_eq]
  by_cases h : 1 ≤ c ∧ c ≤ 1000
  · have hw : wrap64 (3 * c) = 3 * c := w64 (by omega) (by omega)
    rw [hw]
    repeat' refine ite_r (fun _ => ?_) (fun _ => ?_)
    all_goals first
      | exact dec_no (by unfold OrderOkP; omega)
      | exact dec_yes (by unfold OrderOkP; omega)
      | (exfalso; omega)
      | (exfalso; simp_all; done)
      | (refine eq_dec ?_; simp only [Bool.and_eq_true, decide_eq_true_eq, decide_true, true_and]; unfold OrderOkP; omega)
  · simp only [h, if_false]
    repeat' refine ite_r (fun _ => ?_) (fun _ => ?_)
    all_goals first
      | exact dec_no (by unfold OrderOkP; omega)
      | exact dec_yes (by unfold OrderOkP; omega)
      | (exfalso; omega)
      | (exfalso; simp_all; done)
      | (refine eq_dec ?_; simp only [Bool.and_eq_true, decide_eq_true_eq, decide_true, true_and]; unfold OrderOkP; omega)
/- impl_Take -/
theorem impl_Take_eq (p : Pump) (o : Order) : g_impl_Take (p, o) = some (take p o) := by
  obtain ⟨s, n, d, r, l, b, g, k⟩ := p
  obtain ⟨a, c, e, x⟩ := o
  unfold g_impl_Take impl_Take_ take takeR
  simp only [impl_PumpOk_eq, impl_OrderOk_eq, Option.bind_some]
  by_cases h : pumpOk (s, n, d, r, l, b, g, k) = true
  · by_cases h' : orderOk (a, c, e, x) = true
    · obtain ⟨h1, _, _, _, _, _, _, h8, _⟩ := pumpOk_den h
      simp only [h, h', if_true, and_self]
      repeat' split
      all_goals first
        | rfl
        | (exfalso; omega)
        | (simp_all; done)
        | (simp_all; omega)
    · simp only [h, h', if_true, if_false, and_false, Bool.false_eq_true]
  · simp only [h, if_false, false_and, Bool.false_eq_true]
/- impl_PumpNew -/
theorem impl_PumpNew_eq : g_impl_PumpNew () = some (0, 0, 1, 0, 0, 0, 0, 0) := rfl
/- spec_l01Byte -/
theorem and255 (x : Int) : 0 ≤ iand .i64 x 255 ∧ iand .i64 x 255 ≤ 255 := by
  have e : iand .i64 x 255 = IntKind.i64.wrap (((BitVec.ofInt 64 x &&& BitVec.ofInt 64 255).toNat : Nat) : Int) := rfl
  have h : (BitVec.ofInt 64 x &&& BitVec.ofInt 64 255).toNat ≤ 255 := by
    rw [BitVec.toNat_and]
    exact Nat.le_trans Nat.and_le_right (by decide)
  rw [e, IntKind.wrap_i64]
  omega
theorem l01Byte_some (l : List Int) (i s : Int) (hl : l.length ≤ 1048576) (hi : 0 ≤ i) : ∃ b i' s', g_spec_l01Byte (l, i, s) = some (b, ((), i', s')) ∧ 0 ≤ b ∧ b ≤ 255 ∧ 0 ≤ i' := by
  unfold g_spec_l01Byte spec_l01Byte_
  simp only []
  rw [if_pos (by omega), if_pos (by omega)]
  by_cases h : i < (l.length : Int)
  · rw [if_pos h, if_pos hi, if_pos h, w64 (n := i + 1) (by omega) (by omega)]
    exact ⟨_, _, _, rfl, (and255 _).1, (and255 _).2, by omega⟩
  · rw [if_neg h]
    exact ⟨_, _, _, rfl, (and255 _).1, (and255 _).2, hi⟩
/- spec_l01Below -/
theorem l01Below_some (l : List Int) (i s n : Int) (hl : l.length ≤ 1048576) (hi : 0 ≤ i) (hn : 0 < n) : ∃ v i' s', g_spec_l01Below ((l, i, s), n) = some (v, ((), i', s')) ∧ 0 ≤ v ∧ v < n ∧ 0 ≤ i' := by
  unfold g_spec_l01Below spec_l01Below_
  simp only []
  rw [if_neg (by omega)]
  by_cases h : n ≤ 256
  · rw [if_pos h]
    obtain ⟨b, i1, s1, e, h1, h2, h3⟩ := l01Byte_some l i s hl hi
    rw [e, Option.bind_some, if_neg (by omega)]
    exact ⟨_, _, _, rfl, Int.tmod_nonneg _ h1, Int.tmod_lt_of_pos _ hn, h3⟩
  · rw [if_neg h]
    obtain ⟨b1, i1, s1, e1, h11, h12, h13⟩ := l01Byte_some l i s hl hi
    obtain ⟨b2, i2, s2, e2, h21, h22, h23⟩ := l01Byte_some l i1 s1 hl h13
    obtain ⟨b3, i3, s3, e3, h31, h32, h33⟩ := l01Byte_some l i2 s2 hl h23
    obtain ⟨b4, i4, s4, e4, h41, h42, h43⟩ := l01Byte_some l i3 s3 hl h33
    simp only [e1, e2, e3, e4, Option.bind_some]
    rw [if_neg (by omega)]
    refine ⟨_, _, _, rfl, Int.tmod_nonneg _ ?_, Int.tmod_lt_of_pos _ hn, h43⟩
    show 0 ≤ wrap64 ((wrap64 ((wrap64 ((wrap64 (b1 * 16777216)) + (wrap64 (b2 * 65536)))) + (wrap64 (b3 * 256)))) + b4)
    unfold wrap64; omega
/- spec_l01New -/
theorem l01New_ev (l : List Int) (hl : l.length ≤ 1048576) : ∃ x, g_spec_l01New l = some ((), 0, x) := by
  have key : ∀ (d : Nat) (i : Nat), l.length = i + d → ∀ x, ∃ y, Ev (fun k => spec_l01New_L3 k (x, (i : Int), l, ())) ((), (0 : Int), y) := by
    intro d
    induction d with
    | zero =>
      intro i hi x
      exact ⟨x, Ev.step (fun q => by rw [spec_l01New_L3]) (ev_neg (by omega) ev_some)⟩
    | succ d ih =>
      intro i hi x
      by_cases h4 : (i : Int) < 4000
      · obtain ⟨y, hy⟩ := ih (i + 1) (by omega) _
        refine ⟨y, Ev.step (fun q => by rw [spec_l01New_L3]) (ev_pos (by omega) (ev_pos h4 (ev_pos (by omega) (ev_pos (by omega) ?_))))⟩
        rw [w64_succ (by omega)]
        exact hy
      · exact ⟨x, Ev.step (fun q => by rw [spec_l01New_L3]) (ev_pos (by omega) (ev_neg h4 ev_some))⟩
  obtain ⟨y, hy⟩ := key l.length 0 (by omega) _
  exact ⟨y, evG_eq hy⟩
/- laws_big -/
theorem laws_big_eq (l : List Int) : g_laws_big l = some (decide (1048576 < (l.length : Int))) := rfl
/- spec_DrawPlaces -/
theorem spec_DrawPlaces_some (code : List Int) (hl : code.length ≤ 1048576) : ∃ q, g_spec_DrawPlaces code = some q ∧ q.length = 12 ∧ ∀ x ∈ q, 0 ≤ x ∧ x < 10000 := by
  have key : ∀ (d n : Nat), n + d = 12 → ∀ (i h : Int) (q : List Int), 0 ≤ i → q.length = n → (∀ x ∈ q, 0 ≤ x ∧ x < 10000) →
      ∃ q', Ev (fun k => spec_DrawPlaces_L5 (fun _ => g_spec_l01Below) (fun _ => g_spec_l01Byte) (fun _ => g_spec_l01New) k ((n : Int), code, i, h, q, ())) q' ∧ q'.length = 12 ∧ ∀ x ∈ q', 0 ≤ x ∧ x < 10000 := by
    intro d
    induction d with
    | zero =>
      intro n hn i h q hi hq hx
      exact ⟨q, Ev.step (fun q => by rw [spec_DrawPlaces_L5]) (ev_neg (by omega) ev_some), by omega, hx⟩
    | succ d ih =>
      intro n hn i h q hi hq hx
      obtain ⟨v, i', s', e, h1, h2, h3⟩ := l01Below_some code i h 10000 hl hi (by omega)
      obtain ⟨q', h4, h5⟩ := ih (n + 1) (by omega) i' s' (q ++ [v]) h3 (by simp [hq]) (fun x hx' => by
        rcases List.mem_append.1 hx' with hx' | hx'
        · exact hx x hx'
        · simp at hx'; subst hx'; exact ⟨h1, h2⟩)
      refine ⟨q', Ev.step (fun q => by rw [spec_DrawPlaces_L5]) (ev_pos (by omega) (ev_bind e (ev_pos ?_ ?_))), h5⟩
      · simp only [List.length_singleton, hq]; omega
      · rw [w64_succ (by omega)]
        exact h4
  obtain ⟨x, hn⟩ := l01New_ev code hl
  obtain ⟨b, i', s', e, _, _, h3⟩ := l01Byte_some code 0 x hl (by omega)
  obtain ⟨q, h4, h5⟩ := key 12 0 rfl i' s' [] h3 rfl (fun x hx => by cases hx)
  refine ⟨q, evG_eq ?_, h5⟩
  unfold spec_DrawPlaces_
  exact ev_bind hn (ev_bind e h4)
/- laws_FnVolumes -/
theorem vol_div (T M D : Int) (hD : 0 < D) : (T + M) / D = T / D + (T % D + M) / D ∧ (T + M) % D = (T % D + M) % D := by
  constructor
  · have h : T + M = (T % D + M) + D * (T / D) := by have := Int.emod_add_mul_ediv T D; omega
    rw [h, Int.add_mul_ediv_left _ _ (by omega)]
    have e : (T % D + M + D * (T / D)) % D = (T % D + M) % D := Int.add_mul_emod_self_left _ _ _
    omega
  · exact (Int.emod_add_emod T D M).symm
theorem vol_step (M D V T : Int) (hD : 1 ≤ D ∧ D ≤ 9) (hM : 1 ≤ M ∧ M ≤ 3 * D) (hV : 1 ≤ V ∧ V ≤ 60) (hT : 0 ≤ T) (hr : T / D < V) :
    give (1, M, D, T % D, V - T / D, 0, T / D, 0) (wants (1, M, D, T % D, V - T / D, 0, T / D, 0)) = (if (T + M) / D < V then (1, M, D, (T + M) % D, V - (T + M) / D, 0, (T + M) / D, 0) else (2, 1, 50, 0, 0, 0, V, 0)) := by
  have hA : 0 ≤ T / D := Int.ediv_nonneg hT (by omega)
  have hm1 : 0 ≤ T % D := Int.emod_nonneg _ (by omega)
  have hm2 : T % D < D := Int.emod_lt_of_pos _ (by omega)
  have hok : PumpOkP 1 M D (T % D) (V - T / D) 0 (T / D) 0 := by unfold PumpOkP RateOkP; omega
  have hru : runs (1, M, D, T % D, V - T / D, 0, T / D, 0) = true := by unfold runs; rw [pumpOk_mk hok]; rfl
  have hrate : rateOk M D (T % D) = true := decide_eq_true hok.2.1
  obtain ⟨d1, d2⟩ := vol_div T M D (by omega)
  have hg := stepGives_range hrate hok.2.2.1
  have hgv : stepGives M D (T % D) = (T % D + M) / D := by unfold stepGives; rw [hrate]; rfl
  have hrv : stepRest M D (T % D) = (T % D + M) % D := by unfold stepRest; rw [hrate]; rfl
  have hw : wants (1, M, D, T % D, V - T / D, 0, T / D, 0) = min (stepGives M D (T % D)) (V - T / D) := by
    simp only [wants, hru, if_true]
    omega
  rw [hw]
  simp only [give, giveB, giveN, hru, hw, hrv, ← d2, if_true, true_and]
  rw [hgv] at hg ⊢
  generalize (T % D + M) / D = G at *
  generalize T / D = A at *
  rw [d1]
  have e1 : min (max (min G (V - A)) 0) (min G (V - A)) = min G (V - A) := by omega
  rw [e1]
  have e2 : min (min G (V - A)) (min 0 3) = 0 := by omega
  rw [e2]
  by_cases h : A + G < V
  · rw [if_neg (by omega), if_pos h]
    have e3 : V - A - (min G (V - A) - 0) = V - (A + G) := by omega
    have e4 : min (A + min G (V - A)) 1000000000000 = A + G := by omega
    rw [e3, e4]; rfl
  · rw [if_pos (by omega), if_neg h]
    have e4 : min (A + min G (V - A)) 1000000000000 = V := by omega
    rw [e4]; rfl
theorem vol_begin (M D V : Int) (hD : 1 ≤ D ∧ D ≤ 9) (hM : 1 ≤ M ∧ M ≤ 3 * D) (hV : 1 ≤ V ∧ V ≤ 60) : take (0, 0, 1, 0, 0, 0, 0, 0) (1, M, D, V) = ((1, M, D, 0, V, 0, 0, 0), true) := by
  have h1 : pumpOk (0, 0, 1, 0, 0, 0, 0, 0) = true := by decide +kernel
  have h2 : orderOk (1, M, D, V) = true := decide_eq_true (by unfold OrderOkP; omega)
  simp only [take, takeR, h1, h2]
  simp
set_option maxHeartbeats 4000000 in
theorem t_FnVolumes (code : List Int) : g_laws_FnVolumes code = some true := by
  refine evG_eq ?_
  unfold laws_FnVolumes_
  refine ev_bind (laws_big_eq code) ?_
  refine ev_dom (fun _ => ev_some) (fun hb => ?_)
  have hl : code.length ≤ 1048576 := by
    rw [decide_eq_true_eq] at hb; omega
  obtain ⟨q, hq, h12, hx⟩ := spec_DrawPlaces_some code hl
  have hget : ∀ i : Nat, i < 12 → 0 ≤ q.getD i 0 ∧ q.getD i 0 < 10000 := fun i hi => by
    have : q.getD i 0 = q[i]'(by omega) := by simp [List.getD_eq_getElem?_getD, h12, hi]
    rw [this]; exact hx _ (List.getElem_mem _)
  have h0 := hget 0 (by omega)
  have h1 := hget 1 (by omega)
  have h2 := hget 2 (by omega)
  refine ev_bind hq ?_
  have t0 : Int.toNat 0 = 0 := rfl
  have t1 : Int.toNat 1 = 1 := rfl
  have t2 : Int.toNat 2 = 2 := rfl
  rw [t0, t1, t2]
  generalize q.getD 0 0 = x0 at h0
  generalize q.getD 1 0 = x1 at h1
  generalize q.getD 2 0 = x2 at h2
  obtain ⟨D, eD, hD⟩ : ∃ D : Int, wrap64 (1 + Int.tmod x0 9) = D ∧ 1 ≤ D ∧ D ≤ 9 := by
    have h1 := Int.tmod_nonneg (b := 9) h0.1
    have h2 := Int.tmod_lt_of_pos x0 (b := 9) (by omega)
    exact ⟨1 + Int.tmod x0 9, w64 (by omega) (by omega), by omega, by omega⟩
  obtain ⟨V, eV, hV⟩ : ∃ V : Int, wrap64 (1 + Int.tmod x2 60) = V ∧ 1 ≤ V ∧ V ≤ 60 := by
    have h1 := Int.tmod_nonneg (b := 60) h2.1
    have h2 := Int.tmod_lt_of_pos x2 (b := 60) (by omega)
    exact ⟨1 + Int.tmod x2 60, w64 (by omega) (by omega), by omega, by omega⟩
  rw [eD, eV]
  have e3 : wrap64 (3 * D) = 3 * D := w64 (by omega) (by omega)
  rw [e3]
  obtain ⟨M, eM, hM⟩ : ∃ M : Int, wrap64 (1 + Int.tmod x1 (3 * D)) = M ∧ 1 ≤ M ∧ M ≤ 3 * D := by
    have h3 := Int.tmod_nonneg (b := 3 * D) h1.1
    have h4 := Int.tmod_lt_of_pos x1 (b := 3 * D) (by omega)
    exact ⟨1 + Int.tmod x1 (3 * D), w64 (by omega) (by omega), by omega, by omega⟩
  rw [eM]
  refine ev_pos (by omega) (ev_pos (by omega) (ev_neg (by omega) (ev_pos (by omega) (ev_pos (by omega) (ev_neg (by omega) (ev_pos (by omega) (ev_pos (by omega) (ev_neg (by omega) (ev_bind impl_PumpNew_eq (ev_bind (impl_Take_eq _ _) ?_))))))))))
  rw [vol_begin M D V hD hM hV]
  simp only []
  have hVD : 1 ≤ V * D ∧ V * D ≤ 540 := by
    have a1 : V * D ≤ 60 * D := Int.mul_le_mul_of_nonneg_right hV.2 (by omega)
    have a2 : 1 * D ≤ V * D := Int.mul_le_mul_of_nonneg_right hV.1 (by omega)
    omega
  have run_bound : ∀ n : Nat, (n : Int) * M / D < V → (n : Int) * M < V * D ∧ (n : Int) < 540 ∧ 0 ≤ (n : Int) * M := by
    intro n hn
    have a1 : (n : Int) * M < V * D := (Int.ediv_lt_iff_lt_mul (by omega)).1 hn
    have a2 : (n : Int) * 1 ≤ (n : Int) * M := Int.mul_le_mul_of_nonneg_left hM.1 (by omega)
    have a3 : 0 ≤ (n : Int) * M := Int.mul_nonneg (by omega) (by omega)
    omega
  have fin : ∀ n : Nat, 1 ≤ n → ((n : Int) - 1) * M / D < V → ¬ (n : Int) * M / D < V → (n : Int) ≤ 540 →
      Ev (fun k => laws_FnVolumes_L8 (fun _ => g_impl_Give) (fun _ => g_impl_PumpNew) (fun _ => g_impl_Take) (fun _ => g_impl_Wants) (fun _ => g_laws_big) (fun _ => g_spec_DrawPlaces) k (true, (n : Int), 1, M, D, V, 2, 1, 50, 0, 0, 0, V, 0, ())) true := by
    intro n h1 h2 h3 h4
    have a1 : ((n : Int) - 1) * M < V * D := (Int.ediv_lt_iff_lt_mul (by omega)).1 h2
    have a2 : V * D ≤ (n : Int) * M := (Int.le_ediv_iff_mul_le (by omega)).1 (by omega)
    have a3 : ((n : Int) - 1) * M = (n : Int) * M - M := by rw [Int.sub_mul, Int.one_mul]
    have a4 : 0 ≤ ((n : Int) - 1) * M := Int.mul_nonneg (by omega) (by omega)
    refine Ev.step (fun q => by rw [laws_FnVolumes_L8]) (ev_neg (by omega) ?_)
    rw [w64 (n := (n : Int) - 1) (by omega) (by omega), w64 (n := ((n : Int) - 1) * M) (by omega) (by omega), w64 (n := V * D) (by omega) (by omega), w64 (n := (n : Int) * M) (by omega) (by omega)]
    exact ev_pos rfl (ev_pos rfl (ev_pos rfl (ev_pos rfl (ev_pos a1 (ev_pos a2 (ev_pos rfl ev_some))))))
  have key : ∀ (d n : Nat), d + n = 600 → (n : Int) * M / D < V →
      Ev (fun k => laws_FnVolumes_L8 (fun _ => g_impl_Give) (fun _ => g_impl_PumpNew) (fun _ => g_impl_Take) (fun _ => g_impl_Wants) (fun _ => g_laws_big) (fun _ => g_spec_DrawPlaces) k (true, (n : Int), 1, M, D, V, 1, M, D, (n : Int) * M % D, V - (n : Int) * M / D, 0, (n : Int) * M / D, 0, ())) true := by
    intro d
    induction d with
    | zero =>
      intro n hn hr
      have := run_bound n hr
      omega
    | succ d ih =>
      intro n hn hr
      obtain ⟨b1, b2, b3⟩ := run_bound n hr
      have en : ((n + 1 : Nat) : Int) = (n : Int) + 1 := by omega
      have em : ((n : Int) + 1) * M = (n : Int) * M + M := by rw [Int.add_mul, Int.one_mul]
      have hq0 : 0 ≤ ((n : Int) * M + M) / D := Int.ediv_nonneg (by omega) (by omega)
      have hq1 : ((n : Int) * M + M) / D ≤ (n : Int) * M + M := Int.ediv_le_self _ (by omega)
      have e1 : wrap64 (Int.tdiv (wrap64 (wrap64 ((n : Int) + 1) * M)) D) = ((n : Int) * M + M) / D := by
        rw [w64_succ (by omega), em, w64 (n := (n : Int) * M + M) (by omega) (by omega), Int.tdiv_eq_ediv_of_nonneg (by omega)]
        exact w64 (by omega) (by omega)
      refine Ev.step (fun q => by rw [laws_FnVolumes_L8]) (ev_pos rfl (ev_pos (by omega) (ev_neg (by omega) ?_)))
      rw [e1]
      have hs := vol_step M D V ((n : Int) * M) hD hM hV b3 hr
      by_cases hlt : ((n : Int) * M + M) / D < V
      · rw [if_pos hlt] at hs
        refine ev_neg (Int.not_lt.2 (Int.le_of_lt hlt)) (ev_bind (impl_Wants_eq _) (ev_bind (impl_Give_eq _ _) ?_))
        rw [hs]
        simp only []
        refine ev_pos trivial ?_
        have := ih (n + 1) (by omega) (by rw [en, em]; exact hlt)
        rw [en, em] at this
        rw [w64_succ (by omega)]
        exact this
      · rw [if_neg hlt] at hs
        have hfin := fin (n + 1) (by omega) (by rw [en]; have : (n : Int) + 1 - 1 = n := by omega
                                                rw [this]; exact hr) (by rw [en, em]; exact hlt) (by omega)
        rw [en] at hfin
        refine ev_dom (fun hgt => ?_) (fun hgt => ?_)
        · refine ev_bind (impl_Wants_eq _) (ev_bind (impl_Give_eq _ _) ?_)
          rw [hs]
          simp only []
          refine ev_pos trivial ?_
          rw [w64_succ (by omega)]
          exact hfin
        · refine ev_bind (impl_Wants_eq _) (ev_bind (impl_Give_eq _ _) ?_)
          rw [hs]
          simp only []
          refine ev_pos (Int.le_antisymm (Int.not_lt.1 hlt) (Int.not_lt.1 hgt)) ?_
          rw [w64_succ (by omega)]
          exact hfin
  have hz : ((0 : Nat) : Int) * M = 0 := Int.zero_mul M
  have hk := key 600 0 rfl (by rw [hz, Int.zero_ediv]; omega)
  rw [hz, Int.zero_emod, Int.zero_ediv, Int.sub_zero] at hk
  exact hk
end Go.Sx.T
