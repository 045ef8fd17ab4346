/- Functions of the program as functions of Lean, and that the program keeps to them. -/
import Derived.Test.YtogagfoikapbpaaGreatFnExactRunDeviceA1
set_option maxRecDepth 100000
set_option linter.unusedVariables false
set_option linter.unusedSimpArgs false
namespace Go.Proofs
end Go.Proofs
namespace Go.Sx.T
open Go Go.Sx Go.Proofs Go.RowKit
/- laws_heldTickS -/
theorem laws_heldTickS_eq (n : Nat) (k : Int) (hn : n ≤ 2000000) (hk : 0 ≤ k ∧ k ≤ 100000000) : g_laws_heldTickS (marksT k n, k) = some (k + 3 * (n : Int)) := by
  refine evG_eq ?_
  unfold laws_heldTickS_
  have hlen := marksT_length k n
  have key : ∀ (d j : Nat), j + d = n → Ev (fun q => laws_heldTickS_L2 q (k + 3 * (j : Int), (j : Int), marksT k n, ())) (k + 3 * (n : Int)) := by
    intro d
    induction d with
    | zero =>
      intro j hj
      have e : j = n := by omega
      subst e
      exact Ev.step (fun w => by rw [laws_heldTickS_L2]) (ev_neg (by omega) ev_some)
    | succ d ih =>
      intro j hj
      have hlt : j < (marksT k n).length := by omega
      obtain ⟨e1, e2, e3, _⟩ := w3 (k := k + 3 * (j : Int)) (by omega) (by omega)
      refine Ev.step (fun w => by rw [laws_heldTickS_L2]) ?_
      rw [getD_lt hlt, marksT_get k (by omega), w64_succ (by omega), e3, e2, e1]
      have := ih (j + 1) (by omega)
      rw [show k + 3 * ((j + 1 : Nat) : Int) = k + 3 * (j : Int) + 3 by omega] at this
      exact ev_pos (by omega) (ev_pos (by omega) (ev_pos (by omega) (ev_pos rfl (ev_pos (by omega) (ev_pos (by omega) (ev_pos rfl (ev_pos (by omega) (ev_pos (by omega) (ev_pos rfl this)))))))))
  have := key n 0 (by omega)
  rw [show k + 3 * ((0 : Nat) : Int) = k by omega] at this
  exact this
theorem laws_heldTickS_nil (m : Int) : g_laws_heldTickS ([], m) = some m := by
  refine evG_eq ?_
  show Ev (fun k => laws_heldTickS_L2 k (m, 0, [], ())) m
  refine Ev.step (fun q => by rw [laws_heldTickS_L2]) ?_
  exact ev_neg (by decide) ev_some
/- laws_heldIntS -/
theorem laws_heldIntS_eq (n : Nat) (k : Int) (hn : n ≤ 2000000) (hk : 0 ≤ k ∧ k ≤ 100000000) : g_laws_heldIntS (marks k n, k) = some (k + (n : Int)) := by
  refine evG_eq ?_
  unfold laws_heldIntS_
  have hlen := marks_length k n
  have key : ∀ (d j : Nat), j + d = n → Ev (fun q => laws_heldIntS_L2 q (k + (j : Int), (j : Int), marks k n, ())) (k + (n : Int)) := by
    intro d
    induction d with
    | zero =>
      intro j hj
      have e : j = n := by omega
      subst e
      exact Ev.step (fun w => by rw [laws_heldIntS_L2]) (ev_neg (by omega) ev_some)
    | succ d ih =>
      intro j hj
      have hlt : j < (marks k n).length := by omega
      refine Ev.step (fun w => by rw [laws_heldIntS_L2]) (ev_pos (by omega) (ev_pos (by omega) (ev_pos (by omega) ?_)))
      rw [getD_lt hlt, marks_get' k (by omega), w64_succ (by omega), (w3 (k := k + (j : Int)) (by omega) (by omega)).1]
      have := ih (j + 1) (by omega)
      rw [show k + ((j + 1 : Nat) : Int) = k + (j : Int) + 1 by omega] at this
      exact ev_pos rfl this
  have := key n 0 (by omega)
  rw [show k + ((0 : Nat) : Int) = k by omega] at this
  exact this
theorem laws_heldIntS_nil (m : Int) : g_laws_heldIntS ([], m) = some m := by
  refine evG_eq ?_
  show Ev (fun k => laws_heldIntS_L2 k (m, 0, [], ())) m
  refine Ev.step (fun q => by rw [laws_heldIntS_L2]) ?_
  exact ev_neg (by decide) ev_some
/- laws_heldDevice -/
theorem laws_heldDevice_eq (p : Pump) (a b : Nat) (alarm : Int) (m : Menu) (ref : Int) (h1 : a ≤ 2000000) (h2 : b ≤ 2000000) :
    g_laws_heldDevice (dev p (marks 1 a) alarm m (marksT (1 + (a : Int)) b) ref, 1) = some (1 + (a : Int) + 3 * (b : Int)) := by
  have e1 := laws_heldIntS_eq a 1 h1 (by omega)
  have e2 := laws_heldTickS_eq b (1 + (a : Int)) h2 (by omega)
  have e3 : g_laws_heldGuard ((marks 1 a, alarm), 1) = some (1 + (a : Int)) := by
    unfold g_laws_heldGuard laws_heldGuard_
    simp only [e1, Option.bind_some]
    rw [if_neg (by omega)]
  unfold g_laws_heldDevice laws_heldDevice_ dev
  simp only [e3, e2, Option.bind_some]
  rw [if_neg (by omega), if_neg (by omega)]
/- laws_eqTick -/
theorem laws_eqTick_refl (p : Int × Int × Int) : g_laws_eqTick (p, p) = some true := by
  obtain ⟨a, b, c⟩ := p
  unfold g_laws_eqTick laws_eqTick_
  simp
/- laws_eqTickS -/
theorem laws_eqTickS_refl (l : List Tick) (hl : l.length ≤ 9223372036854775806) : g_laws_eqTickS (l, l) = some true := by
  refine evG_eq ?_
  unfold laws_eqTickS_
  refine ev_pos rfl ?_
  refine list_loop l (fun k (_ : Unit) i => laws_eqTickS_L4 (fun _ => g_laws_eqTick) k (i, l, l, ())) (fun _ _ => true) (fun _ => ?_) (fun i _ x rest hx hi h => ?_) 0 (by omega) ()
  · refine Ev.step (fun q => by rw [laws_eqTickS_L4]) ?_
    exact ev_neg (by omega) ev_some
  · refine Ev.step (fun q => by rw [laws_eqTickS_L4]) ?_
    refine ev_pos (by omega) (ev_pos (by omega) (ev_pos (by omega) (ev_pos (by omega) (ev_pos (by omega) (ev_bind (laws_eqTick_refl _) (ev_pos rfl ?_))))))
    rw [w64_succ (by omega)]
    exact h ()
/- laws_eqMenu -/
theorem laws_eqMenu_refl (m : Menu) : g_laws_eqMenu (m, m) = some true := by
  obtain ⟨a, b, n, d, s⟩ := m
  unfold g_laws_eqMenu laws_eqMenu_
  simp
/- laws_eqIntS -/
theorem laws_eqIntS_refl (l : List Int) (hl : l.length ≤ 9223372036854775806) : g_laws_eqIntS (l, l) = some true := by
  refine evG_eq ?_
  unfold laws_eqIntS_
  refine ev_pos rfl ?_
  refine list_loop l (fun k (_ : Unit) i => laws_eqIntS_L4 k (i, l, l, ())) (fun _ _ => true) (fun _ => ?_) (fun i _ x rest hx hi h => ?_) 0 (by omega) ()
  · refine Ev.step (fun q => by rw [laws_eqIntS_L4]) ?_
    exact ev_neg (by omega) ev_some
  · refine Ev.step (fun q => by rw [laws_eqIntS_L4]) ?_
    refine ev_pos (by omega) (ev_pos (by omega) (ev_pos (by omega) (ev_pos (by omega) (ev_pos (by omega) (ev_pos rfl ?_)))))
    rw [w64_succ (by omega)]
    exact h ()
/- laws_eqGuard -/
theorem laws_eqGuard_refl (l : List Int) (a : Int) (hl : l.length ≤ 9223372036854775806) : g_laws_eqGuard ((l, a), (l, a)) = some true := by
  unfold g_laws_eqGuard laws_eqGuard_
  simp [laws_eqIntS_refl l hl]
/- laws_eqRate -/
theorem laws_eqRate_refl (p : Int × Int × Int) : g_laws_eqRate (p, p) = some true := by
  obtain ⟨a, b, c⟩ := p
  unfold g_laws_eqRate laws_eqRate_
  simp
/- laws_eqPump -/
theorem laws_eqPump_refl (p : Pump) : g_laws_eqPump (p, p) = some true := by
  obtain ⟨s, n, d, r, l, b, g, k⟩ := p
  unfold g_laws_eqPump laws_eqPump_
  simp [laws_eqRate_refl]
/- laws_eqDevice -/
theorem laws_eqDevice_refl (d : Device) (h1 : d.2.2.2.2.2.2.2.2.1.length ≤ 9223372036854775806) (h2 : d.2.2.2.2.2.2.2.2.2.2.2.2.2.2.2.1.length ≤ 9223372036854775806) : g_laws_eqDevice (d, d) = some true := by
  obtain ⟨s, n, e, r, l, b, g, k, past, alarm, a, bo, nu, de, di, ts, ref⟩ := d
  unfold g_laws_eqDevice laws_eqDevice_
  simp only [laws_eqPump_refl, laws_eqGuard_refl past alarm h1, laws_eqMenu_refl, laws_eqTickS_refl ts h2, Option.bind_some, if_true]
/- impl_RoomOf -/
theorem impl_RoomOf_eq (l : List Int) (a : Int) (hl : l.length ≤ 9223372036854775806) : g_impl_RoomOf (l, a) = some (wrap64 (30 - l.sum)) := by
  refine evG_eq ?_
  unfold impl_RoomOf_
  refine Ev.congr (g := fun k => impl_RoomOf_L3 k (wrap64 30, (l.length : Int), ((0 : Nat) : Int), l, ())) (fun k => by rw [w64 (n := 30) (by omega) (by omega)]; rfl) ?_
  refine Ev.cast (list_loop l (fun k s i => impl_RoomOf_L3 k (wrap64 s, (l.length : Int), i, l, ())) (fun r s => wrap64 (s - r.sum)) (fun s => ?_) (fun i s x rest hx hi h => ?_) 0 (by omega) 30) (by simp)
  · refine Ev.step (fun q => by rw [impl_RoomOf_L3]) ?_
    exact ev_neg (by omega) (Ev.cast ev_some (by simp))
  · refine Ev.step (fun q => by rw [impl_RoomOf_L3]) ?_
    refine ev_pos (by omega) (ev_pos (by omega) (ev_pos (by omega) ?_))
    rw [getD_drop hx, w64_succ (by omega), wrap64_sub]
    refine Ev.cast (h (s - x)) ?_
    congr 1
    simp only [List.sum_cons]; omega
/- impl_within -/
theorem impl_within_eq (a b c : Int) : g_impl_within (a, b, c) = some (decide (b ≤ a ∧ a ≤ c)) := by
  show (if b ≤ a then some (decide (a ≤ c)) else some false) = _
  split
  · rename_i h; refine eq_dec ?_; rw [decide_eq_true_iff]; omega
  · rename_i h; exact dec_no (by omega)
/- impl_SenseOk -/
theorem impl_SenseOk_eq (a : Int) : g_impl_SenseOk a = some (senseOk a) := by
  unfold g_impl_SenseOk impl_SenseOk_
  simp only [impl_within_eq, Option.bind_some]; rfl
/- impl_GuardOk -/
theorem impl_GuardOk_eq (l : List Int) (a : Int) (hl : l.length ≤ 9223372036854775806) : g_impl_GuardOk (l, a) = some (guardOk l a) := by
  refine evG_eq ?_
  unfold impl_GuardOk_
  have hend : Ev (fun k => impl_GuardOk_L2 (fun _ => g_impl_RoomOf) (fun _ => g_impl_SenseOk) (fun _ => g_impl_within) k ((l.length : Int), (l.length : Int), l, a, ())) (if pastOk l = true then guardOk l a else decide (l.length ≤ 9) && decide (0 ≤ wrap64 (30 - l.sum)) && senseOk a) := by
    refine Ev.step (fun q => by rw [impl_GuardOk_L2]) ?_
    refine ev_neg (by omega) ?_
    by_cases h9 : (l.length : Int) ≤ 9
    · refine ev_pos h9 (ev_bind (impl_RoomOf_eq l a hl) ?_)
      simp only [impl_SenseOk_eq, Option.bind_some]
      have h9' : l.length ≤ 9 := by omega
      by_cases hp : pastOk l = true
      · have hs := pastOk_sum hp
        rw [w64 (by omega) (by omega), if_pos hp]
        unfold guardOk
        rw [hp]
        by_cases h30 : l.sum ≤ 30
        · refine ev_pos (by omega) (Ev.cast ev_some ?_)
          simp [h9', h30]
        · refine ev_neg (by omega) (Ev.cast ev_some ?_)
          simp [h30]
      · rw [if_neg hp]
        by_cases h30 : 0 ≤ wrap64 (30 - l.sum)
        · refine ev_pos h30 (Ev.cast ev_some ?_)
          simp [h9', h30]
        · refine ev_neg h30 (Ev.cast ev_some ?_)
          simp [h30]
    · refine ev_neg h9 (Ev.cast ev_some ?_)
      have h9' : ¬ l.length ≤ 9 := by omega
      unfold guardOk
      split <;> simp [h9']
  refine Ev.cast (list_loop l (fun k (_ : Unit) i => impl_GuardOk_L2 (fun _ => g_impl_RoomOf) (fun _ => g_impl_SenseOk) (fun _ => g_impl_within) k ((l.length : Int), i, l, a, ())) (fun r _ => pastOk r && (if pastOk l = true then guardOk l a else decide (l.length ≤ 9) && decide (0 ≤ wrap64 (30 - l.sum)) && senseOk a)) (fun _ => Ev.cast hend (by simp [pastOk])) (fun i _ x rest hx hi h => ?_) 0 (by omega) ()) ?_
  · refine Ev.step (fun q => by rw [impl_GuardOk_L2]) ?_
    refine ev_pos (by omega) (ev_pos (by omega) (ev_pos (by omega) ?_))
    rw [getD_drop hx, impl_within_eq, w64_succ (by omega)]
    simp only [Option.bind_some, decide_eq_true_eq]
    by_cases hx2 : 0 ≤ x ∧ x ≤ 30
    · refine ev_pos hx2 (Ev.cast (h ()) ?_)
      rw [pastOk_cons]; simp [hx2]
    · refine ev_neg hx2 (Ev.cast ev_some ?_)
      rw [pastOk_cons]; simp [hx2]
  · simp only [List.drop_zero]
    cases hp : pastOk l with
    | true => simp
    | false => unfold guardOk; rw [hp]; simp
/- impl_copyGuard -/
theorem impl_copyGuard_eq (l : List Int) (a : Int) (hl : l.length ≤ 17592186044416) : g_impl_copyGuard (l, a) = some (l, a) := by
  unfold g_impl_copyGuard impl_copyGuard_ g_impl_copyInts impl_copyInts_
  simp only [List.length_nil, Nat.zero_add, List.nil_append]
  rw [if_pos (by omega)]; rfl
/- impl_Pass -/
theorem impl_Pass_eq (l : List Int) (a n : Int) (hl : l.length ≤ 17592186044416) : g_impl_Pass ((l, a), n) = some (pass l a n, a) := by
  unfold g_impl_Pass impl_Pass_ pass
  simp only [impl_copyGuard_eq l a hl, impl_GuardOk_eq l a (by omega), impl_RoomOf_eq l a (by omega), Option.bind_some, mn_eq, mx_eq, List.singleton_append, List.length_singleton]
  by_cases h : guardOk l a = true
  · have hs := guardOk_sum h
    have h9 := (guardOk_den h).1
    simp only [h, if_true]
    rw [w64 (by omega) (by omega), if_pos (by omega), if_pos (by omega), if_pos (by omega)]
    congr 2
    simp only [List.length_cons]
    by_cases h8 : l.length + 1 ≤ 9
    · rw [List.take_of_length_le (by simp only [List.length_cons]; omega), List.take_of_length_le (by simp only [List.length_cons]; omega)]
    · congr 1; omega
  · simp only [h, if_false, Bool.false_eq_true]
/- impl_RateOk -/
theorem impl_RateOk_eq (n d r : Int) : g_impl_RateOk (n, d, r) = some (rateOk n d r) := by
  unfold g_impl_RateOk impl_RateOk_ rateOk
  simp only [impl_within_eq, Option.bind_some, decide_eq_true_eq]
  by_cases h1 : 0 ≤ n ∧ n ≤ 1000000
  · by_cases h2 : 1 ≤ d ∧ d ≤ 1000000
    · rw [if_pos h1, if_pos h2, w64 (by omega) (by omega)]
      refine eq_dec ?_
      rw [decide_eq_true_iff]; unfold RateOkP; omega
    · rw [if_pos h1, if_neg h2]; exact dec_no (by unfold RateOkP; omega)
  · rw [if_neg h1]; exact dec_no (by unfold RateOkP; omega)
/- impl_StepRate -/
theorem impl_StepRate_eq (n d r : Int) : g_impl_StepRate (n, d, r) = some ((n, d, stepRest n d r), stepGives n d r) := by
  unfold g_impl_StepRate impl_StepRate_ stepRest stepGives
  simp only [impl_RateOk_eq, Option.bind_some]
  by_cases h : rateOk n d r = true
  · have h' := rateOk_den h
    obtain ⟨e1, e2⟩ := step_plain h
    simp only [h, if_true]
    rw [if_neg (by omega), if_neg (by omega), e1, e2]
  · simp only [h, if_false]; rfl
/- impl_PumpOk -/
theorem impl_PumpOk_eq (p : Pump) : g_impl_PumpOk p = some (pumpOk p) := by
  obtain ⟨s, n, d, r, l, b, g, k⟩ := p
  show _ = some (decide (PumpOkP s n d r l b g k))
  unfold g_impl_PumpOk impl_PumpOk_
  simp only [impl_within_eq, impl_RateOk_eq, Option.bind_some, decide_eq_true_eq, rateOk, beq_iff_eq, Bool.true_eq, Bool.false_eq, decide_eq_false_iff_not, decide_eq_decide]
  by_cases h : RateOkP n d r
  · have hw : wrap64 (3 * d) = 3 * d := by unfold RateOkP at h; exact w64 (by omega) (by omega)
    rw [hw]
    have h0 := h
    unfold RateOkP at h
    repeat' refine ite_r (fun _ => ?_) (fun _ => ?_)
    all_goals first
      | exact absurd h0 (by assumption)
      | exact dec_no (by unfold PumpOkP RateOkP; omega)
      | exact dec_yes (by unfold PumpOkP RateOkP; omega)
      | (refine eq_dec ?_; rw [decide_eq_true_iff]; unfold PumpOkP RateOkP; omega)
  · simp only [h, if_false]
    repeat' refine ite_r (fun _ => ?_) (fun _ => ?_)
    all_goals exact dec_no (by unfold PumpOkP; exact fun q => h q.2.1)
/- impl_Wants -/
theorem impl_Wants_eq (p : Pump) : g_impl_Wants p = some (wants p) := by
  obtain ⟨s, n, d, r, l, b, g, k⟩ := p
  unfold g_impl_Wants impl_Wants_
  simp only [impl_PumpOk_eq, impl_StepRate_eq, Option.bind_some, mn_eq]
  by_cases h : pumpOk (s, n, d, r, l, b, g, k) = true
  · obtain ⟨_, a2, a3, _, _, a6, _, a8, _⟩ := pumpOk_den h
    have hg := stepGives_range (decide_eq_true a2) a3
    unfold wants runs
    simp only [h, if_true, Bool.true_and, decide_eq_true_eq]
    repeat' split
    all_goals first
      | (exfalso; omega)
      | rfl
      | (rw [w64 (by omega) (by omega)])
  · unfold wants runs
    simp only [h, if_false, Bool.false_and, Bool.false_eq_true]
/- impl_Give -/
theorem impl_Give_eq (p : Pump) (m : Int) : g_impl_Give (p, m) = some (give p m) := by
  obtain ⟨s, n, d, r, l, b, g, k⟩ := p
  unfold g_impl_Give impl_Give_
  simp only [impl_PumpOk_eq, impl_StepRate_eq, impl_Wants_eq, Option.bind_some, mn_eq, mx_eq]
  have hw := wants_range (s, n, d, r, l, b, g, k)
  by_cases h : pumpOk (s, n, d, r, l, b, g, k) = true
  · obtain ⟨_, a2, a3, _, _, a6, _, a8, a9⟩ := pumpOk_den h
    unfold give runs giveB giveN
    simp only [h, if_true, Bool.true_and, decide_eq_true_eq]
    generalize hW : wants (s, n, d, r, l, b, g, k) = W at hw
    have e1 : min (min (min (max m 0) W) b) 3 = min (min (max m 0) W) (min b 3) := by omega
    rw [e1]
    generalize hN : min (max m 0) W = N
    have hN' : 0 ≤ N ∧ N ≤ 6 := by omega
    generalize hB : min N (min b 3) = B
    have hB' : 0 ≤ B ∧ B ≤ 3 ∧ B ≤ N := by omega
    rw [w64 (n := b - B) (by omega) (by omega), w64 (n := g + N) (by omega) (by omega), w64 (n := N - B) (by omega) (by omega), w64 (n := l - (N - B)) (by omega) (by omega)]
    repeat' split
    all_goals first
      | rfl
      | (exfalso; omega)
      | (rename_i h0; rw [h0.2])
      | (rename_i h0; rw [h0])
      | (rename_i h0 _; rw [h0])
  · unfold give runs
    simp only [h, if_false, Bool.false_and, Bool.false_eq_true]
/- impl_Allow -/
theorem impl_Allow_eq (l : List Int) (a m : Int) (hl : l.length ≤ 9223372036854775806) : g_impl_Allow ((l, a), m) = some (allow l a m) := by
  unfold g_impl_Allow impl_Allow_ allow
  simp only [impl_GuardOk_eq l a hl, impl_RoomOf_eq l a hl, Option.bind_some, mx_eq, mn_eq]
  by_cases h : guardOk l a = true
  · have hs := guardOk_sum h
    by_cases h0 : a = 0
    · simp only [h, h0, if_true, and_self]
      rw [w64 (by omega) (by omega)]
      rw [h0] at h
      simp [h]
    · simp only [h, h0, if_true, if_false, and_false]
  · simp only [h, if_false, false_and, Bool.false_eq_true]
/- impl_Feel -/
theorem impl_Feel_eq (l : List Int) (a s : Int) (b : Bool) (hl : l.length ≤ 17592186044416) : g_impl_Feel ((l, a), (s, b)) = some (l, feel l a s b) := by
  unfold g_impl_Feel impl_Feel_ feel
  simp only [impl_copyGuard_eq l a hl, impl_GuardOk_eq l a (by omega), impl_SenseOk_eq, Option.bind_some]
  cases guardOk l a <;> cases senseOk s <;> cases b <;> simp
/- impl_isSeen -/
theorem impl_isSeen_eq (l : List Order) (hl : l.length ≤ 1048580) : g_impl_isSeen l = some (seenF l) := by
  refine evG_eq ?_
  unfold impl_isSeen_
  have := list_loop l (fun k (z : Unit) i => impl_isSeen_L2 k ((l.length : Int), i, l, z)) (fun r _ => seenF r) (fun z => by
    refine Ev.step (fun q => by rw [impl_isSeen_L2]) ?_
    exact ev_neg (by omega) ev_some) (fun i z x rest hx hi h => by
    refine Ev.step (fun q => by rw [impl_isSeen_L2]) ?_
    refine ev_pos (by omega) (ev_pos (by omega) (ev_pos (by omega) ?_))
    rw [getD_drop hx, w64_succ (by omega)]
    have e : seenF (x :: rest) = (decide (x.1 = 5) || seenF rest) := rfl
    refine ev_dom (fun h5 => ?_) (fun h5 => ?_)
    · rw [e, decide_eq_true h5]
      exact ev_some
    · rw [e, decide_eq_false h5]
      exact h ()) 0 (Nat.zero_le _) ()
  simpa using this
/- impl_OrderOk -/
theorem impl_OrderOk_eq (o : Order) : g_impl_OrderOk o = some (orderOk o) := by
  obtain ⟨a, b, c, x⟩ := o
  show _ = some (decide (OrderOkP a b c x))
  unfold g_impl_OrderOk impl_OrderOk_
  simp only [impl_within_eq, Option.bind_some, decide_eq_true_eq, mn_eq]
  by_cases h : 1 ≤ c ∧ c ≤ 1000
  · have hw : wrap64 (3 * c) = 3 * c := w64 (by omega) (by omega)
    rw [hw]
    repeat' refine ite_r (fun _ => ?_) (fun _ => ?_)
    all_goals first
      | exact dec_no (by unfold OrderOkP; omega)
      | exact dec_yes (by unfold OrderOkP; omega)
      | (exfalso; omega)
      | (exfalso; simp_all; done)
      | (refine eq_dec ?_; simp only [Bool.and_eq_true, decide_eq_true_eq, decide_true, true_and]; unfold OrderOkP; omega)
  · simp only [h, if_false]
    repeat' refine ite_r (fun _ => ?_) (fun _ => ?_)
    all_goals first
      | exact dec_no (by unfold OrderOkP; omega)
      | exact dec_yes (by unfold OrderOkP; omega)
      | (exfalso; omega)
      | (exfalso; simp_all; done)
      | (refine eq_dec ?_; simp only [Bool.and_eq_true, decide_eq_true_eq, decide_true, true_and]; unfold OrderOkP; omega)
/- impl_ReadVar -/
theorem shl7 (c j : Nat) (hj : j < 5) (hc : c ≤ 255) : wr .i64 (Int.tmod (wrap64 (c : Int)) 128 * 2 ^ (min (Int.toNat (wrap64 (7 * (j : Int)))) (IntKind.bits .i64))) = ((c % 128 * 128 ^ j : Nat) : Int) := by
  have e1 : wrap64 (7 * (j : Int)) = ((7 * j : Nat) : Int) := by
    rw [w64 (by omega) (by omega)]; omega
  have e2 : Int.tmod (wrap64 (c : Int)) 128 = ((c % 128 : Nat) : Int) := by
    rw [w64 (by omega) (by omega), Int.tmod_eq_emod_of_nonneg (by omega)]; omega
  have e3 : min (7 * j) (IntKind.bits .i64) = 7 * j := by
    have : IntKind.bits .i64 = 64 := rfl
    rw [this]; omega
  rw [e1, e2, Int.toNat_natCast, e3]
  have e4 : (2 : Int) ^ (7 * j) = ((128 ^ j : Nat) : Int) := by
    rw [Int.pow_mul, Int.natCast_pow]; rfl
  rw [e4, ← Int.natCast_mul]
  have h1 : c % 128 * 128 ^ j ≤ 127 * 128 ^ 4 := Nat.mul_le_mul (by omega) (Nat.pow_le_pow_right (by omega) (by omega))
  show wrap64 _ = _
  exact w64 (by omega) (by omega)
theorem readV_step (j n m : Nat) (hm : m ≤ 127) (h : n < 128 ^ j) : n + m * 128 ^ j < 128 ^ (j + 1) := by
  have := Nat.mul_le_mul_right (128 ^ j) hm
  rw [Nat.pow_succ]
  omega
theorem readV_le (j : Nat) (hj : j ≤ 5) : 128 ^ j ≤ 34359738368 := by
  have h := Nat.pow_le_pow_right (n := 128) (by omega) hj
  exact Nat.le_trans h (by decide)
theorem impl_ReadVar_eq (s : ByteArray) (i : Int) (hs : s.size ≤ 1048580) : g_impl_ReadVar (s, i) = some (readV s i) := by
  refine evG_eq ?_
  unfold impl_ReadVar_ readV
  refine ev_bind (impl_within_eq _ _ _) ?_
  by_cases h : 0 ≤ i ∧ i ≤ (s.size : Int)
  case neg =>
    rw [if_neg h]
    exact ev_neg (by simpa using h) ev_some
  rw [if_pos h]
  refine ev_pos (by simp [h]) ?_
  obtain ⟨a, rfl⟩ := Int.eq_ofNat_of_zero_le h.1
  have ha : a ≤ s.size := by omega
  rw [Int.toNat_natCast]
  have key : ∀ (f j n : Nat), j + f = 5 → n < 128 ^ j → Ev (fun k => impl_ReadVar_L5 (fun _ => g_impl_within) k (s, (a : Int), (n : Int), (j : Int), ())) (rdv s a f j n) := by
    intro f
    induction f with
    | zero =>
      intro j n hj hn
      refine Ev.step (fun q => by rw [impl_ReadVar_L5]) ?_
      exact ev_neg (by omega) ev_some
    | succ f ih =>
      intro j n hj hn
      have hc := byN_le s (a + j)
      have hst := readV_step j n (byN s (a + j) % 128) (by omega) hn
      have hB := Nat.lt_of_lt_of_le hst (readV_le (j + 1) (by omega))
      have esh := shl7 (byN s (a + j)) j (by omega) hc
      have hih := ih (j + 1) _ (by omega) hst
      unfold rdv
      clear hst ih hn
      generalize byN s (a + j) % 128 * 128 ^ j = M at *
      refine Ev.step (fun q => by rw [impl_ReadVar_L5]) ?_
      have eaj : wrap64 ((a : Int) + (j : Int)) = ((a + j : Nat) : Int) := by
        rw [w64 (by omega) (by omega)]; omega
      rw [eaj, byt_byN, esh]
      clear esh
      generalize hcc : byN s (a + j) = c at *
      clear hcc
      have ec : wrap64 (c : Int) = (c : Int) := w64 (by omega) (by omega)
      have en : wrap64 ((n : Int) + (M : Int)) = ((n + M : Nat) : Int) := by
        rw [w64 (by omega) (by omega)]; omega
      have e7 : wrap64 (7 * (j : Int)) = 7 * (j : Int) := w64 (by omega) (by omega)
      have e1 : wrap64 (((a + j : Nat) : Int) + 1) = ((a + j + 1 : Nat) : Int) := w64_succ (by omega)
      have e2 : wrap64 ((j : Int) + 1) = ((j + 1 : Nat) : Int) := w64_succ (by omega)
      rw [en, ec, e7, e1, e2]
      generalize n + M = N at *
      refine ev_pos (by omega) ?_
      by_cases hlt : a + j < s.size
      case neg =>
        rw [if_neg hlt]
        exact ev_neg (by omega) ev_some
      rw [if_pos hlt]
      refine ev_pos (by omega) ?_
      refine ev_pos (by omega) ?_
      refine ev_pos (by omega) ?_
      refine ev_neg (by omega) ?_
      refine ev_pos (by omega) ?_
      by_cases h127 : 127 < c
      · rw [if_pos h127]
        exact ev_pos (by omega) hih
      · rw [if_neg h127]
        clear hih
        refine ev_neg (by omega) ?_
        by_cases hj0 : 0 < j
        · refine ev_pos (by omega) ?_
          by_cases h0 : c = 0
          · have hyes : (0 < j ∧ c = 0) ∨ 1000000000 < N := .inl ⟨hj0, h0⟩
            rw [if_pos hyes]
            exact ev_pos (by omega) ev_some
          · refine ev_neg (by omega) ?_
            by_cases hb : 1000000000 < N
            · have hyes : (0 < j ∧ c = 0) ∨ 1000000000 < N := .inr hb
              rw [if_pos hyes]
              exact ev_pos (Int.ofNat_lt.2 hb) ev_some
            · have hng : ¬ ((0 < j ∧ c = 0) ∨ 1000000000 < N) := by
                rintro (⟨_, q⟩ | q)
                · exact h0 q
                · exact hb q
              rw [if_neg hng]
              exact ev_neg (fun q => hb (Int.ofNat_lt.1 q)) ev_some
        · refine ev_neg (by omega) ?_
          by_cases hb : 1000000000 < N
          · have hyes : (0 < j ∧ c = 0) ∨ 1000000000 < N := .inr hb
            rw [if_pos hyes]
            exact ev_pos (Int.ofNat_lt.2 hb) ev_some
          · have hng : ¬ ((0 < j ∧ c = 0) ∨ 1000000000 < N) := by
              rintro (⟨q, _⟩ | q)
              · exact hj0 q
              · exact hb q
            rw [if_neg hng]
            exact ev_neg (fun q => hb (Int.ofNat_lt.1 q)) ev_some
  exact key 5 0 0 rfl (by decide)
/- impl_reader__number -/
theorem impl_reader__number_eq (s : ByteArray) (i : Int) (b : Bool) (hs : s.size ≤ 1048580) : g_impl_reader__number (s, i, b) = some (numberF (s, i, b)) := by
  unfold g_impl_reader__number impl_reader__number_ numberF
  simp only [impl_ReadVar_eq s i hs, Option.bind_some]
  split
  · rfl
  · split <;> rfl
/- impl_highFirst -/
theorem impl_highFirst_eq (v : Int) (hv : 0 ≤ v) : g_impl_highFirst (v, 4) = some (four v) := by
  refine evG_eq ?_
  unfold impl_highFirst_
  have e3 : ∀ w : Int, Int.fdiv w (2 ^ (min (Int.toNat 8) (IntKind.bits .i64))) = w / 256 := by
    intro w
    have : min (Int.toNat 8) (IntKind.bits .i64) = 8 := by decide
    rw [this, Int.fdiv_eq_ediv_of_nonneg _ (by decide)]
    rfl
  refine ev_pos rfl (ev_pos (by decide) (ev_pos (by decide) ?_))
  have w3 : wrap64 (4 - 1) = 3 := by decide
  have w2 : wrap64 (3 - 1) = 2 := by decide
  have w1 : wrap64 (2 - 1) = 1 := by decide
  have w0 : wrap64 (1 - 1) = 0 := by decide
  have wm : wrap64 (0 - 1) = -1 := by decide
  have r4 : List.replicate (Int.toNat 4) (0 : Int) = [0, 0, 0, 0] := rfl
  rw [w3, r4]
  refine Ev.step (fun q => by rw [impl_highFirst_L3]) ?_
  refine ev_pos (by decide) (ev_pos (by decide) (ev_pos (by decide) (ev_pos (by decide) ?_)))
  rw [w2, e3]
  refine Ev.step (fun q => by rw [impl_highFirst_L3]) ?_
  refine ev_pos (by decide) (ev_pos (by decide) (ev_pos (by simp) (ev_pos (by decide) ?_)))
  rw [w1, e3]
  refine Ev.step (fun q => by rw [impl_highFirst_L3]) ?_
  refine ev_pos (by decide) (ev_pos (by decide) (ev_pos (by simp) (ev_pos (by decide) ?_)))
  rw [w0, e3]
  refine Ev.step (fun q => by rw [impl_highFirst_L3]) ?_
  refine ev_pos (by decide) (ev_pos (by decide) (ev_pos (by simp) (ev_pos (by decide) ?_)))
  rw [wm, e3]
  refine Ev.step (fun q => by rw [impl_highFirst_L3]) ?_
  refine ev_neg (by decide) (ev_eq ?_)
  have q0 := and255_eq hv
  have q1 := and255_eq (x := v / 256) (by omega)
  have q2 := and255_eq (x := v / 256 / 256) (by omega)
  have q3 := and255_eq (x := v / 256 / 256 / 256) (by omega)
  rw [q0, q1, q2, q3]
  unfold four
  have m : ∀ w : Int, wr .u8 (w % 256) = wr .u8 w := fun w => by rw [wr8, wr8]; omega
  simp only [m]
  have d2 : v / 65536 = v / 256 / 256 := by omega
  have d3 : v / 16777216 = v / 256 / 256 / 256 := by omega
  rw [d2, d3]
  rfl
/- impl_SumMore -/
theorem impl_SumMore_eq (s : ByteArray) (b : Int) (hs : s.size ≤ 1048580) : g_impl_SumMore (b, s) = some (sumF (bl s) b) := by
  have inner : ∀ (d j : Nat), j + d = 8 → ∀ (b i r : Int), Ev (fun k => impl_SumMore_L2 k (rnds d b, s, wrap64 (i + 1), ())) r → Ev (fun k => impl_SumMore_L6 k (b, s, i, (j : Int), ())) r := by
    intro d
    induction d with
    | zero =>
      intro j hj b i r h
      refine Ev.step (fun q => by rw [impl_SumMore_L6]) ?_
      exact ev_neg (by omega) h
    | succ d ih =>
      intro j hj b i r h
      refine Ev.step (fun q => by rw [impl_SumMore_L6]) ?_
      refine ev_pos (by omega) (ev_neg (by omega) (ev_neg (by omega) (ev_dom (fun hc => ?_) (fun hc => ?_))))
      · rw [w64_succ (by omega)]
        refine ih (j + 1) (by omega) _ i r ?_
        have e : rnds (d + 1) b = rnds d (ixor .u32 (wr .u32 (Int.tdiv b 2)) 3558460437) := by
          show rnds d (rnd b) = _
          unfold rnd; rw [if_pos hc]
        rw [← e]; exact h
      · rw [w64_succ (by omega)]
        refine ih (j + 1) (by omega) _ i r ?_
        have e : rnds (d + 1) b = rnds d (wr .u32 (Int.tdiv b 2)) := by
          show rnds d (rnd b) = _
          unfold rnd; rw [if_neg hc]
        rw [← e]; exact h
  refine evG_eq ?_
  unfold impl_SumMore_
  refine bytes_loop s (fun k z i => impl_SumMore_L2 k (z, s, i, ())) sumF (fun z => ?_) (fun i z x rest hx hi h => ?_) b
  · refine Ev.step (fun q => by rw [impl_SumMore_L2]) ?_
    exact ev_neg (by omega) ev_some
  · refine Ev.step (fun q => by rw [impl_SumMore_L2]) ?_
    refine ev_pos (by omega) (ev_pos (by omega) (ev_pos (by omega) ?_))
    rw [byt_drop hx]
    refine inner 8 0 rfl _ _ _ ?_
    rw [w64_succ (by omega)]
    exact h _
/- impl_SumOf -/
theorem impl_SumOf_eq (s : ByteArray) (hs : s.size ≤ 1048580) : g_impl_SumOf s = some (sumOf s) := by
  unfold g_impl_SumOf impl_SumOf_
  simp only [impl_SumMore_eq s _ hs, Option.bind_some]
  rfl
/- impl_Sealed -/
theorem u32_w64 (v : Int) (hu : U32 v) : wrap64 v = v := by
  unfold U32 at hu
  exact w64 (by omega) (by omega)
theorem impl_highFirst_u32 (v : Int) (hu : U32 v) : g_impl_highFirst (v, 4) = some (four v) := impl_highFirst_eq v hu.1
theorem size_four (s : ByteArray) (v : Int) (hs : s.size ≤ 1048580) : ((s.size + (four v).size : Nat) : Int) ≤ 9223372036854775807 := by
  rw [four_size]
  omega
theorem impl_Sealed_four (s : ByteArray) (v : Int) (hu : U32 v) (c2 : (((s.size + (four v).size : Nat) : Int) ≤ 9223372036854775807)) : ((g_impl_highFirst (wrap64 v, 4)).bind fun v1 => if ((s.size + v1.size : Nat) : Int) ≤ 9223372036854775807 then some (s ++ v1, true) else none) = some (s ++ four v, true) := by
  rw [u32_w64 v hu, impl_highFirst_u32 v hu, Option.bind_some, if_pos c2]
theorem impl_Sealed_eq (s : ByteArray) (hs : s.size ≤ 1048580) : g_impl_Sealed s = some (sealT s) := by
  have c2 := size_four s (sumOf s) hs
  show (if 20000 < ((ByteArray.size s : Nat) : Int) then some ((⟨#[]⟩ : ByteArray), false) else (g_impl_SumOf s).bind fun v0 => (g_impl_highFirst ((wrap64 v0), 4)).bind fun v1 => if ((ByteArray.size s + ByteArray.size v1 : Nat) : Int) ≤ 9223372036854775807 then some ((s ++ v1), true) else none) = _
  rw [impl_SumOf_eq s hs, Option.bind_some, impl_Sealed_four s (sumOf s) (u32_sumOf s) c2]
  clear c2
  unfold sealT
  by_cases h : 20000 < s.size
  · have c : (20000 : Int) < ((s.size : Nat) : Int) := by omega
    rw [if_pos c, if_pos h]
  · have c : ¬ (20000 : Int) < ((s.size : Nat) : Int) := by omega
    rw [if_neg c, if_neg h]
/- impl_Unsealed -/
theorem impl_Unsealed_eq (t : ByteArray) (hs : t.size ≤ 1048580) : g_impl_Unsealed t = some (unsealT t) := by
  unfold g_impl_Unsealed impl_Unsealed_ unsealT
  have hw : wrap64 (((t.size : Nat) : Int) - 4) = ((t.size : Nat) : Int) - 4 := w64 (by omega) (by omega)
  simp only [hw]
  by_cases h : t.size < 4
  · have c : ((t.size : Nat) : Int) - 4 < 0 := by omega
    rw [if_pos c, if_pos h]
  · have c : ¬ ((t.size : Nat) : Int) - 4 < 0 := by omega
    have c1 : 0 ≤ ((t.size : Nat) : Int) - 4 := by omega
    have c2 : ((t.size : Nat) : Int) - 4 ≤ ((t.size : Nat) : Int) := by omega
    have e : ByteArray.extract t (Int.toNat 0) (Int.toNat (((t.size : Nat) : Int) - 4)) = front t := by
      have : (Int.toNat (((t.size : Nat) : Int) - 4)) = t.size - 4 := by omega
      rw [this]; rfl
    have hf := front_size t
    have hq := impl_Sealed_eq (front t) (by omega)
    rw [if_neg c, if_neg h]
    simp only [c1, c2, if_true, e, hq, Option.bind_some]
    unfold sealT
    by_cases h2 : 20000 < (front t).size
    · have h3 : ¬ ((front t).size ≤ 20000 ∧ front t ++ four (sumOf (front t)) = t) := by omega
      rw [if_pos h2, if_neg h3]
      simp
    · rw [if_neg h2]
      by_cases h3 : front t ++ four (sumOf (front t)) = t
      · have h4 : (front t).size ≤ 20000 ∧ front t ++ four (sumOf (front t)) = t := ⟨by omega, h3⟩
        rw [if_pos h4]
        simp [h3]
      · have h4 : ¬ ((front t).size ≤ 20000 ∧ front t ++ four (sumOf (front t)) = t) := fun q => h3 q.2
        rw [if_neg h4]
        simp [h3]
/- impl_ReadOrder -/
theorem w64_byt (s : ByteArray) : wrap64 (byt s 0) = byt s 0 := by
  have e2 : byt s 0 = (byN s 0 : Int) := byt_byN s 0
  have hc := byN_le s 0
  rw [e2]
  exact w64 (by omega) (by omega)
theorem impl_ReadOrder_eq (t : ByteArray) (hs : t.size ≤ 1048580) : g_impl_ReadOrder t = some (readO t) := by
  unfold g_impl_ReadOrder impl_ReadOrder_ readO
  simp only [impl_Unsealed_eq t hs, Option.bind_some]
  by_cases hu : (unsealT t).2 = true
  case neg =>
    rw [if_neg hu, if_neg (fun q => hu q.1)]
  have hz := (unsealT_ok hu).1
  rw [if_pos hu]
  generalize (unsealT t).1 = s at hz
  by_cases h0 : 0 < s.size
  case neg =>
    have he : s = ⟨#[]⟩ := (eq_empty s).2 (by omega)
    rw [if_pos he, if_neg (fun q => h0 q.2)]
  have he : ¬ s = ⟨#[]⟩ := fun q => by rw [(eq_empty s).1 q] at h0; omega
  have c0 : (0 : Int) < ((s.size : Nat) : Int) := by omega
  rw [if_neg he, if_pos (Nat.le_refl 0), if_pos c0, if_pos ⟨hu, h0⟩]
  have k1 := numberF_keep (s, 1, false)
  have k2 := numberF_keep (numberF (s, 1, false)).2
  have e1 := impl_reader__number_eq s 1 false (by omega)
  have e2 : g_impl_reader__number (numberF (s, 1, false)).2 = some (numberF (numberF (s, 1, false)).2) := by
    have h : (numberF (s, 1, false)).2.1.size ≤ 1048580 := by rw [k1]; show s.size ≤ _; omega
    exact impl_reader__number_eq _ _ _ h
  have e3 : g_impl_reader__number (numberF (numberF (s, 1, false)).2).2 = some (numberF (numberF (numberF (s, 1, false)).2).2) := by
    have h : (numberF (numberF (s, 1, false)).2).2.1.size ≤ 1048580 := by rw [k2, k1]; show s.size ≤ _; omega
    exact impl_reader__number_eq _ _ _ h
  simp only [e1, e2, e3, Option.bind_some, w64_byt, impl_OrderOk_eq]
  by_cases hb : (numberF (numberF (numberF (s, 1, false)).2).2).2.2.2 = true
  · rw [if_pos hb, if_pos hb]
  · rw [if_neg hb, if_neg hb]
    by_cases ha : (numberF (numberF (numberF (s, 1, false)).2).2).2.2.1 = ((s.size : Nat) : Int)
    · rw [if_pos ha]
      split
      · rename_i hk; rw [if_pos ⟨ha, hk⟩]
      · rename_i hk; rw [if_neg (fun q => hk q.2)]
    · rw [if_neg ha, if_neg (fun q => ha q.1)]
/- impl_Take -/
theorem impl_Take_eq (p : Pump) (o : Order) : g_impl_Take (p, o) = some (take p o) := by
  obtain ⟨s, n, d, r, l, b, g, k⟩ := p
  obtain ⟨a, c, e, x⟩ := o
  unfold g_impl_Take impl_Take_ take takeR
  simp only [impl_PumpOk_eq, impl_OrderOk_eq, Option.bind_some]
  by_cases h : pumpOk (s, n, d, r, l, b, g, k) = true
  · by_cases h' : orderOk (a, c, e, x) = true
    · obtain ⟨h1, _, _, _, _, _, _, h8, _⟩ := pumpOk_den h
      simp only [h, h', if_true, and_self]
      repeat' split
      all_goals first
        | rfl
        | (exfalso; omega)
        | (simp_all; done)
        | (simp_all; omega)
    · simp only [h, h', if_true, if_false, and_false, Bool.false_eq_true]
  · simp only [h, if_false, false_and, Bool.false_eq_true]
/- impl_Device__order -/
theorem impl_Device__order_eq (p : Pump) (past : List Int) (alarm : Int) (m : Menu) (ts : List Tick) (ref : Int) (o : Order) :
    g_impl_Device__order (dev p past alarm m ts ref, o) = some ((takeO p o).2, ((takeO p o).1.1, (takeO p o).1.2.1, (takeO p o).1.2.2.1, (takeO p o).1.2.2.2.1, (takeO p o).1.2.2.2.2.1, (takeO p o).1.2.2.2.2.2.1, (takeO p o).1.2.2.2.2.2.2.1, (takeO p o).1.2.2.2.2.2.2.2, (), alarm, m.1, m.2.1, m.2.2.1, m.2.2.2.1, m.2.2.2.2, (), ref)) := by
  obtain ⟨a, b, c, x⟩ := o
  unfold g_impl_Device__order impl_Device__order_ dev takeO
  simp only []
  by_cases h : a = 5
  · rw [if_pos h, if_pos h]
  · rw [if_neg h, if_neg h]
    have e := impl_Take_eq p (a, b, c, x)
    show (g_impl_Take (p, (a, b, c, x))).bind _ = _
    rw [e]
    rfl
/- impl_MenuNew -/
theorem impl_MenuNew_eq : g_impl_MenuNew () = some menuNew := rfl
/- impl_typed -/
theorem impl_typed_eq (s : ByteArray) (hs : s.size ≤ 1048580) : g_impl_typed s = some (num s) := by
  refine evG_eq ?_
  unfold impl_typed_ num
  refine bytes_loop s (fun k z i => impl_typed_L3 k (s, z, (s.size : Int), i, ())) numF (fun z => ?_) (fun i z x rest hx hi h => ?_) 0
  · refine Ev.step (fun q => by rw [impl_typed_L3]) ?_
    exact ev_neg (by omega) ev_some
  · refine Ev.step (fun q => by rw [impl_typed_L3]) ?_
    refine ev_pos (by omega) (ev_pos (by omega) (ev_pos (by omega) ?_))
    have e : wrap64 (wr .u8 ((x.toNat : Int) - 48)) = ((x.toNat : Int) - 48) % 256 := by rw [wr8]; exact w64 (by omega) (by omega)
    rw [byt_drop hx, w64_succ (by omega), e]
    exact h _
/- impl_Menu__enter -/
theorem impl_Menu__enter_eq (a : Int) (b : Bool) (n d : Int) (s : ByteArray) (hs : s.size ≤ 1048580) : g_impl_Menu__enter (a, b, n, d, s) = some (if a = 2 then ((3, b, num s, d, ⟨#[]⟩), (0, 0, 0, 0), false)
        else if a = 3 then ((4, b, n, num s, ⟨#[]⟩), (0, 0, 0, 0), false)
        else if b = true then sent 2 0 0 (num s)
        else sent 1 n d (num s)) := by
  unfold g_impl_Menu__enter impl_Menu__enter_ sent
  simp only [impl_typed_eq s hs, impl_OrderOk_eq, impl_MenuNew_eq, Option.bind_some]
  repeat' split
  all_goals rfl
/- impl_MenuOk -/
theorem impl_MenuOk_eq (a : Int) (b : Bool) (n d : Int) (s : ByteArray) (hs : s.size ≤ 1048580) : g_impl_MenuOk (a, b, n, d, s) = some (menuOk (a, b, n, d, s)) := by
  refine evG_eq ?_
  unfold impl_MenuOk_
  refine Ev.cast (bytes_loop s (fun k (_ : Unit) i => impl_MenuOk_L2 (fun _ => g_impl_MenuNew) (fun _ => g_impl_within) k ((s.size : Int), i, a, b, n, d, s, ())) (fun r _ => digitsOk r && (if a = 1 then decide (s.size = 0 ∧ b = false ∧ n = 0 ∧ d = 0) else decide ((2 ≤ a ∧ a ≤ 4) ∧ (0 ≤ n ∧ n ≤ 9999) ∧ (0 ≤ d ∧ d ≤ 9999) ∧ s.size ≤ 4))) (fun _ => ?_) (fun i _ x rest hx hi h => ?_) ()) ?_
  · refine Ev.step (fun q => by rw [impl_MenuOk_L2]) ?_
    refine ev_neg (by omega) ?_
    by_cases h1 : a = 1
    · refine ev_pos h1 (ev_bind impl_MenuNew_eq (Ev.cast ev_some ?_))
      rw [if_pos h1]
      show (decide (a = 1) && ((b == false) && (decide (n = 0) && (decide (d = 0) && decide (s = ⟨#[]⟩))))) = (digitsOk [] && decide (s.size = 0 ∧ b = false ∧ n = 0 ∧ d = 0))
      rw [Bool.eq_iff_iff]
      simp only [Bool.and_eq_true, decide_eq_true_iff, beq_iff_eq, eq_empty]
      constructor
      · rintro ⟨_, h2, h3, h4, h5⟩; exact ⟨rfl, h5, h2, h3, h4⟩
      · rintro ⟨_, h5, h2, h3, h4⟩; exact ⟨h1, h2, h3, h4, h5⟩
    · refine ev_neg h1 ?_
      simp only [impl_within_eq, Option.bind_some, decide_eq_true_eq, if_neg h1]
      refine ev_eq ?_
      show _ = some (digitsOk [] && _)
      rw [show digitsOk [] = true from rfl, Bool.true_and]
      repeat' refine ite_r (fun _ => ?_) (fun _ => ?_)
      all_goals first
        | exact dec_no (by omega)
        | (refine eq_dec ?_; rw [decide_eq_true_iff]; omega)
  · refine Ev.step (fun q => by rw [impl_MenuOk_L2]) ?_
    refine ev_pos (by omega) (ev_pos (by omega) (ev_pos (by omega) ?_))
    have := u8_range x
    rw [byt_drop hx, w64_succ (by omega), w64 (by omega) (by omega)]
    refine ev_bind (impl_within_eq _ _ _) ?_
    by_cases h1 : 48 ≤ (x.toNat : Int) ∧ (x.toNat : Int) ≤ 57
    · refine ev_pos (decide_eq_true h1) (Ev.cast (h ()) ?_)
      rw [digitsOk_cons, decide_eq_true h1, Bool.true_and]
    · refine ev_neg (by simpa using h1) (Ev.cast ev_some ?_)
      rw [digitsOk_cons, decide_eq_false h1]; rfl
  · show _ = decide (MenuOkP a b n d s)
    rw [Bool.eq_iff_iff]
    refine Iff.trans ?_ decide_eq_true_iff.symm
    rw [Bool.and_eq_true]
    unfold MenuOkP
    by_cases h1 : a = 1
    · rw [if_pos h1, decide_eq_true_iff]
      constructor
      · rintro ⟨h2, h3, h4, h5, h6⟩; exact ⟨h2, by omega, by omega, by omega, by omega, fun _ => ⟨h3, h4, h5, h6⟩⟩
      · rintro ⟨h2, _, _, _, _, h3⟩; exact ⟨h2, h3 h1⟩
    · rw [if_neg h1, decide_eq_true_iff]
      constructor
      · rintro ⟨h2, h3, h4, h5, h6⟩; exact ⟨h2, by omega, h4, h5, h6, fun q => absurd q h1⟩
      · rintro ⟨h2, h3, h4, h5, h6, _⟩; exact ⟨h2, by omega, h4, h5, h6⟩
/- impl_Press -/
theorem impl_Press_eq (a : Int) (b : Bool) (n d : Int) (s : ByteArray) (c : Int) (hs : s.size ≤ 1048580) : g_impl_Press ((a, b, n, d, s), c) = some (press (a, b, n, d, s) c) := by
  unfold g_impl_Press impl_Press_ press
  simp only [impl_MenuOk_eq a b n d s hs, impl_Menu__enter_eq a b n d s hs, impl_MenuNew_eq, impl_within_eq, Option.bind_some, decide_eq_true_eq, wr8, size_bstr]
  refine ite_r (fun h => ?_) (fun h => ?_)
  · rw [if_pos h]
    refine ite_r (fun h1 => ?_) (fun h1 => ?_)
    · rw [if_pos h1]
      unfold g_impl_Menu__top impl_Menu__top_
      simp only []
      repeat' split
      all_goals rfl
    · rw [if_neg h1]
      refine ite_r (fun h2 => by rw [if_pos h2]) (fun h2 => ?_)
      rw [if_neg h2]
      refine ite_r (fun h3 => by rw [if_pos h3]) (fun h3 => ?_)
      rw [if_neg h3]
      refine ite_r (fun h4 => ?_) (fun h4 => ?_)
      · refine ite_r (fun h5 => ?_) (fun h5 => ?_)
        · rw [if_pos (show ((s.size + List.length [c % 256] : Nat) : Int) ≤ 9223372036854775807 by simp only [List.length_singleton]; omega), if_pos (show (48 ≤ c ∧ c ≤ 57) ∧ s.size < 4 from ⟨h4, by omega⟩)]
        · rw [if_neg (show ¬ ((48 ≤ c ∧ c ≤ 57) ∧ s.size < 4) from fun q => h5 (by omega))]
      · rw [if_neg (show ¬ ((48 ≤ c ∧ c ≤ 57) ∧ s.size < 4) from fun q => h4 q.1)]
  · rw [if_neg h]
/- impl_PressAll -/
theorem impl_PressAll_eq (m : Menu) (s : ByteArray) (hm : m.2.2.2.2.size ≤ 1048580) (hs : s.size ≤ 1048580) : g_impl_PressAll (m, s) = some (pressAll m s) := by
  refine evG_eq ?_
  have key : ∀ (z8 : Int) (z9 : Bool) (z10 z11 : Int) (z12 : ByteArray) (i : Nat), i ≤ (bl s).length → ∀ q : Menu × List Order, q.1.2.2.2.2.size ≤ 1048580 → q.2.length ≤ i →
      Ev (fun k => impl_PressAll_L3 (fun _ => g_impl_Press) k (s, (s.size : Int), (i : Int), q.1.1, q.1.2.1, q.1.2.2.1, q.1.2.2.2.1, q.1.2.2.2.2, z8, z9, z10, z11, z12, q.2, ())) (pressL ((bl s).drop i) q.1 q.2) := by
    intro z8 z9 z10 z11 z12 i hi
    obtain ⟨d, hd⟩ : ∃ d, d = (bl s).length - i := ⟨_, rfl⟩
    have hbl := bl_len s
    induction d generalizing i with
    | zero =>
      intro q _ _
      have e : i = (bl s).length := by omega
      rw [List.drop_of_length_le (by omega)]
      refine Ev.step (fun w => by rw [impl_PressAll_L3]) ?_
      exact ev_neg (by omega) ev_some
    | succ d ih =>
      intro q h1 h2
      have hlt : i < (bl s).length := by omega
      have hc : (bl s).drop i = (bl s)[i] :: (bl s).drop (i + 1) := List.drop_eq_getElem_cons hlt
      have hx := u8_range ((bl s)[i])
      rw [hc]
      refine Ev.step (fun q => by rw [impl_PressAll_L3]) ?_
      refine ev_pos (by omega) (ev_pos (by omega) (ev_pos (by omega) ?_))
      rw [byt_drop hc, w64 (n := (((bl s)[i]).toNat : Int)) (by omega) (by omega), w64_succ (by omega)]
      refine ev_bind (impl_Press_eq _ _ _ _ _ _ h1) ?_
      have hp := press_digits q.1 (((bl s)[i]).toNat : Int) h1
      unfold pressL
      refine ev_dom (fun h => ?_) (fun h => ?_)
      · rw [if_pos h]
        refine ev_pos (by simp only [List.length_singleton]; omega) ?_
        exact ih (i + 1) (by omega) (by omega) ((press q.1 (((bl s)[i]).toNat : Int)).1, q.2 ++ [(press q.1 (((bl s)[i]).toNat : Int)).2.1]) hp (by simp only [List.length_append, List.length_singleton]; omega)
      · rw [if_neg h]
        exact ih (i + 1) (by omega) (by omega) ((press q.1 (((bl s)[i]).toNat : Int)).1, q.2) hp (by show q.2.length ≤ i + 1; omega)
  obtain ⟨a, b, n, d, t⟩ := m
  exact key 0 false 0 0 ⟨#[]⟩ 0 (by omega) ((a, b, n, d, t), []) hm (Nat.le_refl _)
/- impl_ordersOf -/
theorem impl_ordersOf_eq (m : Menu) (i : In) (hm : m.2.2.2.2.size ≤ 1048580) (h1 : i.2.1.size ≤ 1048580) (h2 : i.2.2.size ≤ 1048580) : g_impl_ordersOf (m, i) = some (ordersOf m i) := by
  obtain ⟨a, s, t⟩ := i
  have e1 := impl_PressAll_eq m s hm h1
  have e2 := impl_ReadOrder_eq t h2
  have hl := pressAll_len m s
  have h1 : s.size ≤ 1048580 := h1
  show (g_impl_PressAll (m, s)).bind (fun v0 => (g_impl_ReadOrder t).bind fun v1 => if v1.2 = true then if (((List.length v0.2 + List.length [v1.1] : Nat) : Int) * ((32 : Nat) : Int)) ≤ 140737488355328 then some (v0.1, (v0.2 ++ [v1.1])) else none else some v0) = _
  simp only [e1, e2, Option.bind_some]
  unfold ordersOf
  simp only []
  by_cases h : (readO t).2 = true
  · have c : (((List.length (pressAll m s).2 + List.length [(readO t).1] : Nat) : Int) * ((32 : Nat) : Int)) ≤ 140737488355328 := by
      simp only [List.length_singleton]; omega
    rw [if_pos h, if_pos h, if_pos c]
  · rw [if_neg h, if_neg h]
/- impl_InOk -/
theorem impl_InOk_eq (i : In) : g_impl_InOk i = some (inOk i) := by
  obtain ⟨a, s, t⟩ := i
  unfold g_impl_InOk impl_InOk_ inOk
  simp only [impl_SenseOk_eq, Option.bind_some]
  cases senseOk a with
  | false => simp
  | true =>
    by_cases h : s.size ≤ 20
    · have c : ((s.size : Nat) : Int) ≤ 20 := by omega
      rw [if_pos rfl, if_pos c, decide_eq_true h]
      congr 1
      simp only [Bool.true_and]
      congr 1
      rw [eq_iff_iff]
      omega
    · have c : ¬ ((s.size : Nat) : Int) ≤ 20 := by omega
      rw [if_pos rfl, if_neg c, decide_eq_false h]
      rfl
/- impl_DeviceOk -/
theorem impl_DeviceOk_eq (p : Pump) (past : List Int) (alarm : Int) (m : Menu) (ts : List Tick) (ref : Int) (h1 : past.length ≤ 9223372036854775806) (h2 : m.2.2.2.2.size ≤ 1048580) : g_impl_DeviceOk (dev p past alarm m ts ref) = some (deviceOk p past alarm m ts ref) := by
  obtain ⟨s, n, e, r, l, b, g, k⟩ := p
  obtain ⟨a, bo, nu, de, di⟩ := m
  unfold g_impl_DeviceOk impl_DeviceOk_ dev deviceOk g_impl_isNumber impl_isNumber_
  simp only [impl_PumpOk_eq, impl_GuardOk_eq past alarm h1, impl_MenuOk_eq a bo nu de di h2, impl_within_eq, Option.bind_some]
  cases pumpOk (s, n, e, r, l, b, g, k) with
  | false => simp
  | true =>
    cases guardOk past alarm with
    | false => simp
    | true =>
      cases menuOk (a, bo, nu, de, di) with
      | false => simp
      | true =>
        simp only [if_true, Bool.true_and]
        by_cases h : (ts.length : Int) ≤ 200
        · rw [if_pos h, decide_eq_true (show ts.length ≤ 200 by omega), Bool.true_and]
        · rw [if_neg h, decide_eq_false (show ¬ ts.length ≤ 200 by omega), Bool.false_and]
/- impl_copyDevice -/
theorem impl_copyDevice_eq (p : Pump) (past : List Int) (alarm : Int) (m : Menu) (ts : List Tick) (ref : Int) (h1 : past.length ≤ 1048580) (h2 : ts.length ≤ 1048580) : g_impl_copyDevice (dev p past alarm m ts ref) = some (dev p past alarm m ts ref) := by
  have e := impl_copyGuard_eq past alarm (by omega)
  unfold g_impl_copyDevice impl_copyDevice_ dev
  simp only [e, Option.bind_some, List.nil_append, List.length_nil]
  have c : (((0 + ts.length : Nat) : Int) * ((24 : Nat) : Int)) ≤ 140737488355328 := by omega
  rw [if_pos c]
/- impl_TickDevice -/
def finT (past : List Int) (alarm : Int) (m' : Menu) (ts : List Tick) (i : In) (os : List Order) (q : Pump) (r : Int) : Device :=
  dev (tickP q past (feel past alarm i.1 (seenF os))) (pass past (feel past alarm i.1 (seenF os)) (allow past (feel past alarm i.1 (seenF os)) (wants q))) (feel past alarm i.1 (seenF os)) m' (ts ++ [(allow past (feel past alarm i.1 (seenF os)) (wants q), feel past alarm i.1 (seenF os), (tickP q past (feel past alarm i.1 (seenF os))).1)]) r
set_option maxHeartbeats 2000000 in
theorem impl_TickDevice_eq (p : Pump) (past : List Int) (alarm : Int) (m : Menu) (ts : List Tick) (ref : Int) (i : In) (hp : past.length ≤ 1048580) (hm : m.2.2.2.2.size ≤ 1048580) (ht : ts.length ≤ 1048580) :
    g_impl_TickDevice (dev p past alarm m ts ref, i) = some (tickD p past alarm m ts ref i) := by
  refine evG_eq ?_
  obtain ⟨a, b, n, d, s⟩ := m
  have hm : s.size ≤ 1048580 := hm
  have e1 := impl_copyDevice_eq p past alarm (a, b, n, d, s) ts ref hp ht
  have e2 := impl_DeviceOk_eq p past alarm (a, b, n, d, s) ts ref (by omega) hm
  have e3 := impl_InOk_eq i
  unfold impl_TickDevice_ tickD
  refine ev_bind e1 (ev_bind e2 ?_)
  by_cases hd : deviceOk p past alarm (a, b, n, d, s) ts ref = true
  case neg =>
    rw [if_neg (fun q => hd q.1)]
    exact ev_neg hd ev_some
  refine ev_pos hd (ev_bind e3 ?_)
  by_cases hi : inOk i = true
  case neg =>
    rw [if_neg (fun q => hi q.2.1)]
    exact ev_neg hi ev_some
  refine ev_pos hi ?_
  by_cases h2 : ts.length = 200
  case pos =>
    rw [if_neg (fun q => q.2.2.1 h2)]
    exact ev_pos (by omega) ev_some
  refine ev_neg (by omega) ?_
  by_cases h9 : ref ≤ 999999900
  case neg =>
    rw [if_neg (fun q => h9 q.2.2.2)]
    exact ev_pos (by omega) ev_some
  refine ev_neg (by omega) ?_
  rw [if_pos ⟨hd, hi, h2, h9⟩]
  obtain ⟨i1, i2, i3⟩ := inOk_den hi
  obtain ⟨q1, q2, q3, q4, q5, q6⟩ := deviceOk_den hd
  have e4 := impl_ordersOf_eq (a, b, n, d, s) i hm (by omega) (by omega)
  have e5 := impl_ReadOrder_eq i.2.2 (by omega)
  have hlen := ordersOf_len (a, b, n, d, s) i
  refine ev_bind e4 ?_
  unfold behind
  generalize hos : (ordersOf (a, b, n, d, s) i).2 = os at hlen ⊢
  generalize (ordersOf (a, b, n, d, s) i).1 = m'
  simp only []
  have key : ∀ (d2 j : Nat), j + d2 = os.length → ∀ (q : Pump) (r : Int), 0 ≤ r → r ≤ 999999900 + (j : Int) →
      Ev (fun k => impl_TickDevice_L7 (fun _ => g_impl_Allow) (fun _ => g_impl_DeviceOk) (fun _ => g_impl_Device__order) (fun _ => g_impl_Feel) (fun _ => g_impl_Give) (fun _ => g_impl_InOk) (fun _ => g_impl_Pass) (fun _ => g_impl_ReadOrder) (fun _ => g_impl_Wants) (fun _ => g_impl_copyDevice) (fun _ => g_impl_isSeen) (fun _ => g_impl_ordersOf) k
        ((os.length : Int), (j : Int), i.1, i.2.1, i.2.2, 0, 0, 0, 0, 0, 0, 0, 0, 0, 0, false, 0, 0, (⟨#[]⟩ : ByteArray), 0, q.1, q.2.1, q.2.2.1, q.2.2.2.1, q.2.2.2.2.1, q.2.2.2.2.2.1, q.2.2.2.2.2.2.1, q.2.2.2.2.2.2.2, alarm, m'.1, m'.2.1, m'.2.2.1, m'.2.2.2.1, m'.2.2.2.2, r, os, [], [], past, ts, ()))
        (finT past alarm m' ts i os (takeL (os.drop j) q r).1 (if i.2.2.size ≠ 0 ∧ (readO i.2.2).2 = false then (takeL (os.drop j) q r).2 + 1 else (takeL (os.drop j) q r).2)) := by
    intro d2
    induction d2 with
    | zero =>
      intro j hj q r hr0 hr
      have ej : os.drop j = [] := List.drop_eq_nil_of_le (by omega)
      rw [ej]
      simp only [takeL]
      refine Ev.step (fun w => by rw [impl_TickDevice_L7]) ?_
      refine ev_neg (by omega) (ev_bind e5 ?_)
      by_cases hz : i.2.2 = ⟨#[]⟩
      · have hz2 : i.2.2.size = 0 := (eq_empty _).1 hz
        have hk2 : ¬ (i.2.2.size ≠ 0 ∧ (readO i.2.2).2 = false) := fun w => w.1 hz2
        rw [if_neg hk2]
        refine ev_pos hz ?_
        refine ev_bind (impl_isSeen_eq os (by omega)) (ev_bind (impl_Feel_eq past alarm i.1 (seenF os) (by omega)) (ev_bind (impl_Wants_eq q) (ev_bind (impl_Allow_eq past (feel past alarm i.1 (seenF os)) (wants q) (by omega)) (ev_dom (fun ha => ?_) (fun ha => ?_)))))
        · refine ev_bind (impl_Give_eq q _) (ev_bind (impl_Pass_eq past _ _ (by omega)) (ev_pos (by simp only [List.length_singleton]; omega) (ev_eq ?_)))
          have ha : feel past alarm i.1 (seenF os) = 0 := ha
          unfold finT tickP
          rw [if_pos ha]
          rfl
        · refine ev_bind (impl_Pass_eq past _ _ (by omega)) (ev_pos (by simp only [List.length_singleton]; omega) (ev_eq ?_))
          have ha : ¬ feel past alarm i.1 (seenF os) = 0 := ha
          unfold finT tickP
          rw [if_neg ha]
          rfl
      · have hz2 : i.2.2.size ≠ 0 := fun w => hz ((eq_empty _).2 w)
        refine ev_neg hz ?_
        by_cases hk : (readO i.2.2).2 = true
        · have hk2 : ¬ (i.2.2.size ≠ 0 ∧ (readO i.2.2).2 = false) := fun w => by rw [hk] at w; cases w.2
          rw [if_neg hk2]
          refine ev_pos hk ?_
          refine ev_bind (impl_isSeen_eq os (by omega)) (ev_bind (impl_Feel_eq past alarm i.1 (seenF os) (by omega)) (ev_bind (impl_Wants_eq q) (ev_bind (impl_Allow_eq past (feel past alarm i.1 (seenF os)) (wants q) (by omega)) (ev_dom (fun ha => ?_) (fun ha => ?_)))))
          · refine ev_bind (impl_Give_eq q _) (ev_bind (impl_Pass_eq past _ _ (by omega)) (ev_pos (by simp only [List.length_singleton]; omega) (ev_eq ?_)))
            have ha : feel past alarm i.1 (seenF os) = 0 := ha
            unfold finT tickP
            rw [if_pos ha]
            rfl
          · refine ev_bind (impl_Pass_eq past _ _ (by omega)) (ev_pos (by simp only [List.length_singleton]; omega) (ev_eq ?_))
            have ha : ¬ feel past alarm i.1 (seenF os) = 0 := ha
            unfold finT tickP
            rw [if_neg ha]
            rfl
        · have hk2 : i.2.2.size ≠ 0 ∧ (readO i.2.2).2 = false := ⟨hz2, by simpa using hk⟩
          rw [if_pos hk2, w64 (n := r + 1) (by omega) (by omega)]
          refine ev_neg hk ?_
          refine ev_bind (impl_isSeen_eq os (by omega)) (ev_bind (impl_Feel_eq past alarm i.1 (seenF os) (by omega)) (ev_bind (impl_Wants_eq q) (ev_bind (impl_Allow_eq past (feel past alarm i.1 (seenF os)) (wants q) (by omega)) (ev_dom (fun ha => ?_) (fun ha => ?_)))))
          · refine ev_bind (impl_Give_eq q _) (ev_bind (impl_Pass_eq past _ _ (by omega)) (ev_pos (by simp only [List.length_singleton]; omega) (ev_eq ?_)))
            have ha : feel past alarm i.1 (seenF os) = 0 := ha
            unfold finT tickP
            rw [if_pos ha]
            rfl
          · refine ev_bind (impl_Pass_eq past _ _ (by omega)) (ev_pos (by simp only [List.length_singleton]; omega) (ev_eq ?_))
            have ha : ¬ feel past alarm i.1 (seenF os) = 0 := ha
            unfold finT tickP
            rw [if_neg ha]
            rfl
    | succ d2 ih =>
      intro j hj q r hr0 hr
      have hlt : j < os.length := by omega
      have hc : os.drop j = os[j] :: os.drop (j + 1) := List.drop_eq_getElem_cons hlt
      rw [hc]
      simp only [takeL]
      refine Ev.step (fun w => by rw [impl_TickDevice_L7]) ?_
      refine ev_pos (by omega) (ev_pos (by omega) (ev_pos (by omega) ?_))
      rw [getD_drop hc, w64_succ (by omega)]
      refine ev_bind (impl_Device__order_eq q past alarm m' ts r os[j]) (ev_dom (fun hb => ?_) (fun hb => ?_))
      · have hb : (takeO q os[j]).2 = true := hb
        rw [if_pos hb]
        exact ih (j + 1) (by omega) (takeO q os[j]).1 r hr0 (by omega)
      · have hb : ¬ (takeO q os[j]).2 = true := hb
        rw [if_neg hb]
        have ew : wrap64 (r + 1) = r + 1 := w64 (by omega) (by omega)
        simp only [ew]
        exact ih (j + 1) (by omega) (takeO q os[j]).1 (r + 1) (by omega) (by omega)
  exact key os.length 0 (by omega) p ref q5 (by omega)
/- impl_PumpNew -/
theorem impl_PumpNew_eq : g_impl_PumpNew () = some (0, 0, 1, 0, 0, 0, 0, 0) := rfl
/- impl_DeviceNew -/
theorem impl_DeviceNew_eq : g_impl_DeviceNew () = some devNew := by
  unfold g_impl_DeviceNew impl_DeviceNew_
  have e1 := impl_MenuNew_eq
  have e2 := impl_PumpNew_eq
  simp only [e1, e2, Option.bind_some]
  rfl
/- impl_RunDevice -/
set_option maxHeartbeats 1000000 in
theorem impl_RunDevice_eq (l : List In) (hl : l.length ≤ 1048580) : g_impl_RunDevice l = some (runD l) := by
  refine evG_eq ?_
  unfold impl_RunDevice_ runD
  by_cases h : 150 < l.length
  · rw [if_pos h]
    exact ev_pos (by omega) (ev_eq rfl)
  rw [if_neg h]
  refine ev_neg (by omega) ?_
  have run : ∀ (d2 j : Nat), j + d2 = l.length → ∀ d : Device, DOk d →
      Ev (fun k => impl_RunDevice_L11 (fun _ => g_impl_DeviceNew) (fun _ => g_impl_InOk) (fun _ => g_impl_TickDevice) k ((l.length : Int), (j : Int), l, 0, 0, 0, 0, 0, 0, 0, 0, 0, 0, false, 0, 0, (⟨#[]⟩ : ByteArray), 0, d.1, d.2.1, d.2.2.1, d.2.2.2.1, d.2.2.2.2.1, d.2.2.2.2.2.1, d.2.2.2.2.2.2.1, d.2.2.2.2.2.2.2.1, d.2.2.2.2.2.2.2.2.2.1, d.2.2.2.2.2.2.2.2.2.2.1, d.2.2.2.2.2.2.2.2.2.2.2.1, d.2.2.2.2.2.2.2.2.2.2.2.2.1, d.2.2.2.2.2.2.2.2.2.2.2.2.2.1, d.2.2.2.2.2.2.2.2.2.2.2.2.2.2.1, d.2.2.2.2.2.2.2.2.2.2.2.2.2.2.2.2, [], [], d.2.2.2.2.2.2.2.2.1, d.2.2.2.2.2.2.2.2.2.2.2.2.2.2.2.1, ())) ((l.drop j).foldl tick d, true) := by
    intro d2
    induction d2 with
    | zero =>
      intro j hj d hd
      have ej : l.drop j = [] := List.drop_eq_nil_of_le (by omega)
      rw [ej]
      refine Ev.step (fun w => by rw [impl_RunDevice_L11]) ?_
      exact ev_neg (by omega) (ev_eq rfl)
    | succ d2 ih =>
      intro j hj d hd
      have hlt : j < l.length := by omega
      have hc : l.drop j = l[j] :: l.drop (j + 1) := List.drop_eq_getElem_cons hlt
      rw [hc]
      refine Ev.step (fun w => by rw [impl_RunDevice_L11]) ?_
      refine ev_pos (by omega) (ev_pos (by omega) (ev_pos (by omega) ?_))
      rw [getD_drop hc, w64_succ (by omega)]
      have hq : g_impl_TickDevice (d, l[j]) = some (tick d l[j]) := by
        obtain ⟨p, past, alarm, m, ts, ref, rfl, hk⟩ := hd
        obtain ⟨_, h2, h3, h4, _, _⟩ := deviceOk_den hk
        have h5 := menu_size h3
        have h6 := (guardOk_den h2).1
        rw [tick_dev]
        exact impl_TickDevice_eq p past alarm m ts ref l[j] (by omega) (by omega) (by omega)
      refine ev_bind hq ?_
      exact ih (j + 1) (by omega) (tick d l[j]) (hd.tick _)
  have all : ∀ (d2 j : Nat), j + d2 = l.length →
      Ev (fun k => impl_RunDevice_L4 (fun _ => g_impl_DeviceNew) (fun _ => g_impl_InOk) (fun _ => g_impl_TickDevice) k ((l.length : Int), (j : Int), l, 0, 0, 0, 0, 0, 0, 0, 0, 0, 0, false, 0, 0, (⟨#[]⟩ : ByteArray), 0, [], [], ())) (if (l.drop j).all inOk = true then (l.foldl tick devNew, true) else (devZero, false)) := by
    intro d2
    induction d2 with
    | zero =>
      intro j hj
      have ej : l.drop j = [] := List.drop_eq_nil_of_le (by omega)
      rw [ej]
      have ht : ([] : List In).all inOk = true := rfl
      rw [if_pos ht]
      refine Ev.step (fun w => by rw [impl_RunDevice_L4]) ?_
      exact ev_neg (by omega) (ev_bind impl_DeviceNew_eq (run l.length 0 (by omega) devNew devNew_ok))
    | succ d2 ih =>
      intro j hj
      have hlt : j < l.length := by omega
      have hc : l.drop j = l[j] :: l.drop (j + 1) := List.drop_eq_getElem_cons hlt
      rw [hc]
      refine Ev.step (fun w => by rw [impl_RunDevice_L4]) ?_
      refine ev_pos (by omega) (ev_pos (by omega) (ev_pos (by omega) ?_))
      rw [getD_drop hc, w64_succ (by omega)]
      refine ev_bind (impl_InOk_eq l[j]) ?_
      have e : (l[j] :: l.drop (j + 1)).all inOk = (inOk l[j] && (l.drop (j + 1)).all inOk) := rfl
      rw [e]
      cases hk : inOk l[j] with
      | true =>
        rw [Bool.true_and]
        exact ev_pos rfl (ih (j + 1) (by omega))
      | false =>
        have hf : ¬ (false && (l.drop (j + 1)).all inOk) = true := by simp
        rw [if_neg hf]
        exact ev_neg (by simp) (ev_eq rfl)
  exact all l.length 0 (by omega)
/- laws_toIn -/
theorem laws_toIn_eq (i : In) : g_laws_toIn i = some i := rfl
/- laws_toInS -/
theorem laws_toInS_eq (l : List In) (hl : l.length ≤ 1048576) : g_laws_toInS l = some l := by
  refine evG_eq ?_
  unfold laws_toInS_
  refine ev_pos rfl (ev_pos (by omega) (ev_pos (by omega) ?_))
  rw [Int.toNat_natCast]
  refine map_loop (0, ((⟨#[]⟩ : ByteArray), (⟨#[]⟩ : ByteArray))) l (fun k out i => laws_toInS_L3 (fun _ => g_laws_toIn) k (i, l, out, ())) (fun out => ?_) (fun i x out r hx hi ho h => ?_)
  · refine Ev.step (fun q => by rw [laws_toInS_L3]) ?_
    exact ev_neg (by omega) ev_some
  · refine Ev.step (fun q => by rw [laws_toInS_L3]) ?_
    refine ev_pos (by omega) (ev_pos (by omega) (ev_pos (by omega) (ev_bind (laws_toIn_eq _) (ev_pos (by omega) (ev_pos (by omega) ?_)))))
    rw [getD_at hx, w64_succ (by omega), Int.toNat_natCast]
    exact h
/- laws_markTickS -/
theorem laws_markTickS_eq (l : List Tick) (k : Int) (hl : l.length ≤ 2000000) (hk : 0 ≤ k ∧ k ≤ 100000000) : g_laws_markTickS (l, k) = some (k + 3 * (l.length : Int), marksT k l.length) := by
  refine evG_eq ?_
  unfold laws_markTickS_
  have key : ∀ (d j : Nat), j + d = l.length → ∀ out : List Tick, out = filled (fun (i : Nat) => (k + 3 * (i : Int), k + 3 * (i : Int) + 1, k + 3 * (i : Int) + 2)) l j → Ev (fun n => laws_markTickS_L2 n (k + 3 * (j : Int), (j : Int), out, ())) (k + 3 * (l.length : Int), marksT k l.length) := by
    intro d
    induction d with
    | zero =>
      intro j hj out ho
      have e : j = l.length := by omega
      subst e
      have hlen : out.length = l.length := by rw [ho]; exact filled_len _ _ (by omega)
      refine Ev.step (fun w => by rw [laws_markTickS_L2]) (ev_neg (by omega) (ev_eq ?_))
      rw [ho, filled_all]
      rfl
    | succ d ih =>
      intro j hj out ho
      have hlen : out.length = l.length := by rw [ho]; exact filled_len _ _ (by omega)
      obtain ⟨e1, e2, e3, _⟩ := w3 (k := k + 3 * (j : Int)) (by omega) (by omega)
      have hlt : j < out.length := by omega
      refine Ev.step (fun w => by rw [laws_markTickS_L2]) ?_
      rw [w64_succ (by omega), e3, e2, e1]
      simp only [Int.toNat_natCast, List.set_set, getD_set_self hlt, List.length_set]
      have := ih (j + 1) (by omega) (out.set j (k + 3 * (j : Int), k + 3 * (j : Int) + 1, k + 3 * (j : Int) + 2)) (by rw [ho]; exact filled_set (fun (i : Nat) => (k + 3 * (i : Int), k + 3 * (i : Int) + 1, k + 3 * (i : Int) + 2)) _ (by omega))
      rw [show k + 3 * ((j + 1 : Nat) : Int) = k + 3 * (j : Int) + 3 by omega] at this
      exact ev_pos (by omega) (ev_pos (by omega) (ev_pos (by omega) (ev_pos (by omega) (ev_pos (by omega) (ev_pos (by omega) (ev_pos (by omega) this))))))
  have := key l.length 0 (by omega) l rfl
  rw [show k + 3 * ((0 : Nat) : Int) = k by omega] at this
  exact this
/- laws_markIntS -/
theorem laws_markIntS_eq (l : List Int) (k : Int) (hl : l.length ≤ 2000000) (hk : 0 ≤ k ∧ k ≤ 100000000) : g_laws_markIntS (l, k) = some (k + (l.length : Int), marks k l.length) := by
  refine evG_eq ?_
  unfold laws_markIntS_
  have key : ∀ (d j : Nat), j + d = l.length → ∀ out : List Int, out = filled (fun (i : Nat) => k + (i : Int)) l j → Ev (fun n => laws_markIntS_L2 n (k + (j : Int), (j : Int), out, ())) (k + (l.length : Int), marks k l.length) := by
    intro d
    induction d with
    | zero =>
      intro j hj out ho
      have e : j = l.length := by omega
      subst e
      have hlen : out.length = l.length := by rw [ho]; exact filled_len _ _ (by omega)
      refine Ev.step (fun w => by rw [laws_markIntS_L2]) (ev_neg (by omega) (ev_eq ?_))
      rw [ho, filled_all]
      rfl
    | succ d ih =>
      intro j hj out ho
      have hlen : out.length = l.length := by rw [ho]; exact filled_len _ _ (by omega)
      refine Ev.step (fun w => by rw [laws_markIntS_L2]) (ev_pos (by omega) (ev_pos (by omega) (ev_pos (by omega) ?_)))
      rw [w64_succ (by omega), (w3 (k := k + (j : Int)) (by omega) (by omega)).1, Int.toNat_natCast]
      have := ih (j + 1) (by omega) (out.set j (k + (j : Int))) (by rw [ho]; exact filled_set _ _ (by omega))
      rw [show k + ((j + 1 : Nat) : Int) = k + (j : Int) + 1 by omega] at this
      exact this
  have := key l.length 0 (by omega) l rfl
  rw [show k + ((0 : Nat) : Int) = k by omega] at this
  exact this
/- laws_markDevice -/
theorem laws_markDevice_eq (p : Pump) (past : List Int) (alarm : Int) (m : Menu) (ts : List Tick) (ref : Int) (h1 : past.length ≤ 2000000) (h2 : ts.length ≤ 2000000) :
    g_laws_markDevice (dev p past alarm m ts ref, 1) = some (1 + (past.length : Int) + 3 * (ts.length : Int), marks 1 past.length, marksT (1 + (past.length : Int)) ts.length) := by
  have e1 := laws_markIntS_eq past 1 h1 (by omega)
  have e2 := laws_markTickS_eq ts (1 + (past.length : Int)) h2 (by omega)
  have e3 : g_laws_markGuard ((past, alarm), 1) = some (1 + (past.length : Int), marks 1 past.length) := by
    unfold g_laws_markGuard laws_markGuard_
    simp only [e1, Option.bind_some]
  unfold g_laws_markDevice laws_markDevice_ dev
  simp only [e3, e2, Option.bind_some]
/- laws_markText -/
theorem markText_loop : ∀ (f n : Nat), n < 10 ^ f → n ≤ 9000000000000000000 → ∀ (b : ByteArray), b.size + f ≤ 1000 → ∃ v, Ev (fun k => laws_markText_L4 k ((n : Int), b, ())) v
  | 0, n, hn, _, b, hb => by
    have e : n = 0 := by simpa using hn
    subst e
    refine ⟨(⟨#[109]⟩ : ByteArray) ++ b, Ev.step (fun w => by rw [laws_markText_L4]) ?_⟩
    refine ev_neg (by omega) (ev_pos ?_ ev_some)
    have : (⟨#[109]⟩ : ByteArray).size = 1 := rfl
    omega
  | f + 1, n, hn, hbig, b, hb => by
    have hz : (bstr [(wr .u8 (wrap64 (48 + (Int.tmod (n : Int) 10))))]).size = 1 := by rw [size_bstr]; rfl
    by_cases h0 : 0 < n
    · have hn2 : n / 10 < 10 ^ f := by
        rw [Nat.div_lt_iff_lt_mul (by omega)]
        rw [Nat.pow_succ] at hn
        exact hn
      have e : wrap64 (Int.tdiv (n : Int) 10) = ((n / 10 : Nat) : Int) := by
        have : Int.tdiv (n : Int) 10 = ((n / 10 : Nat) : Int) := by
          rw [Int.tdiv_eq_ediv_of_nonneg (by omega)]; omega
        rw [this]
        exact w64 (by omega) (by omega)
      clear hn
      obtain ⟨v, hv⟩ := markText_loop f (n / 10) hn2 (by omega) (bstr [(wr .u8 (wrap64 (48 + (Int.tmod (n : Int) 10))))] ++ b) (by rw [size_append, hz]; omega)
      clear hn2
      refine ⟨v, Ev.step (fun w => by rw [laws_markText_L4]) ?_⟩
      rw [e]
      refine ev_pos (by omega) (ev_neg (by omega) (ev_pos ?_ (ev_neg (by omega) hv)))
      rw [hz]; omega
    · refine ⟨(⟨#[109]⟩ : ByteArray) ++ b, Ev.step (fun w => by rw [laws_markText_L4]) ?_⟩
      clear hn
      refine ev_neg (by omega) (ev_pos ?_ ev_some)
      have : (⟨#[109]⟩ : ByteArray).size = 1 := rfl
      omega
theorem laws_markText_some (k : Int) (hk : 0 ≤ k ∧ k ≤ 1000000000) : ∃ v, g_laws_markText k = some v := by
  by_cases h : k ≤ 0
  · refine ⟨⟨#[109, 48]⟩, evG_eq ?_⟩
    unfold laws_markText_
    exact ev_pos h ev_some
  · obtain ⟨n, rfl⟩ := Int.eq_ofNat_of_zero_le hk.1
    have hp : n < 10 ^ 10 := by
      have : (10 : Nat) ^ 10 = 10000000000 := rfl
      omega
    obtain ⟨v, hv⟩ := markText_loop 10 n hp (by omega) ⟨#[]⟩ (by rw [size_empty]; omega)
    refine ⟨v, evG_eq ?_⟩
    unfold laws_markText_
    exact ev_neg h hv
/- laws_markInS -/
theorem laws_markInS_some (l : List In) (hl : l.length ≤ 2000000) : ∃ r, g_laws_markInS (l, 1) = some r ∧ 0 ≤ r.1 := by
  have key : ∀ (d j : Nat), j + d = l.length → ∀ (k : Int) (out : List In), out.length = l.length → 0 ≤ k ∧ k ≤ 1 + 3 * (j : Int) → ∃ r, Ev (fun n => laws_markInS_L2 (fun _ => g_laws_markText) n (k, (j : Int), out, ())) r ∧ 0 ≤ r.1 := by
    intro d
    induction d with
    | zero =>
      intro j hj k out ho hk
      exact ⟨(k, out), Ev.step (fun w => by rw [laws_markInS_L2]) (ev_neg (by omega) ev_some), hk.1⟩
    | succ d ih =>
      intro j hj k out ho hk
      obtain ⟨e1, e2, e3, _⟩ := w3 (k := k) (by omega) (by omega)
      obtain ⟨v, hv⟩ := laws_markText_some (k + 1) (by omega)
      obtain ⟨u, hu⟩ := laws_markText_some (k + 2) (by omega)
      have hlt : j < out.length := by omega
      obtain ⟨r, h1, h2⟩ := ih (j + 1) (by omega) (k + 3) (out.set j (k, (v, u))) (by rw [List.length_set]; exact ho) (by omega)
      refine ⟨r, Ev.step (fun w => by rw [laws_markInS_L2]) ?_, h2⟩
      rw [w64_succ (by omega), e3, e2, e1]
      simp only [Int.toNat_natCast, List.set_set, getD_set_self hlt, List.length_set]
      exact ev_pos (by omega) (ev_pos (by omega) (ev_pos (by omega) (ev_bind hv (ev_pos (by omega) (ev_pos (by omega) (ev_bind hu (ev_pos (by omega) (ev_pos (by omega) h1))))))))
  obtain ⟨r, h1, h2⟩ := key l.length 0 (by omega) 1 l rfl (by omega)
  exact ⟨r, evG_eq h1, h2⟩
/- laws_eqIn -/
theorem laws_eqIn_refl (i : In) : g_laws_eqIn (i, i) = some true := by
  obtain ⟨a, b, c⟩ := i
  unfold g_laws_eqIn laws_eqIn_
  simp
/- laws_eqInS -/
theorem laws_eqInS_refl (l : List In) (hl : l.length ≤ 9223372036854775806) : g_laws_eqInS (l, l) = some true := by
  refine evG_eq ?_
  unfold laws_eqInS_
  refine ev_pos rfl ?_
  refine list_loop l (fun k (_ : Unit) i => laws_eqInS_L4 (fun _ => g_laws_eqIn) k (i, l, l, ())) (fun _ _ => true) (fun _ => ?_) (fun i _ x rest hx hi h => ?_) 0 (by omega) ()
  · refine Ev.step (fun q => by rw [laws_eqInS_L4]) ?_
    exact ev_neg (by omega) ev_some
  · refine Ev.step (fun q => by rw [laws_eqInS_L4]) ?_
    refine ev_pos (by omega) (ev_pos (by omega) (ev_pos (by omega) (ev_pos (by omega) (ev_pos (by omega) (ev_bind (laws_eqIn_refl _) (ev_pos rfl ?_))))))
    rw [w64_succ (by omega)]
    exact h ()
/- spec_l15Less -/
theorem spec_l15Less_eq (a b : Int) : g_spec_l15Less (a, b) = some (min a b) := by
  show (if a < b then some a else some b) = _
  split <;> (congr 1; omega)
/- spec_l16Sum -/
theorem spec_l16Sum_eq (l : List Int) (hl : l.length ≤ 9223372036854775806) : g_spec_l16Sum l = some (wrap64 l.sum) := by
  refine evG_eq ?_
  unfold spec_l16Sum_
  refine Ev.congr (g := fun k => spec_l16Sum_L3 k (wrap64 0, ((0 : Nat) : Int), l, ())) (fun k => by rw [w64 (n := 0) (by omega) (by omega)]; rfl) ?_
  refine Ev.cast (list_loop l (fun k s i => spec_l16Sum_L3 k (wrap64 s, i, l, ())) (fun r s => wrap64 (s + r.sum)) (fun s => ?_) (fun i s x rest hx hi h => ?_) 0 (by omega) 0) (by simp)
  · refine Ev.step (fun q => by rw [spec_l16Sum_L3]) ?_
    exact ev_neg (by omega) (Ev.cast ev_some (by simp))
  · refine Ev.step (fun q => by rw [spec_l16Sum_L3]) ?_
    refine ev_pos (by omega) (ev_pos (by omega) (ev_pos (by omega) ?_))
    rw [getD_drop hx, w64_succ (by omega), wrap64_add]
    refine Ev.cast (h (s + x)) ?_
    simp [Int.add_assoc]
/- spec_RoomOf -/
theorem spec_RoomOf_eq (l : List Int) (a : Int) (hl : l.length ≤ 9223372036854775806) : g_spec_RoomOf (l, a) = some (wrap64 (30 - l.sum)) := by
  unfold g_spec_RoomOf spec_RoomOf_
  simp only [spec_l16Sum_eq l hl, Option.bind_some, wrap64_sub']
/- spec_l01In -/
theorem spec_l01In_eq (a b c : Int) : g_spec_l01In (a, b, c) = some (decide (b ≤ a ∧ a ≤ c)) := by
  show (if b ≤ a then some (decide (a ≤ c)) else some false) = _
  split
  · rename_i h; refine eq_dec ?_; rw [decide_eq_true_iff]; omega
  · rename_i h; exact dec_no (by omega)
/- spec_SenseOk -/
theorem spec_SenseOk_eq (a : Int) : g_spec_SenseOk a = some (senseOk a) := by
  unfold g_spec_SenseOk spec_SenseOk_
  simp only [spec_l01In_eq, Option.bind_some]; rfl
/- spec_GuardOk -/
theorem spec_GuardOk_eq (l : List Int) (a : Int) (hl : l.length ≤ 9223372036854775806) : g_spec_GuardOk (l, a) = some (guardOk l a) := by
  refine evG_eq ?_
  have hloop : l.length ≤ 9 → Ev (fun k => spec_GuardOk_L4 (fun _ => g_spec_SenseOk) (fun _ => g_spec_l01In) (fun _ => g_spec_l16Sum) k (0, l, a, ())) (pastOk l && decide (l.sum ≤ 30)) := by
    intro h9
    have hend : Ev (fun k => spec_GuardOk_L4 (fun _ => g_spec_SenseOk) (fun _ => g_spec_l01In) (fun _ => g_spec_l16Sum) k ((l.length : Int), l, a, ())) (decide (wrap64 l.sum ≤ 30)) := by
      refine Ev.step (fun q => by rw [spec_GuardOk_L4]) ?_
      exact ev_neg (by omega) (ev_bind (spec_l16Sum_eq l hl) ev_some)
    refine Ev.cast (list_loop l (fun k (_ : Unit) i => spec_GuardOk_L4 (fun _ => g_spec_SenseOk) (fun _ => g_spec_l01In) (fun _ => g_spec_l16Sum) k (i, l, a, ())) (fun r _ => pastOk r && decide (wrap64 l.sum ≤ 30)) (fun _ => Ev.cast hend (by simp [pastOk])) (fun i _ x rest hx hi h => ?_) 0 (by omega) ()) ?_
    · refine Ev.step (fun q => by rw [spec_GuardOk_L4]) ?_
      refine ev_pos (by omega) (ev_pos (by omega) (ev_pos (by omega) ?_))
      rw [getD_drop hx, spec_l01In_eq, w64_succ (by omega)]
      simp only [Option.bind_some, decide_eq_true_eq]
      by_cases hx2 : 0 ≤ x ∧ x ≤ 30
      · refine ev_pos hx2 (Ev.cast (h ()) ?_)
        rw [pastOk_cons]; simp [hx2]
      · refine ev_neg hx2 (Ev.cast ev_some ?_)
        rw [pastOk_cons]; simp [hx2]
    · simp only [List.drop_zero]
      cases hp : pastOk l with
      | true =>
        have hs := pastOk_sum hp
        rw [w64 (by omega) (by omega)]
      | false => rfl
  unfold spec_GuardOk_
  by_cases h9 : 9 < (l.length : Int)
  · refine ev_pos h9 (Ev.cast ev_some ?_)
    have h9' : ¬ l.length ≤ 9 := by omega
    simp [guardOk, h9']
  · refine ev_neg h9 (ev_bind (spec_SenseOk_eq a) ?_)
    have h9' : l.length ≤ 9 := by omega
    cases hs : senseOk a with
    | false => exact ev_neg Bool.false_ne_true (Ev.cast ev_some (by simp [guardOk, hs]))
    | true =>
      refine ev_pos rfl (Ev.cast (hloop h9') ?_)
      simp [guardOk, hs, h9']
/- spec_l16Copy -/
theorem spec_l16Copy_eq (l : List Int) (a : Int) (hl : l.length ≤ 17592186044416) : g_spec_l16Copy (l, a) = some (l, a) := by
  unfold g_spec_l16Copy spec_l16Copy_
  simp only [List.length_nil, Nat.zero_add, List.nil_append]
  rw [if_pos (by omega)]
/- spec_Pass -/
theorem spec_Pass_eq (l : List Int) (a n : Int) (hl : l.length ≤ 17592186044416) : g_spec_Pass ((l, a), n) = some (pass l a n, a) := by
  unfold g_spec_Pass spec_Pass_ pass
  simp only [spec_l16Copy_eq l a hl, spec_GuardOk_eq l a (by omega), spec_RoomOf_eq l a (by omega), spec_l15Less_eq, Option.bind_some, List.singleton_append, List.length_singleton, List.nil_append, List.length_nil, Nat.zero_add]
  by_cases h : guardOk l a = true
  · have hs := guardOk_sum h
    have h9 := (guardOk_den h).1
    simp only [h, if_true]
    rw [w64 (by omega) (by omega)]
    have key : ∀ x : Int, x = min (max n 0) (30 - l.sum) → (if ((1 + l.length : Nat) : Int) * ((8 : Nat) : Int) ≤ 140737488355328 then
        if 9 < ((List.length (x :: l) : Nat) : Int) then
          if (0 : Int) ≤ 9 then
            if 9 ≤ ((List.length (x :: l) : Nat) : Int) then
              if ((List.length (List.take (Int.toNat 9) (x :: l)) : Nat) : Int) * ((8 : Nat) : Int) ≤ 140737488355328 then some (List.take (Int.toNat 9) (x :: l), a) else none
            else none
          else none
        else some (x :: l, a)
      else none) = some (List.take 9 (min (max n 0) (30 - l.sum) :: l), a) := by
      intro x hx
      subst hx
      rw [if_pos (by omega)]
      split
      · rename_i h8
        rw [if_pos (by omega), if_pos (by omega), if_pos (by rw [List.length_take]; simp only [List.length_cons]; omega)]
        rfl
      · rename_i h8
        simp only [List.length_cons] at h8
        rw [List.take_of_length_le (by simp only [List.length_cons]; omega)]
    split
    · exact key _ (by omega)
    · exact key _ (by omega)
  · simp only [h, if_false, Bool.false_eq_true]
/- spec_RateOk -/
theorem spec_RateOk_eq (n d r : Int) : g_spec_RateOk (n, d, r) = some (rateOk n d r) := by
  unfold g_spec_RateOk spec_RateOk_ rateOk
  simp only [spec_l01In_eq, Option.bind_some, decide_eq_true_eq]
  by_cases h1 : 0 ≤ n ∧ n ≤ 1000000
  · by_cases h2 : 1 ≤ d ∧ d ≤ 1000000
    · rw [if_pos h1, if_pos h2, w64 (by omega) (by omega)]
      refine eq_dec ?_
      rw [decide_eq_true_iff]; unfold RateOkP; omega
    · rw [if_pos h1, if_neg h2]; exact dec_no (by unfold RateOkP; omega)
  · rw [if_neg h1]; exact dec_no (by unfold RateOkP; omega)
/- spec_StepRate -/
theorem spec_StepRate_eq (n d r : Int) : g_spec_StepRate (n, d, r) = some ((n, d, stepRest n d r), stepGives n d r) := by
  unfold g_spec_StepRate spec_StepRate_ stepRest stepGives
  simp only [spec_RateOk_eq, Option.bind_some]
  by_cases h : rateOk n d r = true
  · have h' := rateOk_den h
    obtain ⟨e1, e2⟩ := step_plain h
    simp only [h, if_true]
    rw [if_neg (by omega), if_neg (by omega), e1, e2]
  · simp only [h, if_false]; rfl
/- spec_PumpOk -/
theorem spec_PumpOk_eq (p : Pump) : g_spec_PumpOk p = some (pumpOk p) := by
  obtain ⟨s, n, d, r, l, b, g, k⟩ := p
  show _ = some (decide (PumpOkP s n d r l b g k))
  unfold g_spec_PumpOk spec_PumpOk_
  simp only [spec_l01In_eq, spec_RateOk_eq, Option.bind_some, decide_eq_true_eq, rateOk, beq_iff_eq, Bool.true_eq, Bool.false_eq, decide_eq_false_iff_not, decide_eq_decide]
  by_cases h : RateOkP n d r
  · have hw : wrap64 (3 * d) = 3 * d := by unfold RateOkP at h; exact w64 (by omega) (by omega)
    rw [hw]
    have h0 := h
    unfold RateOkP at h
    repeat' refine ite_r (fun _ => ?_) (fun _ => ?_)
    all_goals first
      | exact absurd h0 (by assumption)
      | exact dec_no (by unfold PumpOkP RateOkP; omega)
      | exact dec_yes (by unfold PumpOkP RateOkP; omega)
      | (refine eq_dec ?_; rw [decide_eq_true_iff]; unfold PumpOkP RateOkP; omega)
  · simp only [h, if_false]
    repeat' refine ite_r (fun _ => ?_) (fun _ => ?_)
    all_goals exact dec_no (by unfold PumpOkP; exact fun q => h q.2.1)
/- spec_Wants -/
theorem spec_Wants_eq (p : Pump) : g_spec_Wants p = some (wants p) := by
  obtain ⟨s, n, d, r, l, b, g, k⟩ := p
  unfold g_spec_Wants spec_Wants_
  simp only [spec_PumpOk_eq, spec_StepRate_eq, Option.bind_some, spec_l15Less_eq]
  by_cases h : pumpOk (s, n, d, r, l, b, g, k) = true
  · obtain ⟨_, a2, a3, _, _, a6, _, a8, _⟩ := pumpOk_den h
    have hg := stepGives_range (decide_eq_true a2) a3
    unfold wants runs
    simp only [h, if_true, Bool.true_and, decide_eq_true_eq]
    repeat' split
    all_goals first
      | (exfalso; omega)
      | rfl
      | (rw [w64 (by omega) (by omega)])
  · unfold wants runs
    simp only [h, if_false, Bool.false_and, Bool.false_eq_true]
/- spec_Give -/
theorem spec_Give_eq (p : Pump) (m : Int) : g_spec_Give (p, m) = some (give p m) := by
  obtain ⟨s, n, d, r, l, b, g, k⟩ := p
  unfold g_spec_Give spec_Give_
  simp only [spec_PumpOk_eq, spec_StepRate_eq, spec_Wants_eq, Option.bind_some, spec_l15Less_eq]
  have hw := wants_range (s, n, d, r, l, b, g, k)
  by_cases h : pumpOk (s, n, d, r, l, b, g, k) = true
  · obtain ⟨_, a2, a3, _, _, a6, _, a8, a9⟩ := pumpOk_den h
    unfold give runs giveB giveN
    simp only [h, if_true, Bool.true_and, decide_eq_true_eq]
    generalize hW : wants (s, n, d, r, l, b, g, k) = W at hw
    have key : ∀ N, N = min (max m 0) W → ∀ B, B = min N (min b 3) → wrap64 (b - B) = b - B ∧ wrap64 (g + N) = g + N ∧ wrap64 (N - B) = N - B ∧ wrap64 (l - (N - B)) = l - (N - B) := by
      intro N hN B hB
      have hN' : 0 ≤ N ∧ N ≤ 6 := by omega
      have hB' : 0 ≤ B ∧ B ≤ 3 ∧ B ≤ N := by omega
      exact ⟨w64 (by omega) (by omega), w64 (by omega) (by omega), w64 (by omega) (by omega), w64 (by omega) (by omega)⟩
    by_cases hm : min m W < 0
    · simp only [hm, if_true]
      have e : (0 : Int) = min (max m 0) W := by omega
      obtain ⟨k1, k2, k3, k4⟩ := key 0 e _ rfl
      rw [k1, k2, k3, k4, ← e]
      repeat' split
      all_goals first
        | rfl
        | (exfalso; omega)
        | (rename_i h0; rw [h0.2])
        | (rename_i h0; rw [h0])
        | (rename_i h0 _; rw [h0])
    · simp only [hm, if_false]
      have e : min m W = min (max m 0) W := by omega
      rw [e]
      obtain ⟨k1, k2, k3, k4⟩ := key _ rfl _ rfl
      rw [k1, k2, k3, k4]
      repeat' split
      all_goals first
        | rfl
        | (exfalso; omega)
        | (rename_i h0; rw [h0.2])
        | (rename_i h0; rw [h0])
        | (rename_i h0 _; rw [h0])
  · unfold give runs
    simp only [h, if_false, Bool.false_and, Bool.false_eq_true]
/- spec_Allow -/
theorem spec_Allow_eq (l : List Int) (a m : Int) (hl : l.length ≤ 9223372036854775806) : g_spec_Allow ((l, a), m) = some (allow l a m) := by
  unfold g_spec_Allow spec_Allow_ allow
  simp only [spec_GuardOk_eq l a hl, spec_RoomOf_eq l a hl, spec_l15Less_eq, Option.bind_some]
  by_cases h : guardOk l a = true
  · have hs := guardOk_sum h
    by_cases h0 : a = 0
    · by_cases hm : m < 0
      · rw [if_pos h, if_pos h0, if_pos hm, if_pos ⟨h, h0⟩]
        congr 1
        omega
      · rw [if_pos h, if_pos h0, if_neg hm, if_pos ⟨h, h0⟩, w64 (by omega) (by omega)]
        congr 1
        omega
    · simp only [h, h0, if_true, if_false, and_false]
  · simp only [h, if_false, false_and, Bool.false_eq_true]
/- spec_l13Both -/
theorem l13_or : ∀ a b : _root_.Fin 16, ∀ k : _root_.Fin 1, spec_l13Both_L4 5 ((a.val : Int), (b.val : Int), 0, 1, 0, ()) = some (ior .i64 (a.val : Int) (b.val : Int)) := by decide +kernel
theorem l13_more (k : Nat) : ∀ n x r, spec_l13Both_L4 n x = some r → spec_l13Both_L4 (n + k) x = some r := by
  intro n
  induction n with
  | zero => intro x r h; cases h
  | succ n ih =>
    intro x r h
    obtain ⟨b0, b1, b2, b3, b4, _⟩ := x
    rw [Nat.succ_add]
    rw [spec_l13Both_L4] at h ⊢
    revert h
    repeat' split
    all_goals first
      | exact fun h => h
      | exact fun h => ih _ _ h
theorem spec_l13Both_eq (a b : Int) (ha : 0 ≤ a ∧ a ≤ 15) (hb : 0 ≤ b ∧ b ≤ 15) : g_spec_l13Both (a, b) = some (ior .i64 a b) := by
  have h := l13_or ⟨a.toNat, by omega⟩ ⟨b.toNat, by omega⟩ 0
  simp only [Int.toNat_of_nonneg ha.1, Int.toNat_of_nonneg hb.1] at h
  refine evG_eq ⟨5, fun k hk => ?_⟩
  have := l13_more (k - 5) 5 _ _ h
  rw [show 5 + (k - 5) = k by omega] at this
  exact this
/- spec_Feel -/
theorem spec_Feel_eq (l : List Int) (a s : Int) (b : Bool) (hl : l.length ≤ 17592186044416) : g_spec_Feel ((l, a), (s, b)) = some (l, feel l a s b) := by
  unfold g_spec_Feel spec_Feel_ feel
  simp only [spec_l16Copy_eq l a hl, spec_GuardOk_eq l a (by omega), spec_SenseOk_eq, Option.bind_some]
  cases hg : guardOk l a with
  | false => simp
  | true =>
    cases hs : senseOk s with
    | false => simp
    | true =>
      have h1 := (guardOk_den hg).2.2.2
      unfold senseOk at h1 hs
      rw [spec_l13Both_eq a s (of_decide_eq_true h1) (of_decide_eq_true hs)]
      cases b <;> simp
/- spec_OrderOk -/
theorem spec_OrderOk_eq (o : Order) : g_spec_OrderOk o = some (orderOk o) := by
  obtain ⟨a, b, c, x⟩ := o
  show _ = some (decide (OrderOkP a b c x))
  unfold g_spec_OrderOk spec_OrderOk_
  simp only [spec_l01In_eq, Option.bind_some, decide_eq_true_eq, mn_eq]
  by_cases h : 1 ≤ c ∧ c ≤ 1000
  · have hw : wrap64 (3 * c) = 3 * c := w64 (by omega) (by omega)
    rw [hw]
    repeat' refine ite_r (fun _ => ?_) (fun _ => ?_)
    all_goals first
      | exact dec_no (by unfold OrderOkP; omega)
      | exact dec_yes (by unfold OrderOkP; omega)
      | (exfalso; omega)
      | (exfalso; simp_all; done)
      | (refine eq_dec ?_; simp only [Bool.and_eq_true, decide_eq_true_eq, decide_true, true_and]; unfold OrderOkP; omega)
  · simp only [h, if_false]
    repeat' refine ite_r (fun _ => ?_) (fun _ => ?_)
    all_goals first
      | exact dec_no (by unfold OrderOkP; omega)
      | exact dec_yes (by unfold OrderOkP; omega)
      | (exfalso; omega)
      | (exfalso; simp_all; done)
      | (refine eq_dec ?_; simp only [Bool.and_eq_true, decide_eq_true_eq, decide_true, true_and]; unfold OrderOkP; omega)
/- spec_Take -/
theorem spec_Take_eq (p : Pump) (o : Order) : g_spec_Take (p, o) = some (take p o) := by
  obtain ⟨s, n, d, r, l, b, g, k⟩ := p
  obtain ⟨a, c, e, x⟩ := o
  unfold g_spec_Take spec_Take_ take takeR
  simp only [spec_PumpOk_eq, spec_OrderOk_eq, Option.bind_some]
  by_cases h : pumpOk (s, n, d, r, l, b, g, k) = true
  · by_cases h' : orderOk (a, c, e, x) = true
    · obtain ⟨h1, _, _, _, _, _, _, h8, _⟩ := pumpOk_den h
      simp only [h, h', if_true, and_self]
      repeat' split
      all_goals first
        | rfl
        | (exfalso; omega)
        | (simp_all; done)
        | (simp_all; omega)
    · simp only [h, h', if_true, if_false, and_false, Bool.false_eq_true]
  · simp only [h, if_false, false_and, Bool.false_eq_true]
/- spec_l02Four -/
theorem spec_l02Four_eq (v : Int) : g_spec_l02Four v = some (four v) := by
  unfold g_spec_l02Four spec_l02Four_
  rw [if_pos (by decide), if_pos (by decide), if_pos (by decide)]
  have e1 := shr_u32 (v := v) 24 (by decide)
  have e2 := shr_u32 (v := v) 16 (by decide)
  have e3 := shr_u32 (v := v) 8 (by decide)
  unfold four
  have p1 : (2 : Int) ^ 24 = 16777216 := by decide
  have p2 : (2 : Int) ^ 16 = 65536 := by decide
  have p3 : (2 : Int) ^ 8 = 256 := by decide
  rw [p1] at e1; rw [p2] at e2; rw [p3] at e3
  rw [← e1, ← e2, ← e3]
  rfl
/- spec_SumMore -/
theorem spec_SumMore_eq (s : ByteArray) (b : Int) (hs : s.size ≤ 1048580) : g_spec_SumMore (b, s) = some (sumF (bl s) b) := by
  have inner : ∀ (d j : Nat), j + d = 8 → ∀ (b i r : Int), Ev (fun k => spec_SumMore_L2 k (rnds d b, s, wrap64 (i + 1), ())) r → Ev (fun k => spec_SumMore_L6 k (b, s, i, (j : Int), ())) r := by
    intro d
    induction d with
    | zero =>
      intro j hj b i r h
      refine Ev.step (fun q => by rw [spec_SumMore_L6]) ?_
      exact ev_neg (by omega) h
    | succ d ih =>
      intro j hj b i r h
      refine Ev.step (fun q => by rw [spec_SumMore_L6]) ?_
      refine ev_pos (by omega) (ev_neg (by omega) (ev_neg (by omega) (ev_dom (fun hc => ?_) (fun hc => ?_))))
      · rw [w64_succ (by omega)]
        refine ih (j + 1) (by omega) _ i r ?_
        have e : rnds (d + 1) b = rnds d (ixor .u32 (wr .u32 (Int.tdiv b 2)) 3558460437) := by
          show rnds d (rnd b) = _
          unfold rnd; rw [if_pos hc]
        rw [← e]; exact h
      · rw [w64_succ (by omega)]
        refine ih (j + 1) (by omega) _ i r ?_
        have e : rnds (d + 1) b = rnds d (wr .u32 (Int.tdiv b 2)) := by
          show rnds d (rnd b) = _
          unfold rnd; rw [if_neg hc]
        rw [← e]; exact h
  refine evG_eq ?_
  unfold spec_SumMore_
  refine bytes_loop s (fun k z i => spec_SumMore_L2 k (z, s, i, ())) sumF (fun z => ?_) (fun i z x rest hx hi h => ?_) b
  · refine Ev.step (fun q => by rw [spec_SumMore_L2]) ?_
    exact ev_neg (by omega) ev_some
  · refine Ev.step (fun q => by rw [spec_SumMore_L2]) ?_
    refine ev_pos (by omega) (ev_pos (by omega) (ev_pos (by omega) ?_))
    rw [byt_drop hx]
    refine inner 8 0 rfl _ _ _ ?_
    rw [w64_succ (by omega)]
    exact h _
/- spec_SumOf -/
theorem spec_SumOf_eq (s : ByteArray) (hs : s.size ≤ 1048580) : g_spec_SumOf s = some (sumOf s) := by
  unfold g_spec_SumOf spec_SumOf_
  simp only [spec_SumMore_eq s _ hs, Option.bind_some]
  rfl
/- spec_Sealed -/
theorem size_fourS (s : ByteArray) (v : Int) (hs : s.size ≤ 1048580) : ((s.size + (four v).size : Nat) : Int) ≤ 9223372036854775807 := by
  rw [four_size]
  omega
theorem spec_Sealed_eq (s : ByteArray) (hs : s.size ≤ 1048580) : g_spec_Sealed s = some (sealT s) := by
  have c2 := size_fourS s (sumOf s) hs
  show (if 20000 < ((ByteArray.size s : Nat) : Int) then some ((⟨#[]⟩ : ByteArray), false) else (g_spec_SumOf s).bind fun v0 => (g_spec_l02Four v0).bind fun v1 => if ((ByteArray.size s + ByteArray.size v1 : Nat) : Int) ≤ 9223372036854775807 then some ((s ++ v1), true) else none) = _
  rw [spec_SumOf_eq s hs, Option.bind_some, spec_l02Four_eq, Option.bind_some, if_pos c2]
  clear c2
  unfold sealT
  by_cases h : 20000 < s.size
  · have c : (20000 : Int) < ((s.size : Nat) : Int) := by omega
    rw [if_pos c, if_pos h]
  · have c : ¬ (20000 : Int) < ((s.size : Nat) : Int) := by omega
    rw [if_neg c, if_neg h]
/- spec_l01Var -/
theorem spec_l01Var_eq (n : Nat) (hn : n ≤ 9223372036854775807) : g_spec_l01Var (n : Int) = some (varT n) := by
  refine evG_eq ?_
  unfold spec_l01Var_
  have key : ∀ (n : Nat), n ≤ 9223372036854775807 → ∀ (l : List Int), l.length + (varL n).length ≤ 1000 → Ev (fun k => spec_l01Var_L2 k ((n : Int), l, ())) (bstr (l ++ (varL n).map fun (x : Nat) => (x : Int))) := by
    intro n
    induction n using varL.induct with
    | case1 n h =>
      intro hn l hl
      refine Ev.step (fun q => by rw [spec_l01Var_L2]) ?_
      have hv : varL n = [n] := by unfold varL; rw [dif_pos h]
      rw [hv] at hl
      refine ev_neg (by omega) (ev_pos (by simp only [List.length_singleton] at hl ⊢; omega) (ev_eq ?_))
      rw [hv]
      have : wr .u8 (n : Int) = (n : Int) := by rw [wr8]; omega
      rw [this]
      rfl
    | case2 n h ih =>
      intro hn l hl
      refine Ev.step (fun q => by rw [spec_l01Var_L2]) ?_
      have hv : varL n = (n % 128 + 128) :: varL (n / 128) := by
        conv => lhs; unfold varL
        rw [dif_neg h]
      rw [hv] at hl ⊢
      simp only [List.length_cons] at hl
      refine ev_pos (by omega) (ev_neg (by omega) (ev_pos (by simp only [List.length_singleton]; omega) (ev_neg (by omega) ?_)))
      have e1 : wrap64 (Int.tdiv (n : Int) 128) = ((n / 128 : Nat) : Int) := by
        have : Int.tdiv (n : Int) 128 = ((n / 128 : Nat) : Int) := by
          rw [Int.tdiv_eq_ediv_of_nonneg (by omega)]; omega
        rw [this]
        exact w64 (by omega) (by omega)
      have e2 : wr .u8 (wrap64 ((Int.tmod (n : Int) 128) + 128)) = ((n % 128 + 128 : Nat) : Int) := by
        have : Int.tmod (n : Int) 128 = ((n % 128 : Nat) : Int) := by
          rw [Int.tmod_eq_emod_of_nonneg (by omega)]; omega
        rw [this, w64 (by omega) (by omega), wr8]
        omega
      rw [e1, e2]
      have := ih (by omega) (l ++ [((n % 128 + 128 : Nat) : Int)]) (by simp only [List.length_append, List.length_singleton]; omega)
      rw [List.append_assoc] at this
      exact this
  have h10 := varT_size hn
  unfold varT at h10
  rw [size_bstr, List.length_map] at h10
  exact key n hn [] (by simp only [List.length_nil]; omega)
/- spec_OrderText -/
theorem spec_OrderText_eq (o : Order) : g_spec_OrderText o = some (orderT o) := by
  obtain ⟨a, b, c, x⟩ := o
  unfold g_spec_OrderText spec_OrderText_ orderT
  simp only [spec_OrderOk_eq, Option.bind_some]
  by_cases h : orderOk (a, b, c, x) = true
  · rw [if_pos h, if_pos h]
    have hp := orderOk_den h
    unfold OrderOkP at hp
    have hb : 0 ≤ b ∧ b ≤ 1000000 := by omega
    have hc : 0 ≤ c ∧ c ≤ 1000000 := by omega
    have hx : 0 ≤ x ∧ x ≤ 1000000 := by omega
    clear hp h
    obtain ⟨nb, rfl⟩ := Int.eq_ofNat_of_zero_le hb.1
    obtain ⟨nc, rfl⟩ := Int.eq_ofNat_of_zero_le hc.1
    obtain ⟨nx, rfl⟩ := Int.eq_ofNat_of_zero_le hx.1
    have e1 := spec_l01Var_eq nb (by omega)
    have e2 := spec_l01Var_eq nc (by omega)
    have e3 := spec_l01Var_eq nx (by omega)
    have s1 := varT_size (n := nb) (by omega)
    have s2 := varT_size (n := nc) (by omega)
    have s3 := varT_size (n := nx) (by omega)
    unfold otext
    simp only [e1, e2, e3, Option.bind_some, Int.toNat_natCast]
    clear e1 e2 e3
    generalize varT nb = B at *
    generalize varT nc = C at *
    generalize varT nx = X at *
    have s0 : (bstr [wr .u8 a]).size = 1 := by rw [size_bstr]; rfl
    generalize bstr [wr .u8 a] = A at *
    have c1 : ((A.size + B.size : Nat) : Int) ≤ 9223372036854775807 := by omega
    have c2 : (((A ++ B).size + C.size : Nat) : Int) ≤ 9223372036854775807 := by rw [size_append]; omega
    have c3 : (((A ++ B ++ C).size + X.size : Nat) : Int) ≤ 9223372036854775807 := by rw [size_append, size_append]; omega
    rw [if_pos c1, if_pos c2, if_pos c3]
    have hz : (A ++ B ++ C ++ X).size ≤ 1048580 := by rw [size_append, size_append, size_append]; omega
    rw [spec_Sealed_eq _ hz]
    rfl
  · rw [if_neg h, if_neg h]
/- spec_ReadVar -/
-- needs: impl_ReadVar
theorem tmod128 (c : Nat) : Int.tmod (c : Int) 128 = ((c % 128 : Nat) : Int) := by
  rw [Int.tmod_eq_emod_of_nonneg (by omega)]; omega
theorem w64_le (c : Nat) (h : c ≤ 34359738368) : wrap64 (c : Int) = (c : Int) := w64 (by omega) (by omega)
theorem lt128 {c : Nat} (h : ¬ 127 < c) : (c : Int) < 128 := by omega
theorem le_128 {c : Nat} (h : 127 < c) : ¬ (c : Int) < 128 := by omega
set_option maxHeartbeats 60000 in
theorem spec_ReadVar_eq (s : ByteArray) (i : Int) (hs : s.size ≤ 1048580) : g_spec_ReadVar (s, i) = some (readV s i) := by
  refine evG_eq ?_
  unfold spec_ReadVar_ readV
  refine ev_bind (spec_l01In_eq _ _ _) ?_
  by_cases h : 0 ≤ i ∧ i ≤ (s.size : Int)
  case neg =>
    rw [if_neg h]
    exact ev_neg (by simpa using h) ev_some
  rw [if_pos h]
  refine ev_pos (by simp [h]) ?_
  obtain ⟨a, rfl⟩ := Int.eq_ofNat_of_zero_le h.1
  have ha : a ≤ s.size := by omega
  rw [Int.toNat_natCast]
  have ea5 : wrap64 ((a : Int) + 5) = ((a + 5 : Nat) : Int) := by
    rw [w64 (by omega) (by omega)]; omega
  have key : ∀ (f j n : Nat), j + f = 5 → n < 128 ^ j → n = accV (bytN s a j) 0 → (∀ x ∈ bytN s a j, 128 ≤ x ∧ x ≤ 255) → Ev (fun k => spec_ReadVar_L6 (fun _ => g_spec_l01In) (fun _ => g_spec_l01Var) k (s, (a : Int), (n : Int), ((128 ^ j : Nat) : Int), ((a + j : Nat) : Int), ())) (rdv s a f j n) := by
    intro f
    induction f with
    | zero =>
      intro j n hj hn _ _
      refine Ev.step (fun q => by rw [spec_ReadVar_L6]) ?_
      rw [ea5]
      refine ev_dom (fun _ => ?_) (fun _ => ev_some)
      exact ev_neg (by omega) ev_some
    | succ f ih =>
      intro j n hj hn hacc hall
      have hc := byN_le s (a + j)
      have hst := readV_step j n (byN s (a + j) % 128) (by omega) hn
      have hB := Nat.lt_of_lt_of_le hst (readV_le (j + 1) (by omega))
      have hP := readV_le j (by omega)
      have hvp := fun h1 h2 => varT_part s a j n h1 hacc hall h2
      have hih := fun (h : 127 < byN s (a + j)) => ih (j + 1) (n + byN s (a + j) % 128 * 128 ^ j) (by omega) hst (by
        have e3 : bytN s a (j + 1) = bytN s a j ++ [byN s (a + j)] := rfl
        rw [e3, accV_snoc, accV_add, bytN_len, ← hacc]
        rfl) (fun x hx => by
          rcases List.mem_append.1 hx with hx | hx
          · exact hall x hx
          · rw [List.mem_singleton] at hx
            omega)
      have ec : wrap64 ((byN s (a + j) : Nat) : Int) = ((byN s (a + j) : Nat) : Int) := w64_le _ (Nat.le_trans hc (by decide))
      have em : Int.tmod ((byN s (a + j) : Nat) : Int) 128 = ((byN s (a + j) % 128 : Nat) : Int) := tmod128 _
      have ep0 : ((byN s (a + j) % 128 : Nat) : Int) * ((128 ^ j : Nat) : Int) = ((byN s (a + j) % 128 * 128 ^ j : Nat) : Int) := (Int.natCast_mul _ _).symm
      have e3 : ((128 ^ (j + 1) : Nat) : Int) = ((128 ^ j : Nat) : Int) * 128 := by rw [Nat.pow_succ, Int.natCast_mul]; rfl
      unfold rdv
      clear hst ih hn hacc hall
      refine Ev.step (fun q => by rw [spec_ReadVar_L6]) ?_
      rw [ea5, byt_byN, ec, em, ep0]
      rw [e3] at hih
      clear ec em ep0 e3
      generalize byN s (a + j) % 128 * 128 ^ j = M at *
      generalize 128 ^ j = P at *
      generalize byN s (a + j) = c at *
      have ep : wrap64 (M : Int) = (M : Int) := w64 (by omega) (by omega)
      have en : wrap64 ((n : Int) + (M : Int)) = ((n + M : Nat) : Int) := by
        rw [w64 (by omega) (by omega)]; omega
      have e2 : wrap64 ((P : Int) * 128) = (P : Int) * 128 := w64 (by omega) (by omega)
      have e1 : wrap64 (((a + j : Nat) : Int) + 1) = ((a + j + 1 : Nat) : Int) := w64_succ (by omega)
      rw [ep, en, e2, e1]
      generalize n + M = N at *
      have f5 : N ≤ 9223372036854775807 := Nat.le_of_lt (Nat.lt_of_lt_of_le hB (by decide))
      clear hB hP ep en e2 e1
      by_cases hlt : a + j < s.size
      case neg =>
        rw [if_neg hlt]
        exact ev_neg (by omega) ev_some
      rw [if_pos hlt]
      refine ev_pos (by omega) ?_
      refine ev_pos (by omega) ?_
      refine ev_pos (by omega) ?_
      refine ev_pos (by omega) ?_
      refine ev_neg (by omega) ?_
      refine ev_pos (by omega) ?_
      refine ev_pos (by omega) ?_
      by_cases h127 : 127 < c
      · rw [if_pos h127]
        exact ev_neg (le_128 h127) (hih h127)
      · rw [if_neg h127]
        clear hih
        have hvp := hvp hlt (Nat.le_of_not_lt h127)
        refine ev_pos (lt128 h127) ?_
        have f1 : 0 ≤ ((a + j + 1 : Nat) : Int) := by omega
        have f2 : ((a + j + 1 : Nat) : Int) ≤ (s.size : Int) := by omega
        have f3 : 0 ≤ (a : Int) := by omega
        have f4 : (a : Int) ≤ ((a + j + 1 : Nat) : Int) := by omega
        by_cases hb : 1000000000 < N
        · have hyes : (0 < j ∧ c = 0) ∨ 1000000000 < N := .inr hb
          rw [if_pos hyes]
          exact ev_pos (Int.ofNat_lt.2 hb) ev_some
        · refine ev_neg (fun q => hb (Int.ofNat_lt.1 q)) ?_
          refine ev_pos f1 (ev_pos f2 (ev_pos f3 (ev_pos f4 ?_)))
          refine ev_bind (spec_l01Var_eq N f5) ?_
          rw [Int.toNat_natCast, Int.toNat_natCast]
          by_cases hz : 0 < j ∧ c = 0
          · have hyes : (0 < j ∧ c = 0) ∨ 1000000000 < N := .inl hz
            rw [if_pos hyes]
            exact ev_neg (fun q => hvp.1 q hz) ev_some
          · have hng : ¬ ((0 < j ∧ c = 0) ∨ 1000000000 < N) := by
              rintro (q | q)
              · exact hz q
              · exact hb q
            rw [if_neg hng]
            exact ev_pos (hvp.2 hz) ev_some
  exact key 5 0 0 rfl (by decide) rfl (fun x hx => by cases hx)
/- spec_l11Var -/
theorem spec_l11Var_eq (s : ByteArray) (i : Int) (b : Bool) (hs : s.size ≤ 1048580) : g_spec_l11Var (s, i, b) = some (numberF (s, i, b)) := by
  unfold g_spec_l11Var spec_l11Var_ numberF
  simp only [spec_ReadVar_eq s i hs, Option.bind_some]
  split
  · rfl
  · split <;> rfl
/- spec_Unsealed -/
theorem spec_Unsealed_eq (t : ByteArray) (hs : t.size ≤ 1048580) : g_spec_Unsealed t = some (unsealT t) := by
  unfold g_spec_Unsealed spec_Unsealed_ unsealT
  have hw : wrap64 (((t.size : Nat) : Int) - 4) = ((t.size : Nat) : Int) - 4 := w64 (by omega) (by omega)
  simp only [hw]
  by_cases h : t.size < 4
  · have c : ((t.size : Nat) : Int) - 4 < 0 := by omega
    rw [if_pos c, if_pos h]
  · have c : ¬ ((t.size : Nat) : Int) - 4 < 0 := by omega
    have c1 : 0 ≤ ((t.size : Nat) : Int) - 4 := by omega
    have c2 : ((t.size : Nat) : Int) - 4 ≤ ((t.size : Nat) : Int) := by omega
    have hf := front_size t
    rw [if_neg c, if_neg h]
    by_cases h2 : 20000 < (front t).size
    · have h3 : ¬ ((front t).size ≤ 20000 ∧ front t ++ four (sumOf (front t)) = t) := by omega
      have c3 : 20000 < ((t.size : Nat) : Int) - 4 := by omega
      rw [if_pos c3, if_neg h3]
    · have c3 : ¬ 20000 < ((t.size : Nat) : Int) - 4 := by omega
      have e0 : (Int.toNat (((t.size : Nat) : Int) - 4)) = t.size - 4 := by omega
      have e : ByteArray.extract t (Int.toNat 0) (t.size - 4) = front t := rfl
      have e1 : Int.toNat ((t.size : Nat) : Int) = t.size := rfl
      have hq := spec_SumOf_eq (front t) (by omega)
      simp only [c1, c2, c3, if_true, if_false, e0, e1, e, hq, Option.bind_some, spec_l02Four_eq]
      by_cases h3 : front t ++ four (sumOf (front t)) = t
      · have h4 : (front t).size ≤ 20000 ∧ front t ++ four (sumOf (front t)) = t := ⟨by omega, h3⟩
        rw [if_pos h4, if_pos ((tail_eq t _).2 h3)]
      · have h4 : ¬ ((front t).size ≤ 20000 ∧ front t ++ four (sumOf (front t)) = t) := fun q => h3 q.2
        rw [if_neg h4, if_neg (fun q => h3 ((tail_eq t _).1 q))]
/- spec_ReadOrder -/
-- needs: impl_ReadOrder
theorem spec_ReadOrder_eq (t : ByteArray) (hs : t.size ≤ 1048580) : g_spec_ReadOrder t = some (readO t) := by
  unfold g_spec_ReadOrder spec_ReadOrder_ readO
  simp only [spec_Unsealed_eq t hs, Option.bind_some]
  by_cases hu : (unsealT t).2 = true
  case neg =>
    rw [if_neg hu, if_neg (fun q => hu q.1)]
  obtain ⟨hz, hj⟩ := unsealT_ok hu
  rw [if_pos hu]
  generalize (unsealT t).1 = s at hz hj
  by_cases h0 : 0 < s.size
  case neg =>
    have c0 : ((s.size : Nat) : Int) < 1 := by omega
    rw [if_pos c0, if_neg (fun q => h0 q.2)]
  have c1 : ¬ ((s.size : Nat) : Int) < 1 := by omega
  have c0 : (0 : Int) < ((s.size : Nat) : Int) := by omega
  rw [if_neg c1, if_pos (Nat.le_refl 0), if_pos c0, if_pos ⟨hu, h0⟩]
  have k1 := numberF_keep (s, 1, false)
  have k2 := numberF_keep (numberF (s, 1, false)).2
  have e1 := spec_l11Var_eq s 1 false (by omega)
  have e2 : g_spec_l11Var (numberF (s, 1, false)).2 = some (numberF (numberF (s, 1, false)).2) := by
    have h : (numberF (s, 1, false)).2.1.size ≤ 1048580 := by rw [k1]; show s.size ≤ _; omega
    exact spec_l11Var_eq _ _ _ h
  have e3 : g_spec_l11Var (numberF (numberF (s, 1, false)).2).2 = some (numberF (numberF (numberF (s, 1, false)).2).2) := by
    have h : (numberF (numberF (s, 1, false)).2).2.1.size ≤ 1048580 := by rw [k2, k1]; show s.size ≤ _; omega
    exact spec_l11Var_eq _ _ _ h
  simp only [e1, e2, e3, Option.bind_some, w64_byt, spec_OrderText_eq]
  by_cases hb : (numberF (numberF (numberF (s, 1, false)).2).2).2.2.2 = true
  · rw [if_pos hb, if_pos hb]
  · rw [if_neg hb, if_neg hb]
    have hb' : (numberF (numberF (numberF (s, 1, false)).2).2).2.2.2 = false := by simpa using hb
    obtain ⟨N1, N2, N3, e, r1, r2, r3, r4, le, tx⟩ := numberF_three h0 hb'
    rw [r1, r2, r3, r4]
    unfold orderT
    by_cases hk : orderOk (byt s 0, (N1 : Int), (N2 : Int), (N3 : Int)) = true
    · rw [if_pos hk, tx]
      obtain ⟨g1, g2⟩ := seal_same s e hz le
      rw [hj] at g2
      rw [if_pos g1]
      by_cases he : e = s.size
      · have hc : (e : Int) = ((s.size : Nat) : Int) ∧ orderOk (byt s 0, (N1 : Int), (N2 : Int), (N3 : Int)) = true := ⟨by omega, hk⟩
        rw [if_pos (g2.2 he), if_pos hc]
      · have hc : ¬ ((e : Int) = ((s.size : Nat) : Int) ∧ orderOk (byt s 0, (N1 : Int), (N2 : Int), (N3 : Int)) = true) := fun q => he (by have := q.1; omega)
        rw [if_neg (fun q => he (g2.1 q)), if_neg hc]
    · have hc : ¬ ((e : Int) = ((s.size : Nat) : Int) ∧ orderOk (byt s 0, (N1 : Int), (N2 : Int), (N3 : Int)) = true) := fun q => hk q.2
      rw [if_neg hk, if_neg hc]
      rfl
/- spec_MenuNew -/
theorem spec_MenuNew_eq : g_spec_MenuNew () = some menuNew := rfl
/- spec_l17Number -/
theorem spec_l17Number_eq (s : ByteArray) (hs : s.size ≤ 1048580) : g_spec_l17Number s = some (num s) := by
  refine evG_eq ?_
  unfold spec_l17Number_ num
  refine bytes_loop s (fun k z i => spec_l17Number_L3 k (s, z, i, ())) numF (fun z => ?_) (fun i z x rest hx hi h => ?_) 0
  · refine Ev.step (fun q => by rw [spec_l17Number_L3]) ?_
    exact ev_neg (by omega) ev_some
  · refine Ev.step (fun q => by rw [spec_l17Number_L3]) ?_
    refine ev_pos (by omega) (ev_pos (by omega) (ev_pos (by omega) ?_))
    have e : wrap64 (wr .u8 ((x.toNat : Int) - 48)) = ((x.toNat : Int) - 48) % 256 := by rw [wr8]; exact w64 (by omega) (by omega)
    rw [byt_drop hx, w64_succ (by omega), e]
    exact h _
/- spec_MenuOk -/
theorem spec_MenuOk_eq (a : Int) (b : Bool) (n d : Int) (s : ByteArray) (hs : s.size ≤ 1048580) : g_spec_MenuOk (a, b, n, d, s) = some (menuOk (a, b, n, d, s)) := by
  refine evG_eq ?_
  show Ev _ (decide (MenuOkP a b n d s))
  unfold spec_MenuOk_
  have hloop : Ev (fun k => spec_MenuOk_L4 (fun _ => g_spec_l01In) k (0, a, b, n, d, s, ())) (digitsOk (bl s) && decide (a = 1 → s.size = 0 ∧ b = false ∧ n = 0 ∧ d = 0)) := by
    refine bytes_loop s (fun k (_ : Unit) i => spec_MenuOk_L4 (fun _ => g_spec_l01In) k (i, a, b, n, d, s, ())) (fun r _ => digitsOk r && decide (a = 1 → s.size = 0 ∧ b = false ∧ n = 0 ∧ d = 0)) (fun _ => ?_) (fun i _ x rest hx hi h => ?_) ()
    · refine Ev.step (fun q => by rw [spec_MenuOk_L4]) ?_
      refine ev_neg (by omega) (ev_eq ?_)
      show _ = some (digitsOk [] && _)
      rw [show digitsOk [] = true from rfl, Bool.true_and]
      simp only [eq_empty]
      cases b with
      | false =>
        repeat' refine ite_r (fun _ => ?_) (fun _ => ?_)
        all_goals first
          | exact absurd (by assumption) Bool.false_ne_true
          | exact dec_yes (fun q => by first | (exfalso; omega) | exact ⟨by omega, rfl, by omega, by omega⟩)
          | exact dec_no (fun q => by have := q (by omega); omega)
          | (refine eq_dec ?_; rw [decide_eq_true_iff]; exact ⟨fun h q => ⟨by omega, rfl, by omega, h⟩, fun q => (q (by omega)).2.2.2⟩)
      | true =>
        repeat' refine ite_r (fun _ => ?_) (fun _ => ?_)
        all_goals first
          | exact absurd rfl (by assumption)
          | exact dec_yes (fun q => by exfalso; omega)
          | exact dec_no (fun q => by have := (q (by omega)).2.1; cases this)
    · refine Ev.step (fun q => by rw [spec_MenuOk_L4]) ?_
      refine ev_pos (by omega) (ev_pos (by omega) (ev_pos (by omega) ?_))
      rw [byt_drop hx, w64_succ (by omega)]
      by_cases h1 : (x.toNat : Int) < 48
      · refine ev_pos h1 (Ev.cast ev_some ?_)
        rw [digitsOk_cons, decide_eq_false (p := 48 ≤ (x.toNat : Int) ∧ (x.toNat : Int) ≤ 57) (by omega)]; rfl
      · refine ev_neg h1 (ev_pos (by omega) (ev_pos (by omega) ?_))
        by_cases h2 : 57 < (x.toNat : Int)
        · refine ev_pos h2 (Ev.cast ev_some ?_)
          rw [digitsOk_cons, decide_eq_false (p := 48 ≤ (x.toNat : Int) ∧ (x.toNat : Int) ≤ 57) (by omega)]; rfl
        · refine ev_neg h2 (Ev.cast (h ()) ?_)
          rw [digitsOk_cons, decide_eq_true (p := 48 ≤ (x.toNat : Int) ∧ (x.toNat : Int) ≤ 57) (by omega), Bool.true_and]
  have no : ¬ ((1 ≤ a ∧ a ≤ 4) ∧ (0 ≤ n ∧ n ≤ 9999) ∧ (0 ≤ d ∧ d ≤ 9999) ∧ s.size ≤ 4) → false = decide (MenuOkP a b n d s) := fun h => by
    rw [decide_eq_false]
    unfold MenuOkP
    exact fun q => h ⟨q.2.1, q.2.2.1, q.2.2.2.1, q.2.2.2.2.1⟩
  refine ev_bind (spec_l01In_eq _ _ _) (ev_dom (fun h1 => ?_) (fun h1 => Ev.cast ev_some (no fun q => h1 (decide_eq_true q.1))))
  refine ev_bind (spec_l01In_eq _ _ _) (ev_dom (fun h2 => ?_) (fun h2 => Ev.cast ev_some (no fun q => h2 (decide_eq_true q.2.1))))
  refine ev_bind (spec_l01In_eq _ _ _) (ev_dom (fun h3 => ?_) (fun h3 => Ev.cast ev_some (no fun q => h3 (decide_eq_true q.2.2.1))))
  refine ev_dom (fun h4 => Ev.cast ev_some (no fun q => by omega)) (fun h4 => Ev.cast hloop ?_)
  rw [decide_eq_true_iff] at h1 h2 h3
  rw [Bool.eq_iff_iff]
  refine Iff.trans ?_ decide_eq_true_iff.symm
  rw [Bool.and_eq_true, decide_eq_true_iff]
  unfold MenuOkP
  constructor
  · rintro ⟨q1, q2⟩; exact ⟨q1, h1, h2, h3, by omega, q2⟩
  · rintro ⟨q1, _, _, _, _, q2⟩; exact ⟨q1, q2⟩
/- spec_Press -/
theorem spec_Press_eq (a : Int) (b : Bool) (n d : Int) (s : ByteArray) (c : Int) (hs : s.size ≤ 1048580) : g_spec_Press ((a, b, n, d, s), c) = some (press (a, b, n, d, s) c) := by
  unfold g_spec_Press spec_Press_ press
  simp only [spec_MenuOk_eq a b n d s hs, spec_l17Number_eq s hs, spec_OrderOk_eq, spec_MenuNew_eq, Option.bind_some, wr8, size_bstr]
  have enter : (if a = 2 then some (((3, b, num s, d, ⟨#[]⟩) : Menu), ((0, 0, 0, 0) : Order), false)
        else if a = 3 then some ((4, b, n, num s, ⟨#[]⟩), (0, 0, 0, 0), false)
        else if b = true then (if orderOk (2, 0, 0, num s) = true then some (menuNew, (2, 0, 0, num s), true) else some (menuNew, (0, 0, 0, 0), false))
        else (if orderOk (1, n, d, num s) = true then some (menuNew, (1, n, d, num s), true) else some (menuNew, (0, 0, 0, 0), false))) = some (if a = 2 then ((3, b, num s, d, ⟨#[]⟩), (0, 0, 0, 0), false)
        else if a = 3 then ((4, b, n, num s, ⟨#[]⟩), (0, 0, 0, 0), false)
        else if b = true then sent 2 0 0 (num s)
        else sent 1 n d (num s)) := by
    unfold sent
    repeat' split
    all_goals rfl
  refine ite_r (fun h => ?_) (fun h => ?_)
  · rw [if_pos h]
    refine ite_r (fun h1 => ?_) (fun h1 => ?_)
    · rw [if_pos h1]
      unfold g_spec_l17Top spec_l17Top_
      simp only []
      repeat' split
      all_goals rfl
    · rw [if_neg h1]
      refine ite_r (fun h48 => ?_) (fun h48 => ?_)
      · refine ite_r (fun h57 => ?_) (fun h57 => ?_)
        · rw [if_neg (show ¬ c = 10 by omega), if_neg (show ¬ c = 99 by omega)]
          refine ite_r (fun h5 => ?_) (fun h5 => ?_)
          · rw [if_pos (show ((s.size + List.length [c % 256] : Nat) : Int) ≤ 9223372036854775807 by simp only [List.length_singleton]; omega), if_pos (show (48 ≤ c ∧ c ≤ 57) ∧ s.size < 4 from ⟨⟨h48, h57⟩, by omega⟩)]
          · rw [if_neg (show ¬ ((48 ≤ c ∧ c ≤ 57) ∧ s.size < 4) from fun q => h5 (by omega))]
        · refine ite_r (fun h99 => ?_) (fun h99 => ?_)
          · rw [if_neg (show ¬ c = 10 by omega), if_pos h99]
          · refine ite_r (fun h10 => ?_) (fun h10 => ?_)
            · omega
            · rw [if_neg h10, if_neg h99, if_neg (show ¬ ((48 ≤ c ∧ c ≤ 57) ∧ s.size < 4) from fun q => h57 q.1.2)]
      · refine ite_r (fun h99 => ?_) (fun h99 => ?_)
        · omega
        · refine ite_r (fun h10 => ?_) (fun h10 => ?_)
          · rw [if_pos h10]
            exact enter
          · rw [if_neg h10, if_neg h99, if_neg (show ¬ ((48 ≤ c ∧ c ≤ 57) ∧ s.size < 4) from fun q => h48 q.1.1)]
  · rw [if_neg h]
/- spec_PressAll -/
theorem spec_PressAll_eq (m : Menu) (s : ByteArray) (hm : m.2.2.2.2.size ≤ 1048580) (hs : s.size ≤ 1048580) : g_spec_PressAll (m, s) = some (pressAll m s) := by
  refine evG_eq ?_
  have key : ∀ (z8 : Int) (z9 : Bool) (z10 z11 : Int) (z12 : ByteArray) (i : Nat), i ≤ (bl s).length → ∀ q : Menu × List Order, q.1.2.2.2.2.size ≤ 1048580 → q.2.length ≤ i →
      Ev (fun k => spec_PressAll_L3 (fun _ => g_spec_Press) k (s, (i : Int), q.1.1, q.1.2.1, q.1.2.2.1, q.1.2.2.2.1, q.1.2.2.2.2, z8, z9, z10, z11, z12, q.2, ())) (pressL ((bl s).drop i) q.1 q.2) := by
    intro z8 z9 z10 z11 z12 i hi
    obtain ⟨d, hd⟩ : ∃ d, d = (bl s).length - i := ⟨_, rfl⟩
    have hbl := bl_len s
    induction d generalizing i with
    | zero =>
      intro q _ _
      have e : i = (bl s).length := by omega
      rw [List.drop_of_length_le (by omega)]
      refine Ev.step (fun w => by rw [spec_PressAll_L3]) ?_
      exact ev_neg (by omega) ev_some
    | succ d ih =>
      intro q h1 h2
      have hlt : i < (bl s).length := by omega
      have hc : (bl s).drop i = (bl s)[i] :: (bl s).drop (i + 1) := List.drop_eq_getElem_cons hlt
      have hx := u8_range ((bl s)[i])
      rw [hc]
      refine Ev.step (fun q => by rw [spec_PressAll_L3]) ?_
      refine ev_pos (by omega) (ev_pos (by omega) (ev_pos (by omega) ?_))
      rw [byt_drop hc, w64 (n := (((bl s)[i]).toNat : Int)) (by omega) (by omega), w64_succ (by omega)]
      refine ev_bind (spec_Press_eq _ _ _ _ _ _ h1) ?_
      have hp := press_digits q.1 (((bl s)[i]).toNat : Int) h1
      unfold pressL
      refine ev_dom (fun h => ?_) (fun h => ?_)
      · rw [if_pos h]
        refine ev_pos (by simp only [List.length_singleton]; omega) ?_
        exact ih (i + 1) (by omega) (by omega) ((press q.1 (((bl s)[i]).toNat : Int)).1, q.2 ++ [(press q.1 (((bl s)[i]).toNat : Int)).2.1]) hp (by simp only [List.length_append, List.length_singleton]; omega)
      · rw [if_neg h]
        exact ih (i + 1) (by omega) (by omega) ((press q.1 (((bl s)[i]).toNat : Int)).1, q.2) hp (by show q.2.length ≤ i + 1; omega)
  obtain ⟨a, b, n, d, t⟩ := m
  exact key 0 false 0 0 ⟨#[]⟩ 0 (by omega) ((a, b, n, d, t), []) hm (Nat.le_refl _)
/- spec_InOk -/
theorem spec_InOk_eq (i : In) : g_spec_InOk i = some (inOk i) := by
  obtain ⟨a, s, t⟩ := i
  unfold g_spec_InOk spec_InOk_ inOk
  simp only [spec_SenseOk_eq, Option.bind_some]
  by_cases h : senseOk a = true
  · rw [if_pos h, h, Bool.true_and]
    by_cases h1 : s.size ≤ 20
    · rw [if_pos (by omega), decide_eq_true h1, Bool.true_and]
      congr 1
      by_cases h2 : t.size ≤ 40
      · rw [decide_eq_true h2, decide_eq_true (by omega)]
      · rw [decide_eq_false h2, decide_eq_false (by omega)]
    · rw [if_neg (by omega), decide_eq_false h1, Bool.false_and]
  · rw [if_neg h, Bool.eq_false_iff.2 h, Bool.false_and]
/- spec_DeviceOk -/
theorem spec_DeviceOk_eq (p : Pump) (past : List Int) (alarm : Int) (m : Menu) (ts : List Tick) (ref : Int) (h1 : past.length ≤ 9223372036854775806) (h2 : m.2.2.2.2.size ≤ 1048580) : g_spec_DeviceOk (dev p past alarm m ts ref) = some (deviceOk p past alarm m ts ref) := by
  obtain ⟨s, n, e, r, l, b, g, k⟩ := p
  obtain ⟨a, bo, nu, de, di⟩ := m
  unfold g_spec_DeviceOk spec_DeviceOk_ dev deviceOk
  simp only [spec_PumpOk_eq, spec_GuardOk_eq past alarm h1, spec_MenuOk_eq a bo nu de di h2, spec_l01In_eq, Option.bind_some]
  cases pumpOk (s, n, e, r, l, b, g, k) with
  | false => simp
  | true =>
    cases guardOk past alarm with
    | false => simp
    | true =>
      cases menuOk (a, bo, nu, de, di) with
      | false => simp
      | true =>
        simp only [if_true, Bool.true_and]
        by_cases h : (ts.length : Int) ≤ 200
        · rw [if_pos h, decide_eq_true (show ts.length ≤ 200 by omega), Bool.true_and]
        · rw [if_neg h, decide_eq_false (show ¬ ts.length ≤ 200 by omega), Bool.false_and]
/- spec_l18Copy -/
theorem spec_l18Copy_eq (p : Pump) (past : List Int) (alarm : Int) (m : Menu) (ts : List Tick) (ref : Int) (h1 : past.length ≤ 1048580) (h2 : ts.length ≤ 1048580) : g_spec_l18Copy (dev p past alarm m ts ref) = some (dev p past alarm m ts ref) := by
  have e := spec_l16Copy_eq past alarm (by omega)
  unfold g_spec_l18Copy spec_l18Copy_ dev
  simp only [e, Option.bind_some, List.nil_append, List.length_nil]
  have c : (((0 + ts.length : Nat) : Int) * ((24 : Nat) : Int)) ≤ 140737488355328 := by omega
  rw [if_pos c]
/- spec_TickDevice -/
theorem takeL_shift : ∀ (os : List Order) (p : Pump) (r : Int), takeL os p (r + 1) = ((takeL os p r).1, (takeL os p r).2 + 1)
  | [], _, _ => rfl
  | o :: os, p, r => by
    unfold takeL
    by_cases h : (takeO p o).2 = true
    · rw [if_pos h, if_pos h]
      exact takeL_shift os _ r
    · rw [if_neg h, if_neg h]
      exact takeL_shift os _ (r + 1)
def finS (past : List Int) (alarm : Int) (m' : Menu) (ts : List Tick) (b : Int) (sn : Bool) (q : Pump) (r : Int) : Device :=
  dev (tickP q past (feel past alarm b sn)) (pass past (feel past alarm b sn) (allow past (feel past alarm b sn) (wants q))) (feel past alarm b sn) m' (ts ++ [(allow past (feel past alarm b sn) (wants q), feel past alarm b sn, (tickP q past (feel past alarm b sn)).1)]) r
set_option maxHeartbeats 2000000 in
theorem spec_TickDevice_eq (p : Pump) (past : List Int) (alarm : Int) (m : Menu) (ts : List Tick) (ref : Int) (i : In) (hp : past.length ≤ 1048580) (hm : m.2.2.2.2.size ≤ 1048580) (ht : ts.length ≤ 1048580) :
    g_spec_TickDevice (dev p past alarm m ts ref, i) = some (tickD p past alarm m ts ref i) := by
  refine evG_eq ?_
  obtain ⟨a, b, n, d, s⟩ := m
  have hm : s.size ≤ 1048580 := hm
  have e1 := spec_l18Copy_eq p past alarm (a, b, n, d, s) ts ref hp ht
  have e2 := spec_DeviceOk_eq p past alarm (a, b, n, d, s) ts ref (by omega) hm
  have e3 := spec_InOk_eq i
  unfold spec_TickDevice_ tickD
  refine ev_bind e1 (ev_bind e2 ?_)
  by_cases hd : deviceOk p past alarm (a, b, n, d, s) ts ref = true
  case neg =>
    rw [if_neg (fun q => hd q.1)]
    exact ev_neg hd ev_some
  refine ev_pos hd (ev_bind e3 ?_)
  by_cases hi : inOk i = true
  case neg =>
    rw [if_neg (fun q => hi q.2.1)]
    exact ev_neg hi ev_some
  refine ev_pos hi ?_
  by_cases h2 : ts.length = 200
  case pos =>
    rw [if_neg (fun q => q.2.2.1 h2)]
    exact ev_pos (by omega) ev_some
  refine ev_neg (by omega) ?_
  by_cases h9 : ref ≤ 999999900
  case neg =>
    rw [if_neg (fun q => h9 q.2.2.2)]
    exact ev_pos (by omega) ev_some
  refine ev_neg (by omega) ?_
  rw [if_pos ⟨hd, hi, h2, h9⟩]
  obtain ⟨i1, i2, i3⟩ := inOk_den hi
  obtain ⟨q1, q2, q3, q4, q5, q6⟩ := deviceOk_den hd
  have e4 := spec_PressAll_eq (a, b, n, d, s) i.2.1 hm (by omega)
  have e5 := spec_ReadOrder_eq i.2.2 (by omega)
  have hlen := pressAll_len (a, b, n, d, s) i.2.1
  refine ev_bind e4 ?_
  have key : ∀ (os : List Order), os.length ≤ 1048580 → ∀ (m' : Menu) (d2 j : Nat), j + d2 = os.length → ∀ (sn : Bool) (q : Pump) (r : Int), 0 ≤ r → r ≤ 999999901 + (j : Int) →
      Ev (fun k => spec_TickDevice_L13 (fun _ => g_spec_Allow) (fun _ => g_spec_DeviceOk) (fun _ => g_spec_Feel) (fun _ => g_spec_Give) (fun _ => g_spec_InOk) (fun _ => g_spec_Pass) (fun _ => g_spec_PressAll) (fun _ => g_spec_ReadOrder) (fun _ => g_spec_Take) (fun _ => g_spec_Wants) (fun _ => g_spec_l18Copy) k
        (sn, (j : Int), past, ts, p.1, p.2.1, p.2.2.1, p.2.2.2.1, p.2.2.2.2.1, p.2.2.2.2.2.1, p.2.2.2.2.2.2.1, p.2.2.2.2.2.2.2, alarm, a, b, n, d, s, ref, i.1, i.2.1, i.2.2, 0, 0, 0, 0, 0, 0, 0, 0, 0, 0, false, 0, 0, (⟨#[]⟩ : ByteArray), 0, q.1, q.2.1, q.2.2.1, q.2.2.2.1, q.2.2.2.2.1, q.2.2.2.2.2.1, q.2.2.2.2.2.2.1, q.2.2.2.2.2.2.2, alarm, m'.1, m'.2.1, m'.2.2.1, m'.2.2.2.1, m'.2.2.2.2, r, os, [], [], past, ts, ()))
        (finS past alarm m' ts i.1 (sn || seenF (os.drop j)) (takeL (os.drop j) q r).1 (takeL (os.drop j) q r).2) := by
    intro os hos m' d2
    induction d2 with
    | zero =>
      intro j hj sn q r hr0 hr
      have ej : os.drop j = [] := List.drop_eq_nil_of_le (by omega)
      rw [ej]
      have e0 : (sn || seenF []) = sn := by cases sn <;> rfl
      rw [e0]
      simp only [takeL]
      refine Ev.step (fun w => by rw [spec_TickDevice_L13]) ?_
      refine ev_neg (by omega) (ev_bind (spec_Feel_eq past alarm i.1 sn (by omega)) (ev_bind (spec_Wants_eq q) (ev_bind (spec_Allow_eq past (feel past alarm i.1 sn) (wants q) (by omega)) (ev_dom (fun ha => ?_) (fun ha => ?_)))))
      · refine ev_bind (spec_Give_eq q _) (ev_bind (spec_Pass_eq past _ _ (by omega)) (ev_pos (by simp only [List.length_singleton]; omega) (ev_eq ?_)))
        have ha : feel past alarm i.1 sn = 0 := ha
        unfold finS tickP
        rw [if_pos ha]
        rfl
      · refine ev_bind (spec_Pass_eq past _ _ (by omega)) (ev_pos (by simp only [List.length_singleton]; omega) (ev_eq ?_))
        have ha : ¬ feel past alarm i.1 sn = 0 := ha
        unfold finS tickP
        rw [if_neg ha]
        rfl
    | succ d2 ih =>
      intro j hj sn q r hr0 hr
      have hlt : j < os.length := by omega
      have hc : os.drop j = os[j] :: os.drop (j + 1) := List.drop_eq_getElem_cons hlt
      rw [hc]
      simp only [takeL]
      have hsn : ∀ c : Bool, (sn || seenF (os[j] :: os.drop (j + 1))) = ((sn || decide (os[j].1 = 5)) || seenF (os.drop (j + 1))) := fun _ => by
        rw [Bool.or_assoc]; rfl
      rw [hsn true]
      refine Ev.step (fun w => by rw [spec_TickDevice_L13]) ?_
      refine ev_pos (by omega) (ev_pos (by omega) (ev_pos (by omega) ?_))
      rw [getD_drop hc, w64_succ (by omega)]
      refine ev_dom (fun h5 => ?_) (fun h5 => ?_)
      · have ht : takeO q os[j] = (q, true) := by unfold takeO; rw [if_pos h5]
        rw [decide_eq_true h5, Bool.or_true, ht]
        simp only [if_true]
        exact ih (j + 1) (by omega) true q r hr0 (by omega)
      · have ht : takeO q os[j] = take q os[j] := by unfold takeO; rw [if_neg h5]
        rw [decide_eq_false h5, Bool.or_false, ht]
        refine ev_pos (by omega) (ev_pos (by omega) (ev_bind (spec_Take_eq q os[j]) (ev_dom (fun hb => ?_) (fun hb => ?_))))
        · have hb : (take q os[j]).2 = true := hb
          rw [if_pos hb]
          exact ih (j + 1) (by omega) sn (take q os[j]).1 r hr0 (by omega)
        · have hb : ¬ (take q os[j]).2 = true := hb
          rw [if_neg hb]
          have ew : wrap64 (r + 1) = r + 1 := w64 (by omega) (by omega)
          simp only [ew]
          exact ih (j + 1) (by omega) sn (take q os[j]).1 (r + 1) (by omega) (by omega)
  unfold behind
  by_cases hz : i.2.2 = ⟨#[]⟩
  · have hz2 : i.2.2.size = 0 := (eq_empty _).1 hz
    have hk2 : ¬ (i.2.2.size ≠ 0 ∧ (readO i.2.2).2 = false) := fun w => w.1 hz2
    have ho : ordersOf (a, b, n, d, s) i = pressAll (a, b, n, d, s) i.2.1 := by
      unfold ordersOf
      rw [hz, readO_empty, if_neg (by simp)]
    rw [if_neg hk2, ho]
    refine ev_pos hz ?_
    exact key (pressAll (a, b, n, d, s) i.2.1).2 (by omega) (pressAll (a, b, n, d, s) i.2.1).1 _ 0 (Nat.zero_add _) false p ref q5 (by omega)
  · have hz2 : i.2.2.size ≠ 0 := fun w => hz ((eq_empty _).2 w)
    refine ev_neg hz (ev_bind e5 ?_)
    by_cases hk : (readO i.2.2).2 = true
    · have hk2 : ¬ (i.2.2.size ≠ 0 ∧ (readO i.2.2).2 = false) := fun w => by rw [hk] at w; cases w.2
      have ho : ordersOf (a, b, n, d, s) i = ((pressAll (a, b, n, d, s) i.2.1).1, (pressAll (a, b, n, d, s) i.2.1).2 ++ [(readO i.2.2).1]) := by
        unfold ordersOf
        rw [if_pos hk]
      rw [if_neg hk2, ho]
      refine ev_pos hk (ev_pos (by simp only [List.length_singleton]; omega) ?_)
      exact key ((pressAll (a, b, n, d, s) i.2.1).2 ++ [(readO i.2.2).1]) (by simp only [List.length_append, List.length_singleton]; omega) (pressAll (a, b, n, d, s) i.2.1).1 _ 0 (Nat.zero_add _) false p ref q5 (by omega)
    · have hk2 : i.2.2.size ≠ 0 ∧ (readO i.2.2).2 = false := ⟨hz2, by simpa using hk⟩
      have ho : ordersOf (a, b, n, d, s) i = pressAll (a, b, n, d, s) i.2.1 := by
        unfold ordersOf
        rw [if_neg hk]
      rw [if_pos hk2, ho]
      have hw : wrap64 (ref + 1) = ref + 1 := w64 (by omega) (by omega)
      have hsh := takeL_shift (pressAll (a, b, n, d, s) i.2.1).2 p ref
      have hkey := key (pressAll (a, b, n, d, s) i.2.1).2 (by omega) (pressAll (a, b, n, d, s) i.2.1).1 _ 0 (Nat.zero_add _) false p (ref + 1) (by omega) (by omega)
      rw [List.drop_zero, hsh] at hkey
      rw [← hw] at hkey
      exact ev_neg hk hkey
/- spec_PumpNew -/
theorem spec_PumpNew_eq : g_spec_PumpNew () = some (0, 0, 1, 0, 0, 0, 0, 0) := rfl
/- spec_DeviceNew -/
theorem spec_DeviceNew_eq : g_spec_DeviceNew () = some devNew := by
  unfold g_spec_DeviceNew spec_DeviceNew_
  have e1 := spec_MenuNew_eq
  have e2 := spec_PumpNew_eq
  simp only [e1, e2, Option.bind_some]
  rfl
/- spec_RunDevice -/
set_option maxHeartbeats 1000000 in
theorem spec_RunDevice_eq (l : List In) (hl : l.length ≤ 1048580) : g_spec_RunDevice l = some (runD l) := by
  refine evG_eq ?_
  unfold spec_RunDevice_
  have run : ∀ (d2 j : Nat), j + d2 = l.length → ∀ d : Device, DOk d →
      Ev (fun k => spec_RunDevice_L10 (fun _ => g_spec_DeviceNew) (fun _ => g_spec_InOk) (fun _ => g_spec_TickDevice) k ((j : Int), l, 0, 0, 0, 0, 0, 0, 0, 0, 0, 0, false, 0, 0, (⟨#[]⟩ : ByteArray), 0, d.1, d.2.1, d.2.2.1, d.2.2.2.1, d.2.2.2.2.1, d.2.2.2.2.2.1, d.2.2.2.2.2.2.1, d.2.2.2.2.2.2.2.1, d.2.2.2.2.2.2.2.2.2.1, d.2.2.2.2.2.2.2.2.2.2.1, d.2.2.2.2.2.2.2.2.2.2.2.1, d.2.2.2.2.2.2.2.2.2.2.2.2.1, d.2.2.2.2.2.2.2.2.2.2.2.2.2.1, d.2.2.2.2.2.2.2.2.2.2.2.2.2.2.1, d.2.2.2.2.2.2.2.2.2.2.2.2.2.2.2.2, [], [], d.2.2.2.2.2.2.2.2.1, d.2.2.2.2.2.2.2.2.2.2.2.2.2.2.2.1, ())) ((l.drop j).foldl tick d, true) := by
    intro d2
    induction d2 with
    | zero =>
      intro j hj d hd
      have ej : l.drop j = [] := List.drop_eq_nil_of_le (by omega)
      rw [ej]
      refine Ev.step (fun w => by rw [spec_RunDevice_L10]) ?_
      exact ev_neg (by omega) (ev_eq rfl)
    | succ d2 ih =>
      intro j hj d hd
      have hlt : j < l.length := by omega
      have hc : l.drop j = l[j] :: l.drop (j + 1) := List.drop_eq_getElem_cons hlt
      rw [hc]
      refine Ev.step (fun w => by rw [spec_RunDevice_L10]) ?_
      refine ev_pos (by omega) (ev_pos (by omega) (ev_pos (by omega) ?_))
      rw [getD_drop hc, w64_succ (by omega)]
      have hq : g_spec_TickDevice (d, l[j]) = some (tick d l[j]) := by
        obtain ⟨p, past, alarm, m, ts, ref, rfl, hk⟩ := hd
        obtain ⟨_, h2, h3, h4, _, _⟩ := deviceOk_den hk
        have h5 := menu_size h3
        have h6 := (guardOk_den h2).1
        rw [tick_dev]
        exact spec_TickDevice_eq p past alarm m ts ref l[j] (by omega) (by omega) (by omega)
      refine ev_bind hq ?_
      exact ih (j + 1) (by omega) (tick d l[j]) (hd.tick _)
  have all : ∀ (d2 j : Nat), j + d2 = l.length → ∀ ok : Bool,
      Ev (fun k => spec_RunDevice_L3 (fun _ => g_spec_DeviceNew) (fun _ => g_spec_InOk) (fun _ => g_spec_TickDevice) k (ok, (j : Int), l, 0, 0, 0, 0, 0, 0, 0, 0, 0, 0, false, 0, 0, (⟨#[]⟩ : ByteArray), 0, [], [], ())) (if (ok && (l.drop j).all inOk) = true then (l.foldl tick devNew, true) else (devZero, false)) := by
    intro d2
    induction d2 with
    | zero =>
      intro j hj ok
      have ej : l.drop j = [] := List.drop_eq_nil_of_le (by omega)
      rw [ej]
      refine Ev.step (fun w => by rw [spec_RunDevice_L3]) ?_
      cases ok with
      | true =>
        have ht : (true && ([] : List In).all inOk) = true := rfl
        rw [if_pos ht]
        exact ev_neg (by omega) (ev_pos rfl (ev_bind spec_DeviceNew_eq (run l.length 0 (by omega) devNew devNew_ok)))
      | false =>
        have ht : ¬ (false && ([] : List In).all inOk) = true := by simp
        rw [if_neg ht]
        exact ev_neg (by omega) (ev_neg (by simp) (ev_eq rfl))
    | succ d2 ih =>
      intro j hj ok
      have hlt : j < l.length := by omega
      have hc : l.drop j = l[j] :: l.drop (j + 1) := List.drop_eq_getElem_cons hlt
      rw [hc]
      refine Ev.step (fun w => by rw [spec_RunDevice_L3]) ?_
      cases ok with
      | true =>
        refine ev_pos (by omega) (ev_pos rfl (ev_pos (by omega) (ev_pos (by omega) ?_)))
        rw [getD_drop hc, w64_succ (by omega)]
        refine ev_bind (spec_InOk_eq l[j]) ?_
        have e : (true && (l[j] :: l.drop (j + 1)).all inOk) = (inOk l[j] && (l.drop (j + 1)).all inOk) := rfl
        rw [e]
        exact ih (j + 1) (by omega) (inOk l[j])
      | false =>
        have ht : ¬ (false && (l[j] :: l.drop (j + 1)).all inOk) = true := by simp
        rw [if_neg ht]
        exact ev_pos (by omega) (ev_neg (by simp) (ev_neg (by simp) (ev_eq rfl)))
  have h := all l.length 0 (by omega) (decide (((List.length l : Nat) : Int) ≤ 150))
  refine Ev.cast h ?_
  unfold runD
  rw [List.drop_zero]
  by_cases h1 : 150 < l.length
  · rw [if_pos h1, decide_eq_false (by omega), if_neg (by simp)]
  · rw [if_neg h1, decide_eq_true (by omega), Bool.true_and]
/- laws_szIn -/
theorem laws_szIn_eq (i : In) (a : Int) (h1 : i.2.1.size ≤ maxLen) (h2 : i.2.2.size ≤ maxLen) (ha : 0 ≤ a ∧ a ≤ 1048576) : g_laws_szIn (i, a) = some (if (i.2.1.size : Int) + (i.2.2.size : Int) ≤ a then a - (i.2.1.size : Int) - (i.2.2.size : Int) else -1) := by
  obtain ⟨b, s, t⟩ := i
  rw [maxLen_eq] at h1 h2
  unfold g_laws_szIn laws_szIn_
  simp only [] at h1 h2 ⊢
  rw [w64 (n := a - ((ByteArray.size s : Nat) : Int)) (by omega) (by omega)]
  by_cases h : (s.size : Int) ≤ a
  · rw [if_neg (by omega), w64 (by omega) (by omega)]
    by_cases g : (s.size : Int) + (t.size : Int) ≤ a
    · rw [if_neg (by omega), if_pos g]
    · rw [if_pos (by omega), if_neg g]
  · rw [if_pos (by omega), if_neg (by omega)]
/- laws_szInS -/
theorem laws_szInS_some (l : List In) (a : Int) (hl : l.length ≤ maxLen) (hg : ∀ x ∈ l, x.2.1.size ≤ maxLen ∧ x.2.2.size ≤ maxLen) (ha : 0 ≤ a ∧ a ≤ 1048576) :
    ∃ q, g_laws_szInS (l, a) = some q ∧ (q < 0 ∨ (0 ≤ q ∧ q ≤ a ∧ l.length ≤ 1048576 ∧ ∀ x ∈ l, x.2.1.size ≤ 1048576 ∧ x.2.2.size ≤ 1048576)) := by
  rw [maxLen_eq] at hl
  by_cases hn : (l.length : Int) ≤ a
  case neg =>
    refine ⟨-1, evG_eq ?_, .inl (by omega)⟩
    unfold laws_szInS_
    simp only []
    rw [w64 (n := a - ((List.length l : Nat) : Int)) (by omega) (by omega)]
    exact ev_pos (by omega) ev_some
  have key : ∀ (d j : Nat), j + d = l.length → ∀ a' : Int, 0 ≤ a' ∧ a' ≤ a → (∀ x ∈ l.take j, x.2.1.size ≤ 1048576 ∧ x.2.2.size ≤ 1048576) →
      ∃ q, Ev (fun k => laws_szInS_L5 (fun _ => g_laws_szIn) k (a', (j : Int), l, ())) q ∧ (q < 0 ∨ (0 ≤ q ∧ q ≤ a ∧ l.length ≤ 1048576 ∧ ∀ x ∈ l, x.2.1.size ≤ 1048576 ∧ x.2.2.size ≤ 1048576)) := by
    intro d
    induction d with
    | zero =>
      intro j hj a' ha' hx
      refine ⟨a', Ev.step (fun q => by rw [laws_szInS_L5]) (ev_neg (by omega) ev_some), .inr ⟨ha'.1, ha'.2, by omega, ?_⟩⟩
      rw [List.take_of_length_le (by omega)] at hx
      exact hx
    | succ d ih =>
      intro j hj a' ha' hx
      have hlt : j < l.length := by omega
      have hgj := hg l[j] (List.getElem_mem hlt)
      have e := laws_szIn_eq l[j] a' hgj.1 hgj.2 (by omega)
      by_cases hs : (l[j].2.1.size : Int) + (l[j].2.2.size : Int) ≤ a'
      · rw [if_pos hs] at e
        obtain ⟨q, h1, h2⟩ := ih (j + 1) (by omega) (a' - (l[j].2.1.size : Int) - (l[j].2.2.size : Int)) (by omega) (by
          rw [List.take_succ_eq_append_getElem hlt]
          intro x hm
          rcases List.mem_append.1 hm with hm | hm
          · exact hx x hm
          · rw [List.mem_singleton] at hm
            subst hm
            omega)
        refine ⟨q, Ev.step (fun q => by rw [laws_szInS_L5]) ?_, h2⟩
        refine ev_pos (by omega) (ev_pos (by omega) (ev_pos (by omega) ?_))
        rw [getD_lt hlt, w64_succ (by omega)]
        exact ev_bind e (ev_neg (by omega) h1)
      · rw [if_neg hs] at e
        refine ⟨-1, Ev.step (fun q => by rw [laws_szInS_L5]) ?_, .inl (by omega)⟩
        refine ev_pos (by omega) (ev_pos (by omega) (ev_pos (by omega) ?_))
        rw [getD_lt hlt]
        exact ev_bind e (ev_pos (by omega) ev_some)
  obtain ⟨q, h1, h2⟩ := key l.length 0 (by omega) (a - (l.length : Int)) (by omega) (fun x hx => by simp at hx)
  refine ⟨q, evG_eq ?_, h2⟩
  unfold laws_szInS_
  simp only []
  rw [w64 (n := a - ((List.length l : Nat) : Int)) (by omega) (by omega)]
  exact ev_neg (by omega) h1
/- laws_FnExactRunDevice -/
-- @hx
theorem runD_len (l : List In) : ∃ p past alarm m ts ref b, runD l = (dev p past alarm m ts ref, b) ∧ past.length ≤ 1000 ∧ ts.length ≤ 1000 := by
  have hz : devZero = dev (0, 0, 0, 0, 0, 0, 0, 0) [] 0 (0, false, 0, 0, ⟨#[]⟩) [] 0 := rfl
  unfold runD
  split
  · exact ⟨_, _, _, _, _, _, _, by rw [hz], by simp, by simp⟩
  · split
    · obtain ⟨p, past, alarm, m, ts, ref, he, hd⟩ := devNew_ok.foldl l
      obtain ⟨_, h2, _, h4, _, _⟩ := deviceOk_den hd
      have h6 := (guardOk_den h2).1
      exact ⟨p, past, alarm, m, ts, ref, true, by rw [he], by omega, by omega⟩
    · exact ⟨_, _, _, _, _, _, _, by rw [hz], by simp, by simp⟩
set_option maxHeartbeats 1000000 in
theorem t_FnExactRunDevice (x : List In) (hx : AKs.good [.c (.sl (.pair (.int .i64) (.pair .str .str)))] x) : g_laws_FnExactRunDevice x = some true := by
  have q2 : x.length ≤ maxLen := hx.1
  have q3 : ∀ y ∈ x, y.2.1.size ≤ maxLen ∧ y.2.2.size ≤ maxLen := fun y hy => (hx.2 y hy).2
  clear hx
  unfold g_laws_FnExactRunDevice laws_FnExactRunDevice_
  obtain ⟨q, hq, hc⟩ := laws_szInS_some x 1048576 q2 q3 (by omega)
  simp only [hq, Option.bind_some]
  rcases hc with hc | ⟨h0, h1, h2, h3⟩
  · rw [if_pos hc]
  rw [if_neg (by omega)]
  have e1 := laws_toInS_eq x h2
  have e2 := spec_RunDevice_eq x (by omega)
  have e3 := impl_RunDevice_eq x (by omega)
  have e4 := laws_eqInS_refl x (by omega)
  obtain ⟨r, e5, hr⟩ := laws_markInS_some x (by omega)
  obtain ⟨p, past, alarm, m, ts, ref, b, hd, t1, t2⟩ := runD_len x
  rw [hd] at e2 e3
  have e6 := laws_eqDevice_refl (dev p past alarm m ts ref) (by show past.length ≤ _; omega) (by show ts.length ≤ _; omega)
  have e7 := laws_markDevice_eq p past alarm m ts ref (by omega) (by omega)
  have e8 := laws_heldDevice_eq p past.length ts.length alarm m ref (by omega) (by omega)
  simp only [e1, e2, e3, e4, e5, e6, e7, Option.bind_some, if_true, beq_self_eq_true]
  rw [if_neg (by omega)]
  show ((g_laws_heldDevice (dev p (marks 1 past.length) alarm m (marksT (1 + (past.length : Int)) ts.length) ref, 1)).bind fun v11 => if v11 < 0 then some false else if v11 = 1 + (past.length : Int) + 3 * (ts.length : Int) then
    (g_laws_heldDevice (dev p (marks 1 past.length) alarm m (marksT (1 + (past.length : Int)) ts.length) ref, 1)).bind fun v15 => if v15 < 0 then some false else if v15 = 1 + (past.length : Int) + 3 * (ts.length : Int) then some true else some false
    else some false) = some true
  simp only [e8, Option.bind_some, if_true]
  rw [if_neg (by omega), if_neg (by omega)]
end Go.Sx.T
