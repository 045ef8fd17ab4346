/- Functions of the program as functions of Lean, and that the program keeps to them. -/
import Derived.Test.YtkcfdkfdmglamaaFnLinksA0
set_option maxRecDepth 100000
set_option linter.unusedVariables false
set_option linter.unusedSimpArgs false
namespace Go.Proofs
end Go.Proofs
namespace Go.Sx.T
open Go Go.Sx Go.Proofs Go.RowKit
/- impl_PumpNew -/
theorem impl_PumpNew_eq : g_impl_PumpNew () = some (0, 0, 1, 0, 0, 0, 0, 0) := rfl
/- laws_sameTicks -/
theorem laws_sameTicks_refl (l : List Tick) (hl : l.length ≤ 9223372036854775806) : g_laws_sameTicks (l, l) = some true := by
  refine evG_eq ?_
  unfold laws_sameTicks_
  refine ev_pos rfl ?_
  refine list_loop l (fun k (_ : Unit) i => laws_sameTicks_L4 k (i, l, l, ())) (fun _ _ => true) (fun _ => ?_) (fun i _ x rest hx hi h => ?_) 0 (by omega) ()
  · refine Ev.step (fun q => by rw [laws_sameTicks_L4]) ?_
    exact ev_neg (by omega) ev_some
  · refine Ev.step (fun q => by rw [laws_sameTicks_L4]) ?_
    refine ev_pos (by omega) (ev_pos (by omega) (ev_pos (by omega) (ev_pos (by omega) (ev_pos (by omega) (ev_pos rfl (ev_pos rfl (ev_pos rfl ?_)))))))
    rw [w64_succ (by omega)]
    exact h ()
/- impl_RoomOf -/
theorem impl_RoomOf_eq (l : List Int) (a : Int) (hl : l.length ≤ 9223372036854775806) : g_impl_RoomOf (l, a) = some (wrap64 (30 - l.sum)) := by
  refine evG_eq ?_
  unfold impl_RoomOf_
  refine Ev.congr (g := fun k => impl_RoomOf_L3 k (wrap64 30, (l.length : Int), ((0 : Nat) : Int), l, ())) (fun k => by rw [w64 (n := 30) (by omega) (by omega)]; rfl) ?_
  refine Ev.cast (list_loop l (fun k s i => impl_RoomOf_L3 k (wrap64 s, (l.length : Int), i, l, ())) (fun r s => wrap64 (s - r.sum)) (fun s => ?_) (fun i s x rest hx hi h => ?_) 0 (by omega) 30) (by simp)
  · refine Ev.step (fun q => by rw [impl_RoomOf_L3]) ?_
    exact ev_neg (by omega) (Ev.cast ev_some (by simp))
  · refine Ev.step (fun q => by rw [impl_RoomOf_L3]) ?_
    refine ev_pos (by omega) (ev_pos (by omega) (ev_pos (by omega) ?_))
    rw [getD_drop hx, w64_succ (by omega), wrap64_sub]
    refine Ev.cast (h (s - x)) ?_
    congr 1
    simp only [List.sum_cons]; omega
/- impl_within -/
theorem impl_within_eq (a b c : Int) : g_impl_within (a, b, c) = some (decide (b ≤ a ∧ a ≤ c)) := by
  show (if b ≤ a then some (decide (a ≤ c)) else some false) = _
  split
  · rename_i h; refine eq_dec ?_; rw [decide_eq_true_iff]; omega
  · rename_i h; exact dec_no (by omega)
/- impl_SenseOk -/
theorem impl_SenseOk_eq (a : Int) : g_impl_SenseOk a = some (senseOk a) := by
  unfold g_impl_SenseOk impl_SenseOk_
  simp only [impl_within_eq, Option.bind_some]; rfl
/- impl_GuardOk -/
theorem impl_GuardOk_eq (l : List Int) (a : Int) (hl : l.length ≤ 9223372036854775806) : g_impl_GuardOk (l, a) = some (guardOk l a) := by
  refine evG_eq ?_
  unfold impl_GuardOk_
  have hend : Ev (fun k => impl_GuardOk_L2 (fun _ => g_impl_RoomOf) (fun _ => g_impl_SenseOk) (fun _ => g_impl_within) k ((l.length : Int), (l.length : Int), l, a, ())) (if pastOk l = true then guardOk l a else decide (l.length ≤ 9) && decide (0 ≤ wrap64 (30 - l.sum)) && senseOk a) := by
    refine Ev.step (fun q => by rw [impl_GuardOk_L2]) ?_
    refine ev_neg (by omega) ?_
    by_cases h9 : (l.length : Int) ≤ 9
    · refine ev_pos h9 (ev_bind (impl_RoomOf_eq l a hl) ?_)
      simp only [impl_SenseOk_eq, Option.bind_some]
      have h9' : l.length ≤ 9 := by omega
      by_cases hp : pastOk l = true
      · have hs := pastOk_sum hp
        rw [w64 (by omega) (by omega), if_pos hp]
        unfold guardOk
        rw [hp]
        by_cases h30 : l.sum ≤ 30
        · refine ev_pos (by omega) (Ev.cast ev_some ?_)
          simp [h9', h30]
        · refine ev_neg (by omega) (Ev.cast ev_some ?_)
          simp [h30]
      · rw [if_neg hp]
        by_cases h30 : 0 ≤ wrap64 (30 - l.sum)
        · refine ev_pos h30 (Ev.cast ev_some ?_)
          simp [h9', h30]
        · refine ev_neg h30 (Ev.cast ev_some ?_)
          simp [h30]
    · refine ev_neg h9 (Ev.cast ev_some ?_)
      have h9' : ¬ l.length ≤ 9 := by omega
      unfold guardOk
      split <;> simp [h9']
  refine Ev.cast (list_loop l (fun k (_ : Unit) i => impl_GuardOk_L2 (fun _ => g_impl_RoomOf) (fun _ => g_impl_SenseOk) (fun _ => g_impl_within) k ((l.length : Int), i, l, a, ())) (fun r _ => pastOk r && (if pastOk l = true then guardOk l a else decide (l.length ≤ 9) && decide (0 ≤ wrap64 (30 - l.sum)) && senseOk a)) (fun _ => Ev.cast hend (by simp [pastOk])) (fun i _ x rest hx hi h => ?_) 0 (by omega) ()) ?_
  · refine Ev.step (fun q => by rw [impl_GuardOk_L2]) ?_
    refine ev_pos (by omega) (ev_pos (by omega) (ev_pos (by omega) ?_))
    rw [getD_drop hx, impl_within_eq, w64_succ (by omega)]
    simp only [Option.bind_some, decide_eq_true_eq]
    by_cases hx2 : 0 ≤ x ∧ x ≤ 30
    · refine ev_pos hx2 (Ev.cast (h ()) ?_)
      rw [pastOk_cons]; simp [hx2]
    · refine ev_neg hx2 (Ev.cast ev_some ?_)
      rw [pastOk_cons]; simp [hx2]
  · simp only [List.drop_zero]
    cases hp : pastOk l with
    | true => simp
    | false => unfold guardOk; rw [hp]; simp
/- impl_copyGuard -/
theorem impl_copyGuard_eq (l : List Int) (a : Int) (hl : l.length ≤ 17592186044416) : g_impl_copyGuard (l, a) = some (l, a) := by
  unfold g_impl_copyGuard impl_copyGuard_ g_impl_copyInts impl_copyInts_
  simp only [List.length_nil, Nat.zero_add, List.nil_append]
  rw [if_pos (by omega)]; rfl
/- impl_Pass -/
theorem impl_Pass_eq (l : List Int) (a n : Int) (hl : l.length ≤ 17592186044416) : g_impl_Pass ((l, a), n) = some (pass l a n, a) := by
  unfold g_impl_Pass impl_Pass_ pass
  simp only [impl_copyGuard_eq l a hl, impl_GuardOk_eq l a (by omega), impl_RoomOf_eq l a (by omega), Option.bind_some, mn_eq, mx_eq, List.singleton_append, List.length_singleton]
  by_cases h : guardOk l a = true
  · have hs := guardOk_sum h
    have h9 := (guardOk_den h).1
    simp only [h, if_true]
    rw [w64 (by omega) (by omega), if_pos (by omega), if_pos (by omega), if_pos (by omega)]
    congr 2
    simp only [List.length_cons]
    by_cases h8 : l.length + 1 ≤ 9
    · rw [List.take_of_length_le (by simp only [List.length_cons]; omega), List.take_of_length_le (by simp only [List.length_cons]; omega)]
    · congr 1; omega
  · simp only [h, if_false, Bool.false_eq_true]
/- impl_RateOk -/
theorem impl_RateOk_eq (n d r : Int) : g_impl_RateOk (n, d, r) = some (rateOk n d r) := by
  unfold g_impl_RateOk impl_RateOk_ rateOk
  simp only [impl_within_eq, Option.bind_some, decide_eq_true_eq]
  by_cases h1 : 0 ≤ n ∧ n ≤ 1000000
  · by_cases h2 : 1 ≤ d ∧ d ≤ 1000000
    · rw [if_pos h1, if_pos h2, w64 (by omega) (by omega)]
      refine eq_dec ?_
      rw [decide_eq_true_iff]; unfold RateOkP; omega
    · rw [if_pos h1, if_neg h2]; exact dec_no (by unfold RateOkP; omega)
  · rw [if_neg h1]; exact dec_no (by unfold RateOkP; omega)
/- impl_StepRate -/
theorem impl_StepRate_eq (n d r : Int) : g_impl_StepRate (n, d, r) = some ((n, d, stepRest n d r), stepGives n d r) := by
  unfold g_impl_StepRate impl_StepRate_ stepRest stepGives
  simp only [impl_RateOk_eq, Option.bind_some]
  by_cases h : rateOk n d r = true
  · have h' := rateOk_den h
    obtain ⟨e1, e2⟩ := step_plain h
    simp only [h, if_true]
    rw [if_neg (by omega), if_neg (by omega), e1, e2]
  · simp only [h, if_false]; rfl
/- impl_PumpOk -/
theorem impl_PumpOk_eq (p : Pump) : g_impl_PumpOk p = some (pumpOk p) := by
  obtain ⟨s, n, d, r, l, b, g, k⟩ := p
  show _ = some (decide (PumpOkP s n d r l b g k))
  unfold g_impl_PumpOk impl_PumpOk_
  simp only [impl_within_eq, impl_RateOk_eq, Option.bind_some, decide_eq_true_eq, rateOk, beq_iff_eq, Bool.true_eq, Bool.false_eq, decide_eq_false_iff_not, decide_eq_decide]
  by_cases h : RateOkP n d r
  · have hw : wrap64 (3 * d) = 3 * d := by unfold RateOkP at h; exact w64 (by omega) (by omega)
    rw [hw]
    have h0 := h
    unfold RateOkP at h
    repeat' refine ite_r (fun _ => ?_) (fun _ => ?_)
    all_goals first
      | exact absurd h0 (by assumption)
      | exact dec_no (by unfold PumpOkP RateOkP; omega)
      | exact dec_yes (by unfold PumpOkP RateOkP; omega)
      | (refine eq_dec ?_; rw [decide_eq_true_iff]; unfold PumpOkP RateOkP; omega)
  · simp only [h, if_false]
    repeat' refine ite_r (fun _ => ?_) (fun _ => ?_)
    all_goals exact dec_no (by unfold PumpOkP; exact fun q => h q.2.1)
/- impl_Wants -/
theorem impl_Wants_eq (p : Pump) : g_impl_Wants p = some (wants p) := by
  obtain ⟨s, n, d, r, l, b, g, k⟩ := p
  unfold g_impl_Wants impl_Wants_
  simp only [impl_PumpOk_eq, impl_StepRate_eq, Option.bind_some, mn_eq]
  by_cases h : pumpOk (s, n, d, r, l, b, g, k) = true
  · obtain ⟨_, a2, a3, _, _, a6, _, a8, _⟩ := pumpOk_den h
    have hg := stepGives_range (decide_eq_true a2) a3
    unfold wants runs
    simp only [h, if_true, Bool.true_and, decide_eq_true_eq]
    repeat' split
    all_goals first
      | (exfalso; omega)
      | rfl
      | (rw [w64 (by omega) (by omega)])
  · unfold wants runs
    simp only [h, if_false, Bool.false_and, Bool.false_eq_true]
/- impl_Give -/
theorem impl_Give_eq (p : Pump) (m : Int) : g_impl_Give (p, m) = some (give p m) := by
  obtain ⟨s, n, d, r, l, b, g, k⟩ := p
  unfold g_impl_Give impl_Give_
  simp only [impl_PumpOk_eq, impl_StepRate_eq, impl_Wants_eq, Option.bind_some, mn_eq, mx_eq]
  have hw := wants_range (s, n, d, r, l, b, g, k)
  by_cases h : pumpOk (s, n, d, r, l, b, g, k) = true
  · obtain ⟨_, a2, a3, _, _, a6, _, a8, a9⟩ := pumpOk_den h
    unfold give runs giveB giveN
    simp only [h, if_true, Bool.true_and, decide_eq_true_eq]
    generalize hW : wants (s, n, d, r, l, b, g, k) = W at hw
    have e1 : min (min (min (max m 0) W) b) 3 = min (min (max m 0) W) (min b 3) := by omega
    rw [e1]
    generalize hN : min (max m 0) W = N
    have hN' : 0 ≤ N ∧ N ≤ 6 := by omega
    generalize hB : min N (min b 3) = B
    have hB' : 0 ≤ B ∧ B ≤ 3 ∧ B ≤ N := by omega
    rw [w64 (n := b - B) (by omega) (by omega), w64 (n := g + N) (by omega) (by omega), w64 (n := N - B) (by omega) (by omega), w64 (n := l - (N - B)) (by omega) (by omega)]
    repeat' split
    all_goals first
      | rfl
      | (exfalso; omega)
      | (rename_i h0; rw [h0.2])
      | (rename_i h0; rw [h0])
      | (rename_i h0 _; rw [h0])
  · unfold give runs
    simp only [h, if_false, Bool.false_and, Bool.false_eq_true]
/- impl_Allow -/
theorem impl_Allow_eq (l : List Int) (a m : Int) (hl : l.length ≤ 9223372036854775806) : g_impl_Allow ((l, a), m) = some (allow l a m) := by
  unfold g_impl_Allow impl_Allow_ allow
  simp only [impl_GuardOk_eq l a hl, impl_RoomOf_eq l a hl, Option.bind_some, mx_eq, mn_eq]
  by_cases h : guardOk l a = true
  · have hs := guardOk_sum h
    by_cases h0 : a = 0
    · simp only [h, h0, if_true, and_self]
      rw [w64 (by omega) (by omega)]
      rw [h0] at h
      simp [h]
    · simp only [h, h0, if_true, if_false, and_false]
  · simp only [h, if_false, false_and, Bool.false_eq_true]
/- impl_Feel -/
theorem impl_Feel_eq (l : List Int) (a s : Int) (b : Bool) (hl : l.length ≤ 17592186044416) : g_impl_Feel ((l, a), (s, b)) = some (l, feel l a s b) := by
  unfold g_impl_Feel impl_Feel_ feel
  simp only [impl_copyGuard_eq l a hl, impl_GuardOk_eq l a (by omega), impl_SenseOk_eq, Option.bind_some]
  cases guardOk l a <;> cases senseOk s <;> cases b <;> simp
/- impl_isSeen -/
theorem impl_isSeen_eq (l : List Order) (hl : l.length ≤ 1048580) : g_impl_isSeen l = some (seenF l) := by
  refine evG_eq ?_
  unfold impl_isSeen_
  have := list_loop l (fun k (z : Unit) i => impl_isSeen_L2 k ((l.length : Int), i, l, z)) (fun r _ => seenF r) (fun z => by
    refine Ev.step (fun q => by rw [impl_isSeen_L2]) ?_
    exact ev_neg (by omega) ev_some) (fun i z x rest hx hi h => by
    refine Ev.step (fun q => by rw [impl_isSeen_L2]) ?_
    refine ev_pos (by omega) (ev_pos (by omega) (ev_pos (by omega) ?_))
    rw [getD_drop hx, w64_succ (by omega)]
    have e : seenF (x :: rest) = (decide (x.1 = 5) || seenF rest) := rfl
    refine ev_dom (fun h5 => ?_) (fun h5 => ?_)
    · rw [e, decide_eq_true h5]
      exact ev_some
    · rw [e, decide_eq_false h5]
      exact h ()) 0 (Nat.zero_le _) ()
  simpa using this
/- impl_OrderOk -/
theorem impl_OrderOk_eq (o : Order) : g_impl_OrderOk o = some (orderOk o) := by
  obtain ⟨a, b, c, x⟩ := o
  show _ = some (decide (OrderOkP a b c x))
  unfold g_impl_OrderOk impl_OrderOk_
  simp only [impl_within_eq, Option.bind_some, decide_eq_true_eq, mn_eq]
  by_cases h : 1 ≤ c ∧ c ≤ 1000
  · have hw : wrap64 (3 * c) = 3 * c := w64 (by omega) (by omega)
    rw [hw]
    repeat' refine ite_r (fun _ => ?_) (fun _ => ?_)
    all_goals first
      | exact dec_no (by unfold OrderOkP; omega)
      | exact dec_yes (by unfold OrderOkP; omega)
      | (exfalso; omega)
      | (exfalso; simp_all; done)
      | (refine eq_dec ?_; simp only [Bool.and_eq_true, decide_eq_true_eq, decide_true, true_and]; unfold OrderOkP; omega)
  · simp only [h, if_false]
    repeat' refine ite_r (fun _ => ?_) (fun _ => ?_)
    all_goals first
      | exact dec_no (by unfold OrderOkP; omega)
      | exact dec_yes (by unfold OrderOkP; omega)
      | (exfalso; omega)
      | (exfalso; simp_all; done)
      | (refine eq_dec ?_; simp only [Bool.and_eq_true, decide_eq_true_eq, decide_true, true_and]; unfold OrderOkP; omega)
/- impl_ReadVar -/
theorem shl7 (c j : Nat) (hj : j < 5) (hc : c ≤ 255) : wr .i64 (Int.tmod (wrap64 (c : Int)) 128 * 2 ^ (min (Int.toNat (wrap64 (7 * (j : Int)))) (IntKind.bits .i64))) = ((c % 128 * 128 ^ j : Nat) : Int) := by
  have e1 : wrap64 (7 * (j : Int)) = ((7 * j : Nat) : Int) := by
    rw [w64 (by omega) (by omega)]; omega
  have e2 : Int.tmod (wrap64 (c : Int)) 128 = ((c % 128 : Nat) : Int) := by
    rw [w64 (by omega) (by omega), Int.tmod_eq_emod_of_nonneg (by omega)]; omega
  have e3 : min (7 * j) (IntKind.bits .i64) = 7 * j := by
    have : IntKind.bits .i64 = 64 := rfl
    rw [this]; omega
  rw [e1, e2, Int.toNat_natCast, e3]
  have e4 : (2 : Int) ^ (7 * j) = ((128 ^ j : Nat) : Int) := by
    rw [Int.pow_mul, Int.natCast_pow]; rfl
  rw [e4, ← Int.natCast_mul]
  have h1 : c % 128 * 128 ^ j ≤ 127 * 128 ^ 4 := Nat.mul_le_mul (by omega) (Nat.pow_le_pow_right (by omega) (by omega))
  show wrap64 _ = _
  exact w64 (by omega) (by omega)
theorem readV_step (j n m : Nat) (hm : m ≤ 127) (h : n < 128 ^ j) : n + m * 128 ^ j < 128 ^ (j + 1) := by
  have := Nat.mul_le_mul_right (128 ^ j) hm
  rw [Nat.pow_succ]
  omega
theorem readV_le (j : Nat) (hj : j ≤ 5) : 128 ^ j ≤ 34359738368 := by
  have h := Nat.pow_le_pow_right (n := 128) (by omega) hj
  exact Nat.le_trans h (by decide)
theorem impl_ReadVar_eq (s : ByteArray) (i : Int) (hs : s.size ≤ 1048580) : g_impl_ReadVar (s, i) = some (readV s i) := by
  refine evG_eq ?_
  unfold impl_ReadVar_ readV
  refine ev_bind (impl_within_eq _ _ _) ?_
  by_cases h : 0 ≤ i ∧ i ≤ (s.size : Int)
  case neg =>
    rw [if_neg h]
    exact ev_neg (by simpa using h) ev_some
  rw [if_pos h]
  refine ev_pos (by simp [h]) ?_
  obtain ⟨a, rfl⟩ := Int.eq_ofNat_of_zero_le h.1
  have ha : a ≤ s.size := by omega
  rw [Int.toNat_natCast]
  have key : ∀ (f j n : Nat), j + f = 5 → n < 128 ^ j → Ev (fun k => impl_ReadVar_L5 (fun _ => g_impl_within) k (s, (a : Int), (n : Int), (j : Int), ())) (rdv s a f j n) := by
    intro f
    induction f with
    | zero =>
      intro j n hj hn
      refine Ev.step (fun q => by rw [impl_ReadVar_L5]) ?_
      exact ev_neg (by omega) ev_some
    | succ f ih =>
      intro j n hj hn
      have hc := byN_le s (a + j)
      have hst := readV_step j n (byN s (a + j) % 128) (by omega) hn
      have hB := Nat.lt_of_lt_of_le hst (readV_le (j + 1) (by omega))
      have esh := shl7 (byN s (a + j)) j (by omega) hc
      have hih := ih (j + 1) _ (by omega) hst
      unfold rdv
      clear hst ih hn
      generalize byN s (a + j) % 128 * 128 ^ j = M at *
      refine Ev.step (fun q => by rw [impl_ReadVar_L5]) ?_
      have eaj : wrap64 ((a : Int) + (j : Int)) = ((a + j : Nat) : Int) := by
        rw [w64 (by omega) (by omega)]; omega
      rw [eaj, byt_byN, esh]
      clear esh
      generalize hcc : byN s (a + j) = c at *
      clear hcc
      have ec : wrap64 (c : Int) = (c : Int) := w64 (by omega) (by omega)
      have en : wrap64 ((n : Int) + (M : Int)) = ((n + M : Nat) : Int) := by
        rw [w64 (by omega) (by omega)]; omega
      have e7 : wrap64 (7 * (j : Int)) = 7 * (j : Int) := w64 (by omega) (by omega)
      have e1 : wrap64 (((a + j : Nat) : Int) + 1) = ((a + j + 1 : Nat) : Int) := w64_succ (by omega)
      have e2 : wrap64 ((j : Int) + 1) = ((j + 1 : Nat) : Int) := w64_succ (by omega)
      rw [en, ec, e7, e1, e2]
      generalize n + M = N at *
      refine ev_pos (by omega) ?_
      by_cases hlt : a + j < s.size
      case neg =>
        rw [if_neg hlt]
        exact ev_neg (by omega) ev_some
      rw [if_pos hlt]
      refine ev_pos (by omega) ?_
      refine ev_pos (by omega) ?_
      refine ev_pos (by omega) ?_
      refine ev_neg (by omega) ?_
      refine ev_pos (by omega) ?_
      by_cases h127 : 127 < c
      · rw [if_pos h127]
        exact ev_pos (by omega) hih
      · rw [if_neg h127]
        clear hih
        refine ev_neg (by omega) ?_
        by_cases hj0 : 0 < j
        · refine ev_pos (by omega) ?_
          by_cases h0 : c = 0
          · have hyes : (0 < j ∧ c = 0) ∨ 1000000000 < N := .inl ⟨hj0, h0⟩
            rw [if_pos hyes]
            exact ev_pos (by omega) ev_some
          · refine ev_neg (by omega) ?_
            by_cases hb : 1000000000 < N
            · have hyes : (0 < j ∧ c = 0) ∨ 1000000000 < N := .inr hb
              rw [if_pos hyes]
              exact ev_pos (Int.ofNat_lt.2 hb) ev_some
            · have hng : ¬ ((0 < j ∧ c = 0) ∨ 1000000000 < N) := by
                rintro (⟨_, q⟩ | q)
                · exact h0 q
                · exact hb q
              rw [if_neg hng]
              exact ev_neg (fun q => hb (Int.ofNat_lt.1 q)) ev_some
        · refine ev_neg (by omega) ?_
          by_cases hb : 1000000000 < N
          · have hyes : (0 < j ∧ c = 0) ∨ 1000000000 < N := .inr hb
            rw [if_pos hyes]
            exact ev_pos (Int.ofNat_lt.2 hb) ev_some
          · have hng : ¬ ((0 < j ∧ c = 0) ∨ 1000000000 < N) := by
              rintro (⟨q, _⟩ | q)
              · exact hj0 q
              · exact hb q
            rw [if_neg hng]
            exact ev_neg (fun q => hb (Int.ofNat_lt.1 q)) ev_some
  exact key 5 0 0 rfl (by decide)
/- impl_reader__number -/
theorem impl_reader__number_eq (s : ByteArray) (i : Int) (b : Bool) (hs : s.size ≤ 1048580) : g_impl_reader__number (s, i, b) = some (numberF (s, i, b)) := by
  unfold g_impl_reader__number impl_reader__number_ numberF
  simp only [impl_ReadVar_eq s i hs, Option.bind_some]
  split
  · rfl
  · split <;> rfl
/- impl_highFirst -/
theorem impl_highFirst_eq (v : Int) (hv : 0 ≤ v) : g_impl_highFirst (v, 4) = some (four v) := by
  refine evG_eq ?_
  unfold impl_highFirst_
  have e3 : ∀ w : Int, Int.fdiv w (2 ^ (min (Int.toNat 8) (IntKind.bits .i64))) = w / 256 := by
    intro w
    have : min (Int.toNat 8) (IntKind.bits .i64) = 8 := by decide
    rw [this, Int.fdiv_eq_ediv_of_nonneg _ (by decide)]
    rfl
  refine ev_pos rfl (ev_pos (by decide) (ev_pos (by decide) ?_))
  have w3 : wrap64 (4 - 1) = 3 := by decide
  have w2 : wrap64 (3 - 1) = 2 := by decide
  have w1 : wrap64 (2 - 1) = 1 := by decide
  have w0 : wrap64 (1 - 1) = 0 := by decide
  have wm : wrap64 (0 - 1) = -1 := by decide
  have r4 : List.replicate (Int.toNat 4) (0 : Int) = [0, 0, 0, 0] := rfl
  rw [w3, r4]
  refine Ev.step (fun q => by rw [impl_highFirst_L3]) ?_
  refine ev_pos (by decide) (ev_pos (by decide) (ev_pos (by decide) (ev_pos (by decide) ?_)))
  rw [w2, e3]
  refine Ev.step (fun q => by rw [impl_highFirst_L3]) ?_
  refine ev_pos (by decide) (ev_pos (by decide) (ev_pos (by simp) (ev_pos (by decide) ?_)))
  rw [w1, e3]
  refine Ev.step (fun q => by rw [impl_highFirst_L3]) ?_
  refine ev_pos (by decide) (ev_pos (by decide) (ev_pos (by simp) (ev_pos (by decide) ?_)))
  rw [w0, e3]
  refine Ev.step (fun q => by rw [impl_highFirst_L3]) ?_
  refine ev_pos (by decide) (ev_pos (by decide) (ev_pos (by simp) (ev_pos (by decide) ?_)))
  rw [wm, e3]
  refine Ev.step (fun q => by rw [impl_highFirst_L3]) ?_
  refine ev_neg (by decide) (ev_eq ?_)
  have q0 := and255_eq hv
  have q1 := and255_eq (x := v / 256) (by omega)
  have q2 := and255_eq (x := v / 256 / 256) (by omega)
  have q3 := and255_eq (x := v / 256 / 256 / 256) (by omega)
  rw [q0, q1, q2, q3]
  unfold four
  have m : ∀ w : Int, wr .u8 (w % 256) = wr .u8 w := fun w => by rw [wr8, wr8]; omega
  simp only [m]
  have d2 : v / 65536 = v / 256 / 256 := by omega
  have d3 : v / 16777216 = v / 256 / 256 / 256 := by omega
  rw [d2, d3]
  rfl
/- impl_SumMore -/
theorem impl_SumMore_eq (s : ByteArray) (b : Int) (hs : s.size ≤ 1048580) : g_impl_SumMore (b, s) = some (sumF (bl s) b) := by
  have inner : ∀ (d j : Nat), j + d = 8 → ∀ (b i r : Int), Ev (fun k => impl_SumMore_L2 k (rnds d b, s, wrap64 (i + 1), ())) r → Ev (fun k => impl_SumMore_L6 k (b, s, i, (j : Int), ())) r := by
    intro d
    induction d with
    | zero =>
      intro j hj b i r h
      refine Ev.step (fun q => by rw [impl_SumMore_L6]) ?_
      exact ev_neg (by omega) h
    | succ d ih =>
      intro j hj b i r h
      refine Ev.step (fun q => by rw [impl_SumMore_L6]) ?_
      refine ev_pos (by omega) (ev_neg (by omega) (ev_neg (by omega) (ev_dom (fun hc => ?_) (fun hc => ?_))))
      · rw [w64_succ (by omega)]
        refine ih (j + 1) (by omega) _ i r ?_
        have e : rnds (d + 1) b = rnds d (ixor .u32 (wr .u32 (Int.tdiv b 2)) 3558460437) := by
          show rnds d (rnd b) = _
          unfold rnd; rw [if_pos hc]
        rw [← e]; exact h
      · rw [w64_succ (by omega)]
        refine ih (j + 1) (by omega) _ i r ?_
        have e : rnds (d + 1) b = rnds d (wr .u32 (Int.tdiv b 2)) := by
          show rnds d (rnd b) = _
          unfold rnd; rw [if_neg hc]
        rw [← e]; exact h
  refine evG_eq ?_
  unfold impl_SumMore_
  refine bytes_loop s (fun k z i => impl_SumMore_L2 k (z, s, i, ())) sumF (fun z => ?_) (fun i z x rest hx hi h => ?_) b
  · refine Ev.step (fun q => by rw [impl_SumMore_L2]) ?_
    exact ev_neg (by omega) ev_some
  · refine Ev.step (fun q => by rw [impl_SumMore_L2]) ?_
    refine ev_pos (by omega) (ev_pos (by omega) (ev_pos (by omega) ?_))
    rw [byt_drop hx]
    refine inner 8 0 rfl _ _ _ ?_
    rw [w64_succ (by omega)]
    exact h _
/- impl_SumOf -/
theorem impl_SumOf_eq (s : ByteArray) (hs : s.size ≤ 1048580) : g_impl_SumOf s = some (sumOf s) := by
  unfold g_impl_SumOf impl_SumOf_
  simp only [impl_SumMore_eq s _ hs, Option.bind_some]
  rfl
/- impl_Sealed -/
theorem u32_w64 (v : Int) (hu : U32 v) : wrap64 v = v := by
  unfold U32 at hu
  exact w64 (by omega) (by omega)
theorem impl_highFirst_u32 (v : Int) (hu : U32 v) : g_impl_highFirst (v, 4) = some (four v) := impl_highFirst_eq v hu.1
theorem size_four (s : ByteArray) (v : Int) (hs : s.size ≤ 1048580) : ((s.size + (four v).size : Nat) : Int) ≤ 9223372036854775807 := by
  rw [four_size]
  omega
theorem impl_Sealed_four (s : ByteArray) (v : Int) (hu : U32 v) (c2 : (((s.size + (four v).size : Nat) : Int) ≤ 9223372036854775807)) : ((g_impl_highFirst (wrap64 v, 4)).bind fun v1 => if ((s.size + v1.size : Nat) : Int) ≤ 9223372036854775807 then some (s ++ v1, true) else none) = some (s ++ four v, true) := by
  rw [u32_w64 v hu, impl_highFirst_u32 v hu, Option.bind_some, if_pos c2]
theorem impl_Sealed_eq (s : ByteArray) (hs : s.size ≤ 1048580) : g_impl_Sealed s = some (sealT s) := by
  have c2 := size_four s (sumOf s) hs
  show (if 20000 < ((ByteArray.size s : Nat) : Int) then some ((⟨#[]⟩ : ByteArray), false) else (g_impl_SumOf s).bind fun v0 => (g_impl_highFirst ((wrap64 v0), 4)).bind fun v1 => if ((ByteArray.size s + ByteArray.size v1 : Nat) : Int) ≤ 9223372036854775807 then some ((s ++ v1), true) else none) = _
  rw [impl_SumOf_eq s hs, Option.bind_some, impl_Sealed_four s (sumOf s) (u32_sumOf s) c2]
  clear c2
  unfold sealT
  by_cases h : 20000 < s.size
  · have c : (20000 : Int) < ((s.size : Nat) : Int) := by omega
    rw [if_pos c, if_pos h]
  · have c : ¬ (20000 : Int) < ((s.size : Nat) : Int) := by omega
    rw [if_neg c, if_neg h]
/- impl_Unsealed -/
theorem impl_Unsealed_eq (t : ByteArray) (hs : t.size ≤ 1048580) : g_impl_Unsealed t = some (unsealT t) := by
  unfold g_impl_Unsealed impl_Unsealed_ unsealT
  have hw : wrap64 (((t.size : Nat) : Int) - 4) = ((t.size : Nat) : Int) - 4 := w64 (by omega) (by omega)
  simp only [hw]
  by_cases h : t.size < 4
  · have c : ((t.size : Nat) : Int) - 4 < 0 := by omega
    rw [if_pos c, if_pos h]
  · have c : ¬ ((t.size : Nat) : Int) - 4 < 0 := by omega
    have c1 : 0 ≤ ((t.size : Nat) : Int) - 4 := by omega
    have c2 : ((t.size : Nat) : Int) - 4 ≤ ((t.size : Nat) : Int) := by omega
    have e : ByteArray.extract t (Int.toNat 0) (Int.toNat (((t.size : Nat) : Int) - 4)) = front t := by
      have : (Int.toNat (((t.size : Nat) : Int) - 4)) = t.size - 4 := by omega
      rw [this]; rfl
    have hf := front_size t
    have hq := impl_Sealed_eq (front t) (by omega)
    rw [if_neg c, if_neg h]
    simp only [c1, c2, if_true, e, hq, Option.bind_some]
    unfold sealT
    by_cases h2 : 20000 < (front t).size
    · have h3 : ¬ ((front t).size ≤ 20000 ∧ front t ++ four (sumOf (front t)) = t) := by omega
      rw [if_pos h2, if_neg h3]
      simp
    · rw [if_neg h2]
      by_cases h3 : front t ++ four (sumOf (front t)) = t
      · have h4 : (front t).size ≤ 20000 ∧ front t ++ four (sumOf (front t)) = t := ⟨by omega, h3⟩
        rw [if_pos h4]
        simp [h3]
      · have h4 : ¬ ((front t).size ≤ 20000 ∧ front t ++ four (sumOf (front t)) = t) := fun q => h3 q.2
        rw [if_neg h4]
        simp [h3]
/- impl_ReadOrder -/
theorem w64_byt (s : ByteArray) : wrap64 (byt s 0) = byt s 0 := by
  have e2 : byt s 0 = (byN s 0 : Int) := byt_byN s 0
  have hc := byN_le s 0
  rw [e2]
  exact w64 (by omega) (by omega)
theorem impl_ReadOrder_eq (t : ByteArray) (hs : t.size ≤ 1048580) : g_impl_ReadOrder t = some (readO t) := by
  unfold g_impl_ReadOrder impl_ReadOrder_ readO
  simp only [impl_Unsealed_eq t hs, Option.bind_some]
  by_cases hu : (unsealT t).2 = true
  case neg =>
    rw [if_neg hu, if_neg (fun q => hu q.1)]
  have hz := (unsealT_ok hu).1
  rw [if_pos hu]
  generalize (unsealT t).1 = s at hz
  by_cases h0 : 0 < s.size
  case neg =>
    have he : s = ⟨#[]⟩ := (eq_empty s).2 (by omega)
    rw [if_pos he, if_neg (fun q => h0 q.2)]
  have he : ¬ s = ⟨#[]⟩ := fun q => by rw [(eq_empty s).1 q] at h0; omega
  have c0 : (0 : Int) < ((s.size : Nat) : Int) := by omega
  rw [if_neg he, if_pos (Nat.le_refl 0), if_pos c0, if_pos ⟨hu, h0⟩]
  have k1 := numberF_keep (s, 1, false)
  have k2 := numberF_keep (numberF (s, 1, false)).2
  have e1 := impl_reader__number_eq s 1 false (by omega)
  have e2 : g_impl_reader__number (numberF (s, 1, false)).2 = some (numberF (numberF (s, 1, false)).2) := by
    have h : (numberF (s, 1, false)).2.1.size ≤ 1048580 := by rw [k1]; show s.size ≤ _; omega
    exact impl_reader__number_eq _ _ _ h
  have e3 : g_impl_reader__number (numberF (numberF (s, 1, false)).2).2 = some (numberF (numberF (numberF (s, 1, false)).2).2) := by
    have h : (numberF (numberF (s, 1, false)).2).2.1.size ≤ 1048580 := by rw [k2, k1]; show s.size ≤ _; omega
    exact impl_reader__number_eq _ _ _ h
  simp only [e1, e2, e3, Option.bind_some, w64_byt, impl_OrderOk_eq]
  by_cases hb : (numberF (numberF (numberF (s, 1, false)).2).2).2.2.2 = true
  · rw [if_pos hb, if_pos hb]
  · rw [if_neg hb, if_neg hb]
    by_cases ha : (numberF (numberF (numberF (s, 1, false)).2).2).2.2.1 = ((s.size : Nat) : Int)
    · rw [if_pos ha]
      split
      · rename_i hk; rw [if_pos ⟨ha, hk⟩]
      · rename_i hk; rw [if_neg (fun q => hk q.2)]
    · rw [if_neg ha, if_neg (fun q => ha q.1)]
/- impl_Take -/
theorem impl_Take_eq (p : Pump) (o : Order) : g_impl_Take (p, o) = some (take p o) := by
  obtain ⟨s, n, d, r, l, b, g, k⟩ := p
  obtain ⟨a, c, e, x⟩ := o
  unfold g_impl_Take impl_Take_ take takeR
  simp only [impl_PumpOk_eq, impl_OrderOk_eq, Option.bind_some]
  by_cases h : pumpOk (s, n, d, r, l, b, g, k) = true
  · by_cases h' : orderOk (a, c, e, x) = true
    · obtain ⟨h1, _, _, _, _, _, _, h8, _⟩ := pumpOk_den h
      simp only [h, h', if_true, and_self]
      repeat' split
      all_goals first
        | rfl
        | (exfalso; omega)
        | (simp_all; done)
        | (simp_all; omega)
    · simp only [h, h', if_true, if_false, and_false, Bool.false_eq_true]
  · simp only [h, if_false, false_and, Bool.false_eq_true]
/- impl_Device__order -/
theorem impl_Device__order_eq (p : Pump) (past : List Int) (alarm : Int) (m : Menu) (ts : List Tick) (ref : Int) (o : Order) :
    g_impl_Device__order (dev p past alarm m ts ref, o) = some ((takeO p o).2, ((takeO p o).1.1, (takeO p o).1.2.1, (takeO p o).1.2.2.1, (takeO p o).1.2.2.2.1, (takeO p o).1.2.2.2.2.1, (takeO p o).1.2.2.2.2.2.1, (takeO p o).1.2.2.2.2.2.2.1, (takeO p o).1.2.2.2.2.2.2.2, (), alarm, m.1, m.2.1, m.2.2.1, m.2.2.2.1, m.2.2.2.2, (), ref)) := by
  obtain ⟨a, b, c, x⟩ := o
  unfold g_impl_Device__order impl_Device__order_ dev takeO
  simp only []
  by_cases h : a = 5
  · rw [if_pos h, if_pos h]
  · rw [if_neg h, if_neg h]
    have e := impl_Take_eq p (a, b, c, x)
    show (g_impl_Take (p, (a, b, c, x))).bind _ = _
    rw [e]
    rfl
/- impl_MenuNew -/
theorem impl_MenuNew_eq : g_impl_MenuNew () = some menuNew := rfl
/- impl_typed -/
theorem impl_typed_eq (s : ByteArray) (hs : s.size ≤ 1048580) : g_impl_typed s = some (num s) := by
  refine evG_eq ?_
  unfold impl_typed_ num
  refine bytes_loop s (fun k z i => impl_typed_L3 k (s, z, (s.size : Int), i, ())) numF (fun z => ?_) (fun i z x rest hx hi h => ?_) 0
  · refine Ev.step (fun q => by rw [impl_typed_L3]) ?_
    exact ev_neg (by omega) ev_some
  · refine Ev.step (fun q => by rw [impl_typed_L3]) ?_
    refine ev_pos (by omega) (ev_pos (by omega) (ev_pos (by omega) ?_))
    have e : wrap64 (wr .u8 ((x.toNat : Int) - 48)) = ((x.toNat : Int) - 48) % 256 := by rw [wr8]; exact w64 (by omega) (by omega)
    rw [byt_drop hx, w64_succ (by omega), e]
    exact h _
/- impl_Menu__enter -/
theorem impl_Menu__enter_eq (a : Int) (b : Bool) (n d : Int) (s : ByteArray) (hs : s.size ≤ 1048580) : g_impl_Menu__enter (a, b, n, d, s) = some (if a = 2 then ((3, b, num s, d, ⟨#[]⟩), (0, 0, 0, 0), false)
        else if a = 3 then ((4, b, n, num s, ⟨#[]⟩), (0, 0, 0, 0), false)
        else if b = true then sent 2 0 0 (num s)
        else sent 1 n d (num s)) := by
  unfold g_impl_Menu__enter impl_Menu__enter_ sent
  simp only [impl_typed_eq s hs, impl_OrderOk_eq, impl_MenuNew_eq, Option.bind_some]
  repeat' split
  all_goals rfl
/- impl_MenuOk -/
theorem impl_MenuOk_eq (a : Int) (b : Bool) (n d : Int) (s : ByteArray) (hs : s.size ≤ 1048580) : g_impl_MenuOk (a, b, n, d, s) = some (menuOk (a, b, n, d, s)) := by
  refine evG_eq ?_
  unfold impl_MenuOk_
  refine Ev.cast (bytes_loop s (fun k (_ : Unit) i => impl_MenuOk_L2 (fun _ => g_impl_MenuNew) (fun _ => g_impl_within) k ((s.size : Int), i, a, b, n, d, s, ())) (fun r _ => digitsOk r && (if a = 1 then decide (s.size = 0 ∧ b = false ∧ n = 0 ∧ d = 0) else decide ((2 ≤ a ∧ a ≤ 4) ∧ (0 ≤ n ∧ n ≤ 9999) ∧ (0 ≤ d ∧ d ≤ 9999) ∧ s.size ≤ 4))) (fun _ => ?_) (fun i _ x rest hx hi h => ?_) ()) ?_
  · refine Ev.step (fun q => by rw [impl_MenuOk_L2]) ?_
    refine ev_neg (by omega) ?_
    by_cases h1 : a = 1
    · refine ev_pos h1 (ev_bind impl_MenuNew_eq (Ev.cast ev_some ?_))
      rw [if_pos h1]
      show (decide (a = 1) && ((b == false) && (decide (n = 0) && (decide (d = 0) && decide (s = ⟨#[]⟩))))) = (digitsOk [] && decide (s.size = 0 ∧ b = false ∧ n = 0 ∧ d = 0))
      rw [Bool.eq_iff_iff]
      simp only [Bool.and_eq_true, decide_eq_true_iff, beq_iff_eq, eq_empty]
      constructor
      · rintro ⟨_, h2, h3, h4, h5⟩; exact ⟨rfl, h5, h2, h3, h4⟩
      · rintro ⟨_, h5, h2, h3, h4⟩; exact ⟨h1, h2, h3, h4, h5⟩
    · refine ev_neg h1 ?_
      simp only [impl_within_eq, Option.bind_some, decide_eq_true_eq, if_neg h1]
      refine ev_eq ?_
      show _ = some (digitsOk [] && _)
      rw [show digitsOk [] = true from rfl, Bool.true_and]
      repeat' refine ite_r (fun _ => ?_) (fun _ => ?_)
      all_goals first
        | exact dec_no (by omega)
        | (refine eq_dec ?_; rw [decide_eq_true_iff]; omega)
  · refine Ev.step (fun q => by rw [impl_MenuOk_L2]) ?_
    refine ev_pos (by omega) (ev_pos (by omega) (ev_pos (by omega) ?_))
    have := u8_range x
    rw [byt_drop hx, w64_succ (by omega), w64 (by omega) (by omega)]
    refine ev_bind (impl_within_eq _ _ _) ?_
    by_cases h1 : 48 ≤ (x.toNat : Int) ∧ (x.toNat : Int) ≤ 57
    · refine ev_pos (decide_eq_true h1) (Ev.cast (h ()) ?_)
      rw [digitsOk_cons, decide_eq_true h1, Bool.true_and]
    · refine ev_neg (by simpa using h1) (Ev.cast ev_some ?_)
      rw [digitsOk_cons, decide_eq_false h1]; rfl
  · show _ = decide (MenuOkP a b n d s)
    rw [Bool.eq_iff_iff]
    refine Iff.trans ?_ decide_eq_true_iff.symm
    rw [Bool.and_eq_true]
    unfold MenuOkP
    by_cases h1 : a = 1
    · rw [if_pos h1, decide_eq_true_iff]
      constructor
      · rintro ⟨h2, h3, h4, h5, h6⟩; exact ⟨h2, by omega, by omega, by omega, by omega, fun _ => ⟨h3, h4, h5, h6⟩⟩
      · rintro ⟨h2, _, _, _, _, h3⟩; exact ⟨h2, h3 h1⟩
    · rw [if_neg h1, decide_eq_true_iff]
      constructor
      · rintro ⟨h2, h3, h4, h5, h6⟩; exact ⟨h2, by omega, h4, h5, h6, fun q => absurd q h1⟩
      · rintro ⟨h2, h3, h4, h5, h6, _⟩; exact ⟨h2, by omega, h4, h5, h6⟩
/- impl_Press -/
theorem impl_Press_eq (a : Int) (b : Bool) (n d : Int) (s : ByteArray) (c : Int) (hs : s.size ≤ 1048580) : g_impl_Press ((a, b, n, d, s), c) = some (press (a, b, n, d, s) c) := by
  unfold g_impl_Press impl_Press_ press
  simp only [impl_MenuOk_eq a b n d s hs, impl_Menu__enter_eq a b n d s hs, impl_MenuNew_eq, impl_within_eq, Option.bind_some, decide_eq_true_eq, wr8, size_bstr]
  refine ite_r (fun h => ?_) (fun h => ?_)
  · rw [if_pos h]
    refine ite_r (fun h1 => ?_) (fun h1 => ?_)
    · rw [if_pos h1]
      unfold g_impl_Menu__top impl_Menu__top_
      simp only []
      repeat' split
      all_goals rfl
    · rw [if_neg h1]
      refine ite_r (fun h2 => by rw [if_pos h2]) (fun h2 => ?_)
      rw [if_neg h2]
      refine ite_r (fun h3 => by rw [if_pos h3]) (fun h3 => ?_)
      rw [if_neg h3]
      refine ite_r (fun h4 => ?_) (fun h4 => ?_)
      · refine ite_r (fun h5 => ?_) (fun h5 => ?_)
        · rw [if_pos (show ((s.size + List.length [c % 256] : Nat) : Int) ≤ 9223372036854775807 by simp only [List.length_singleton]; omega), if_pos (show (48 ≤ c ∧ c ≤ 57) ∧ s.size < 4 from ⟨h4, by omega⟩)]
        · rw [if_neg (show ¬ ((48 ≤ c ∧ c ≤ 57) ∧ s.size < 4) from fun q => h5 (by omega))]
      · rw [if_neg (show ¬ ((48 ≤ c ∧ c ≤ 57) ∧ s.size < 4) from fun q => h4 q.1)]
  · rw [if_neg h]
/- impl_PressAll -/
theorem impl_PressAll_eq (m : Menu) (s : ByteArray) (hm : m.2.2.2.2.size ≤ 1048580) (hs : s.size ≤ 1048580) : g_impl_PressAll (m, s) = some (pressAll m s) := by
  refine evG_eq ?_
  have key : ∀ (z8 : Int) (z9 : Bool) (z10 z11 : Int) (z12 : ByteArray) (i : Nat), i ≤ (bl s).length → ∀ q : Menu × List Order, q.1.2.2.2.2.size ≤ 1048580 → q.2.length ≤ i →
      Ev (fun k => impl_PressAll_L3 (fun _ => g_impl_Press) k (s, (s.size : Int), (i : Int), q.1.1, q.1.2.1, q.1.2.2.1, q.1.2.2.2.1, q.1.2.2.2.2, z8, z9, z10, z11, z12, q.2, ())) (pressL ((bl s).drop i) q.1 q.2) := by
    intro z8 z9 z10 z11 z12 i hi
    obtain ⟨d, hd⟩ : ∃ d, d = (bl s).length - i := ⟨_, rfl⟩
    have hbl := bl_len s
    induction d generalizing i with
    | zero =>
      intro q _ _
      have e : i = (bl s).length := by omega
      rw [List.drop_of_length_le (by omega)]
      refine Ev.step (fun w => by rw [impl_PressAll_L3]) ?_
      exact ev_neg (by omega) ev_some
    | succ d ih =>
      intro q h1 h2
      have hlt : i < (bl s).length := by omega
      have hc : (bl s).drop i = (bl s)[i] :: (bl s).drop (i + 1) := List.drop_eq_getElem_cons hlt
      have hx := u8_range ((bl s)[i])
      rw [hc]
      refine Ev.step (fun q => by rw [impl_PressAll_L3]) ?_
      refine ev_pos (by omega) (ev_pos (by omega) (ev_pos (by omega) ?_))
      rw [byt_drop hc, w64 (n := (((bl s)[i]).toNat : Int)) (by omega) (by omega), w64_succ (by omega)]
      refine ev_bind (impl_Press_eq _ _ _ _ _ _ h1) ?_
      have hp := press_digits q.1 (((bl s)[i]).toNat : Int) h1
      unfold pressL
      refine ev_dom (fun h => ?_) (fun h => ?_)
      · rw [if_pos h]
        refine ev_pos (by simp only [List.length_singleton]; omega) ?_
        exact ih (i + 1) (by omega) (by omega) ((press q.1 (((bl s)[i]).toNat : Int)).1, q.2 ++ [(press q.1 (((bl s)[i]).toNat : Int)).2.1]) hp (by simp only [List.length_append, List.length_singleton]; omega)
      · rw [if_neg h]
        exact ih (i + 1) (by omega) (by omega) ((press q.1 (((bl s)[i]).toNat : Int)).1, q.2) hp (by show q.2.length ≤ i + 1; omega)
  obtain ⟨a, b, n, d, t⟩ := m
  exact key 0 false 0 0 ⟨#[]⟩ 0 (by omega) ((a, b, n, d, t), []) hm (Nat.le_refl _)
/- impl_ordersOf -/
theorem impl_ordersOf_eq (m : Menu) (i : In) (hm : m.2.2.2.2.size ≤ 1048580) (h1 : i.2.1.size ≤ 1048580) (h2 : i.2.2.size ≤ 1048580) : g_impl_ordersOf (m, i) = some (ordersOf m i) := by
  obtain ⟨a, s, t⟩ := i
  have e1 := impl_PressAll_eq m s hm h1
  have e2 := impl_ReadOrder_eq t h2
  have hl := pressAll_len m s
  have h1 : s.size ≤ 1048580 := h1
  show (g_impl_PressAll (m, s)).bind (fun v0 => (g_impl_ReadOrder t).bind fun v1 => if v1.2 = true then if (((List.length v0.2 + List.length [v1.1] : Nat) : Int) * ((32 : Nat) : Int)) ≤ 140737488355328 then some (v0.1, (v0.2 ++ [v1.1])) else none else some v0) = _
  simp only [e1, e2, Option.bind_some]
  unfold ordersOf
  simp only []
  by_cases h : (readO t).2 = true
  · have c : (((List.length (pressAll m s).2 + List.length [(readO t).1] : Nat) : Int) * ((32 : Nat) : Int)) ≤ 140737488355328 := by
      simp only [List.length_singleton]; omega
    rw [if_pos h, if_pos h, if_pos c]
  · rw [if_neg h, if_neg h]
/- impl_InOk -/
theorem impl_InOk_eq (i : In) : g_impl_InOk i = some (inOk i) := by
  obtain ⟨a, s, t⟩ := i
  unfold g_impl_InOk impl_InOk_ inOk
  simp only [impl_SenseOk_eq, Option.bind_some]
  cases senseOk a with
  | false => simp
  | true =>
    by_cases h : s.size ≤ 20
    · have c : ((s.size : Nat) : Int) ≤ 20 := by omega
      rw [if_pos rfl, if_pos c, decide_eq_true h]
      congr 1
      simp only [Bool.true_and]
      congr 1
      rw [eq_iff_iff]
      omega
    · have c : ¬ ((s.size : Nat) : Int) ≤ 20 := by omega
      rw [if_pos rfl, if_neg c, decide_eq_false h]
      rfl
/- impl_DeviceOk -/
theorem impl_DeviceOk_eq (p : Pump) (past : List Int) (alarm : Int) (m : Menu) (ts : List Tick) (ref : Int) (h1 : past.length ≤ 9223372036854775806) (h2 : m.2.2.2.2.size ≤ 1048580) : g_impl_DeviceOk (dev p past alarm m ts ref) = some (deviceOk p past alarm m ts ref) := by
  obtain ⟨s, n, e, r, l, b, g, k⟩ := p
  obtain ⟨a, bo, nu, de, di⟩ := m
  unfold g_impl_DeviceOk impl_DeviceOk_ dev deviceOk g_impl_isNumber impl_isNumber_
  simp only [impl_PumpOk_eq, impl_GuardOk_eq past alarm h1, impl_MenuOk_eq a bo nu de di h2, impl_within_eq, Option.bind_some]
  cases pumpOk (s, n, e, r, l, b, g, k) with
  | false => simp
  | true =>
    cases guardOk past alarm with
    | false => simp
    | true =>
      cases menuOk (a, bo, nu, de, di) with
      | false => simp
      | true =>
        simp only [if_true, Bool.true_and]
        by_cases h : (ts.length : Int) ≤ 200
        · rw [if_pos h, decide_eq_true (show ts.length ≤ 200 by omega), Bool.true_and]
        · rw [if_neg h, decide_eq_false (show ¬ ts.length ≤ 200 by omega), Bool.false_and]
/- impl_copyDevice -/
theorem impl_copyDevice_eq (p : Pump) (past : List Int) (alarm : Int) (m : Menu) (ts : List Tick) (ref : Int) (h1 : past.length ≤ 1048580) (h2 : ts.length ≤ 1048580) : g_impl_copyDevice (dev p past alarm m ts ref) = some (dev p past alarm m ts ref) := by
  have e := impl_copyGuard_eq past alarm (by omega)
  unfold g_impl_copyDevice impl_copyDevice_ dev
  simp only [e, Option.bind_some, List.nil_append, List.length_nil]
  have c : (((0 + ts.length : Nat) : Int) * ((24 : Nat) : Int)) ≤ 140737488355328 := by omega
  rw [if_pos c]
/- impl_TickDevice -/
def finT (past : List Int) (alarm : Int) (m' : Menu) (ts : List Tick) (i : In) (os : List Order) (q : Pump) (r : Int) : Device :=
  dev (tickP q past (feel past alarm i.1 (seenF os))) (pass past (feel past alarm i.1 (seenF os)) (allow past (feel past alarm i.1 (seenF os)) (wants q))) (feel past alarm i.1 (seenF os)) m' (ts ++ [(allow past (feel past alarm i.1 (seenF os)) (wants q), feel past alarm i.1 (seenF os), (tickP q past (feel past alarm i.1 (seenF os))).1)]) r
set_option maxHeartbeats 2000000 in
theorem impl_TickDevice_eq (p : Pump) (past : List Int) (alarm : Int) (m : Menu) (ts : List Tick) (ref : Int) (i : In) (hp : past.length ≤ 1048580) (hm : m.2.2.2.2.size ≤ 1048580) (ht : ts.length ≤ 1048580) :
    g_impl_TickDevice (dev p past alarm m ts ref, i) = some (tickD p past alarm m ts ref i) := by
  refine evG_eq ?_
  obtain ⟨a, b, n, d, s⟩ := m
  have hm : s.size ≤ 1048580 := hm
  have e1 := impl_copyDevice_eq p past alarm (a, b, n, d, s) ts ref hp ht
  have e2 := impl_DeviceOk_eq p past alarm (a, b, n, d, s) ts ref (by omega) hm
  have e3 := impl_InOk_eq i
  unfold impl_TickDevice_ tickD
  refine ev_bind e1 (ev_bind e2 ?_)
  by_cases hd : deviceOk p past alarm (a, b, n, d, s) ts ref = true
  case neg =>
    rw [if_neg (fun q => hd q.1)]
    exact ev_neg hd ev_some
  refine ev_pos hd (ev_bind e3 ?_)
  by_cases hi : inOk i = true
  case neg =>
    rw [if_neg (fun q => hi q.2.1)]
    exact ev_neg hi ev_some
  refine ev_pos hi ?_
  by_cases h2 : ts.length = 200
  case pos =>
    rw [if_neg (fun q => q.2.2.1 h2)]
    exact ev_pos (by omega) ev_some
  refine ev_neg (by omega) ?_
  by_cases h9 : ref ≤ 999999900
  case neg =>
    rw [if_neg (fun q => h9 q.2.2.2)]
    exact ev_pos (by omega) ev_some
  refine ev_neg (by omega) ?_
  rw [if_pos ⟨hd, hi, h2, h9⟩]
  obtain ⟨i1, i2, i3⟩ := inOk_den hi
  obtain ⟨q1, q2, q3, q4, q5, q6⟩ := deviceOk_den hd
  have e4 := impl_ordersOf_eq (a, b, n, d, s) i hm (by omega) (by omega)
  have e5 := impl_ReadOrder_eq i.2.2 (by omega)
  have hlen := ordersOf_len (a, b, n, d, s) i
  refine ev_bind e4 ?_
  unfold behind
  generalize hos : (ordersOf (a, b, n, d, s) i).2 = os at hlen ⊢
  generalize (ordersOf (a, b, n, d, s) i).1 = m'
  simp only []
  have key : ∀ (d2 j : Nat), j + d2 = os.length → ∀ (q : Pump) (r : Int), 0 ≤ r → r ≤ 999999900 + (j : Int) →
      Ev (fun k => impl_TickDevice_L7 (fun _ => g_impl_Allow) (fun _ => g_impl_DeviceOk) (fun _ => g_impl_Device__order) (fun _ => g_impl_Feel) (fun _ => g_impl_Give) (fun _ => g_impl_InOk) (fun _ => g_impl_Pass) (fun _ => g_impl_ReadOrder) (fun _ => g_impl_Wants) (fun _ => g_impl_copyDevice) (fun _ => g_impl_isSeen) (fun _ => g_impl_ordersOf) k
        ((os.length : Int), (j : Int), i.1, i.2.1, i.2.2, 0, 0, 0, 0, 0, 0, 0, 0, 0, 0, false, 0, 0, (⟨#[]⟩ : ByteArray), 0, q.1, q.2.1, q.2.2.1, q.2.2.2.1, q.2.2.2.2.1, q.2.2.2.2.2.1, q.2.2.2.2.2.2.1, q.2.2.2.2.2.2.2, alarm, m'.1, m'.2.1, m'.2.2.1, m'.2.2.2.1, m'.2.2.2.2, r, os, [], [], past, ts, ()))
        (finT past alarm m' ts i os (takeL (os.drop j) q r).1 (if i.2.2.size ≠ 0 ∧ (readO i.2.2).2 = false then (takeL (os.drop j) q r).2 + 1 else (takeL (os.drop j) q r).2)) := by
    intro d2
    induction d2 with
    | zero =>
      intro j hj q r hr0 hr
      have ej : os.drop j = [] := List.drop_eq_nil_of_le (by omega)
      rw [ej]
      simp only [takeL]
      refine Ev.step (fun w => by rw [impl_TickDevice_L7]) ?_
      refine ev_neg (by omega) (ev_bind e5 ?_)
      by_cases hz : i.2.2 = ⟨#[]⟩
      · have hz2 : i.2.2.size = 0 := (eq_empty _).1 hz
        have hk2 : ¬ (i.2.2.size ≠ 0 ∧ (readO i.2.2).2 = false) := fun w => w.1 hz2
        rw [if_neg hk2]
        refine ev_pos hz ?_
        refine ev_bind (impl_isSeen_eq os (by omega)) (ev_bind (impl_Feel_eq past alarm i.1 (seenF os) (by omega)) (ev_bind (impl_Wants_eq q) (ev_bind (impl_Allow_eq past (feel past alarm i.1 (seenF os)) (wants q) (by omega)) (ev_dom (fun ha => ?_) (fun ha => ?_)))))
        · refine ev_bind (impl_Give_eq q _) (ev_bind (impl_Pass_eq past _ _ (by omega)) (ev_pos (by simp only [List.length_singleton]; omega) (ev_eq ?_)))
          have ha : feel past alarm i.1 (seenF os) = 0 := ha
          unfold finT tickP
          rw [if_pos ha]
          rfl
        · refine ev_bind (impl_Pass_eq past _ _ (by omega)) (ev_pos (by simp only [List.length_singleton]; omega) (ev_eq ?_))
          have ha : ¬ feel past alarm i.1 (seenF os) = 0 := ha
          unfold finT tickP
          rw [if_neg ha]
          rfl
      · have hz2 : i.2.2.size ≠ 0 := fun w => hz ((eq_empty _).2 w)
        refine ev_neg hz ?_
        by_cases hk : (readO i.2.2).2 = true
        · have hk2 : ¬ (i.2.2.size ≠ 0 ∧ (readO i.2.2).2 = false) := fun w => by rw [hk] at w; cases w.2
          rw [if_neg hk2]
          refine ev_pos hk ?_
          refine ev_bind (impl_isSeen_eq os (by omega)) (ev_bind (impl_Feel_eq past alarm i.1 (seenF os) (by omega)) (ev_bind (impl_Wants_eq q) (ev_bind (impl_Allow_eq past (feel past alarm i.1 (seenF os)) (wants q) (by omega)) (ev_dom (fun ha => ?_) (fun ha => ?_)))))
          · refine ev_bind (impl_Give_eq q _) (ev_bind (impl_Pass_eq past _ _ (by omega)) (ev_pos (by simp only [List.length_singleton]; omega) (ev_eq ?_)))
            have ha : feel past alarm i.1 (seenF os) = 0 := ha
            unfold finT tickP
            rw [if_pos ha]
            rfl
          · refine ev_bind (impl_Pass_eq past _ _ (by omega)) (ev_pos (by simp only [List.length_singleton]; omega) (ev_eq ?_))
            have ha : ¬ feel past alarm i.1 (seenF os) = 0 := ha
            unfold finT tickP
            rw [if_neg ha]
            rfl
        · have hk2 : i.2.2.size ≠ 0 ∧ (readO i.2.2).2 = false := ⟨hz2, by simpa using hk⟩
          rw [if_pos hk2, w64 (n := r + 1) (by omega) (by omega)]
          refine ev_neg hk ?_
          refine ev_bind (impl_isSeen_eq os (by omega)) (ev_bind (impl_Feel_eq past alarm i.1 (seenF os) (by omega)) (ev_bind (impl_Wants_eq q) (ev_bind (impl_Allow_eq past (feel past alarm i.1 (seenF os)) (wants q) (by omega)) (ev_dom (fun ha => ?_) (fun ha => ?_)))))
          · refine ev_bind (impl_Give_eq q _) (ev_bind (impl_Pass_eq past _ _ (by omega)) (ev_pos (by simp only [List.length_singleton]; omega) (ev_eq ?_)))
            have ha : feel past alarm i.1 (seenF os) = 0 := ha
            unfold finT tickP
            rw [if_pos ha]
            rfl
          · refine ev_bind (impl_Pass_eq past _ _ (by omega)) (ev_pos (by simp only [List.length_singleton]; omega) (ev_eq ?_))
            have ha : ¬ feel past alarm i.1 (seenF os) = 0 := ha
            unfold finT tickP
            rw [if_neg ha]
            rfl
    | succ d2 ih =>
      intro j hj q r hr0 hr
      have hlt : j < os.length := by omega
      have hc : os.drop j = os[j] :: os.drop (j + 1) := List.drop_eq_getElem_cons hlt
      rw [hc]
      simp only [takeL]
      refine Ev.step (fun w => by rw [impl_TickDevice_L7]) ?_
      refine ev_pos (by omega) (ev_pos (by omega) (ev_pos (by omega) ?_))
      rw [getD_drop hc, w64_succ (by omega)]
      refine ev_bind (impl_Device__order_eq q past alarm m' ts r os[j]) (ev_dom (fun hb => ?_) (fun hb => ?_))
      · have hb : (takeO q os[j]).2 = true := hb
        rw [if_pos hb]
        exact ih (j + 1) (by omega) (takeO q os[j]).1 r hr0 (by omega)
      · have hb : ¬ (takeO q os[j]).2 = true := hb
        rw [if_neg hb]
        have ew : wrap64 (r + 1) = r + 1 := w64 (by omega) (by omega)
        simp only [ew]
        exact ih (j + 1) (by omega) (takeO q os[j]).1 (r + 1) (by omega) (by omega)
  exact key os.length 0 (by omega) p ref q5 (by omega)
/- laws_turned -/
theorem laws_turned_ex (s : ByteArray) (q : List Int) (hs0 : 0 < s.size) (hs : s.size ≤ 1048580) (hq : q.length = 12) (hx : ∀ x ∈ q, 0 ≤ x) : ∃ t, g_laws_turned (s, q) = some t ∧ ∃ i y, i < s.size ∧ bl t = (bl s).set i y ∧ (bl s)[i]? ≠ some y := by
  have a0 : 0 ≤ List.getD q (Int.toNat 0) 0 := by
    have : q.getD (Int.toNat ((0 : Nat) : Int)) 0 = q[0]'(by omega) := getD_lt (i := 0) (by omega)
    show 0 ≤ q.getD (Int.toNat ((0 : Nat) : Int)) 0
    rw [this]; exact hx _ (List.getElem_mem _)
  have a1 : 0 ≤ List.getD q (Int.toNat 1) 0 := by
    have : q.getD (Int.toNat ((1 : Nat) : Int)) 0 = q[1]'(by omega) := getD_lt (i := 1) (by omega)
    show 0 ≤ q.getD (Int.toNat ((1 : Nat) : Int)) 0
    rw [this]; exact hx _ (List.getElem_mem _)
  have l0 : (0 : Int) < ((q.length : Nat) : Int) := by omega
  have l1 : (1 : Int) < ((q.length : Nat) : Int) := by omega
  have bl_ := byl_len s
  have c0 : ¬ (((byl s).length : Nat) : Int) = 0 := by omega
  have c1 : ((s.size : Nat) : Int) ≤ 9223372036854775807 := by omega
  have e0 := tmod_at a0 (byl s).length
  have hi : (List.getD q (Int.toNat 0) 0).toNat % (byl s).length < (byl s).length := Nat.mod_lt _ (by omega)
  have p0 : 0 ≤ Int.tmod (List.getD q (Int.toNat 0) 0) (((byl s).length : Nat) : Int) := by rw [e0]; exact Int.natCast_nonneg _
  have p1 : Int.tmod (List.getD q (Int.toNat 0) 0) (((byl s).length : Nat) : Int) < (((byl s).length : Nat) : Int) := by rw [e0]; exact Int.ofNat_lt.2 hi
  have e1 := turn_wr a1
  have v1 : 1 + (List.getD q (Int.toNat 1) 0).toNat % 255 < 256 := by
    have := Nat.mod_lt (List.getD q (Int.toNat 1) 0).toNat (show 0 < 255 by decide)
    omega
  unfold g_laws_turned laws_turned_
  refine ex_pos c1 (ex_neg c0 (ex_pos (Nat.le_refl 0) (ex_pos l0 (ex_neg c0 (ex_pos p0 (ex_pos p1 (ex_pos (by decide) (ex_pos l1 (ex_neg (by decide) (ex_pos p0 (ex_pos p1 ?_)))))))))))
  rw [e1, e0, Int.toNat_natCast]
  obtain ⟨y, h1, h2⟩ := turn_val (s := s) (i := (List.getD q (Int.toNat 0) 0).toNat % (byl s).length) (by omega) (v := 1 + (List.getD q (Int.toNat 1) 0).toNat % 255) (by omega) v1
  exact ⟨_, rfl, _, y, by omega, h1, h2⟩
theorem laws_turned_empty (s : ByteArray) (q : List Int) (hs0 : s.size = 0) : g_laws_turned (s, q) = some (⟨#[120]⟩ : ByteArray) := by
  have bl_ := byl_len s
  have c0 : (((byl s).length : Nat) : Int) = 0 := by omega
  have c1 : ((s.size : Nat) : Int) ≤ 9223372036854775807 := by omega
  unfold g_laws_turned laws_turned_
  exact (if_pos c1).trans (if_pos c0)
/- impl_DeviceNew -/
theorem impl_DeviceNew_eq : g_impl_DeviceNew () = some devNew := by
  unfold g_impl_DeviceNew impl_DeviceNew_
  have e1 := impl_MenuNew_eq
  have e2 := impl_PumpNew_eq
  simp only [e1, e2, Option.bind_some]
  rfl
/- spec_l01Figure -/
theorem spec_l01Figure_eq (m : Nat) (h : m < 10) : g_spec_l01Figure (m : Int) = some ((48 + m : Nat) : Int) := by
  unfold g_spec_l01Figure spec_l01Figure_
  have c : (m : Int) < 10 := by omega
  simp only [c, if_true]
  have e1 : wrap64 (48 + (m : Int)) = ((48 + m : Nat) : Int) := by
    rw [w64 (by omega) (by omega)]; omega
  have e2 : wr .u8 ((48 + m : Nat) : Int) = ((48 + m : Nat) : Int) := by rw [wr8]; omega
  rw [e1, e2]
/- spec_Decimal -/
theorem bstr_bn (x : Nat) : bstr [(x : Int)] = bn [x] := rfl
theorem Decimal_step (m : Nat) (l : List Nat) (r : ByteArray) (h0 : 0 < m) (hm : m < 10000) (hl : l.length ≤ 100)
    (h : Ev (fun k => spec_Decimal_L5 (fun _ => g_spec_l01Figure) k (((m / 10 : Nat) : Int), false, bn ((48 + m % 10) :: l), ())) r) :
    Ev (fun k => spec_Decimal_L5 (fun _ => g_spec_l01Figure) k ((m : Int), false, bn l, ())) r := by
  refine Ev.step (fun q => by rw [spec_Decimal_L5]) ?_
  have e1 : Int.tmod (m : Int) 10 = ((m % 10 : Nat) : Int) := by
    rw [Int.tmod_eq_emod_of_nonneg (by omega)]; omega
  have e2 : Int.tdiv (m : Int) 10 = ((m / 10 : Nat) : Int) := by
    rw [Int.tdiv_eq_ediv_of_nonneg (by omega)]; omega
  have e3 : wrap64 ((m / 10 : Nat) : Int) = ((m / 10 : Nat) : Int) := w64 (by omega) (by omega)
  have e4 : bstr [((48 + m % 10 : Nat) : Int)] ++ bn l = bn ((48 + m % 10) :: l) := by rw [bstr_bn, bn_append]; rfl
  rw [e1, e2, e3]
  refine ev_neg (by omega) (ev_neg (by omega) (ev_neg (by omega) (ev_bind (spec_l01Figure_eq (m % 10) (by omega)) (ev_pos ?_ (ev_neg (by omega) ?_)))))
  · rw [size_bstr, bn_size]
    simp only [List.length_singleton]
    omega
  · rw [e4]
    exact h
theorem Decimal_end (l : List Nat) : Ev (fun k => spec_Decimal_L5 (fun _ => g_spec_l01Figure) k (((0 : Nat) : Int), false, bn l, ())) (bn l) := by
  refine Ev.step (fun q => by rw [spec_Decimal_L5]) ?_
  exact ev_pos rfl (ev_neg (by simp) ev_some)
theorem spec_Decimal_eq (n : Nat) (hn : n < 10000) : g_spec_Decimal (n : Int) = some (decT n) := by
  refine evG_eq ?_
  unfold spec_Decimal_
  by_cases h0 : n = 0
  · subst h0
    exact ev_pos rfl (ev_eq rfl)
  · have c0 : ¬ (n : Int) = 0 := by omega
    have cf : decide ((n : Int) < 0) = false := decide_eq_false (by omega)
    refine ev_neg c0 ?_
    rw [cf]
    have e0 : (⟨#[]⟩ : ByteArray) = bn [] := rfl
    rw [e0]
    unfold decT decL
    by_cases h1 : n < 10
    · rw [if_pos h1]
      have q1 : n / 10 = 0 := by omega
      have q2 : n % 10 = n := by omega
      refine Decimal_step n [] _ (by omega) hn (by simp) ?_
      rw [q1, q2]
      exact Decimal_end _
    · rw [if_neg h1]
      refine Decimal_step n [] _ (by omega) hn (by simp) ?_
      by_cases h2 : n < 100
      · rw [if_pos h2]
        refine Decimal_step (n / 10) _ _ (by omega) (by omega) (by simp) ?_
        have q1 : n / 10 / 10 = 0 := by omega
        have q2 : n / 10 % 10 = n / 10 := by omega
        rw [q1, q2]
        exact Decimal_end _
      · rw [if_neg h2]
        refine Decimal_step (n / 10) _ _ (by omega) (by omega) (by simp) ?_
        by_cases h3 : n < 1000
        · rw [if_pos h3]
          refine Decimal_step (n / 10 / 10) _ _ (by omega) (by omega) (by simp) ?_
          have q1 : n / 10 / 10 / 10 = 0 := by omega
          have q2 : n / 10 / 10 % 10 = n / 100 := by omega
          rw [q1, q2]
          exact Decimal_end _
        · rw [if_neg h3]
          refine Decimal_step (n / 10 / 10) _ _ (by omega) (by omega) (by simp) ?_
          refine Decimal_step (n / 10 / 10 / 10) _ _ (by omega) (by omega) (by simp) ?_
          have q1 : n / 10 / 10 / 10 / 10 = 0 := by omega
          have q2 : n / 10 / 10 / 10 % 10 = n / 1000 := by omega
          have q3 : n / 10 / 10 % 10 = n / 100 % 10 := by omega
          rw [q1, q2, q3]
          exact Decimal_end _
/- spec_l02Four -/
theorem spec_l02Four_eq (v : Int) : g_spec_l02Four v = some (four v) := by
  unfold g_spec_l02Four spec_l02Four_
  rw [if_pos (by decide), if_pos (by decide), if_pos (by decide)]
  have e1 := shr_u32 (v := v) 24 (by decide)
  have e2 := shr_u32 (v := v) 16 (by decide)
  have e3 := shr_u32 (v := v) 8 (by decide)
  unfold four
  have p1 : (2 : Int) ^ 24 = 16777216 := by decide
  have p2 : (2 : Int) ^ 16 = 65536 := by decide
  have p3 : (2 : Int) ^ 8 = 256 := by decide
  rw [p1] at e1; rw [p2] at e2; rw [p3] at e3
  rw [← e1, ← e2, ← e3]
  rfl
/- spec_SumMore -/
theorem spec_SumMore_eq (s : ByteArray) (b : Int) (hs : s.size ≤ 1048580) : g_spec_SumMore (b, s) = some (sumF (bl s) b) := by
  have inner : ∀ (d j : Nat), j + d = 8 → ∀ (b i r : Int), Ev (fun k => spec_SumMore_L2 k (rnds d b, s, wrap64 (i + 1), ())) r → Ev (fun k => spec_SumMore_L6 k (b, s, i, (j : Int), ())) r := by
    intro d
    induction d with
    | zero =>
      intro j hj b i r h
      refine Ev.step (fun q => by rw [spec_SumMore_L6]) ?_
      exact ev_neg (by omega) h
    | succ d ih =>
      intro j hj b i r h
      refine Ev.step (fun q => by rw [spec_SumMore_L6]) ?_
      refine ev_pos (by omega) (ev_neg (by omega) (ev_neg (by omega) (ev_dom (fun hc => ?_) (fun hc => ?_))))
      · rw [w64_succ (by omega)]
        refine ih (j + 1) (by omega) _ i r ?_
        have e : rnds (d + 1) b = rnds d (ixor .u32 (wr .u32 (Int.tdiv b 2)) 3558460437) := by
          show rnds d (rnd b) = _
          unfold rnd; rw [if_pos hc]
        rw [← e]; exact h
      · rw [w64_succ (by omega)]
        refine ih (j + 1) (by omega) _ i r ?_
        have e : rnds (d + 1) b = rnds d (wr .u32 (Int.tdiv b 2)) := by
          show rnds d (rnd b) = _
          unfold rnd; rw [if_neg hc]
        rw [← e]; exact h
  refine evG_eq ?_
  unfold spec_SumMore_
  refine bytes_loop s (fun k z i => spec_SumMore_L2 k (z, s, i, ())) sumF (fun z => ?_) (fun i z x rest hx hi h => ?_) b
  · refine Ev.step (fun q => by rw [spec_SumMore_L2]) ?_
    exact ev_neg (by omega) ev_some
  · refine Ev.step (fun q => by rw [spec_SumMore_L2]) ?_
    refine ev_pos (by omega) (ev_pos (by omega) (ev_pos (by omega) ?_))
    rw [byt_drop hx]
    refine inner 8 0 rfl _ _ _ ?_
    rw [w64_succ (by omega)]
    exact h _
/- spec_SumOf -/
theorem spec_SumOf_eq (s : ByteArray) (hs : s.size ≤ 1048580) : g_spec_SumOf s = some (sumOf s) := by
  unfold g_spec_SumOf spec_SumOf_
  simp only [spec_SumMore_eq s _ hs, Option.bind_some]
  rfl
/- spec_Sealed -/
theorem size_fourS (s : ByteArray) (v : Int) (hs : s.size ≤ 1048580) : ((s.size + (four v).size : Nat) : Int) ≤ 9223372036854775807 := by
  rw [four_size]
  omega
theorem spec_Sealed_eq (s : ByteArray) (hs : s.size ≤ 1048580) : g_spec_Sealed s = some (sealT s) := by
  have c2 := size_fourS s (sumOf s) hs
  show (if 20000 < ((ByteArray.size s : Nat) : Int) then some ((⟨#[]⟩ : ByteArray), false) else (g_spec_SumOf s).bind fun v0 => (g_spec_l02Four v0).bind fun v1 => if ((ByteArray.size s + ByteArray.size v1 : Nat) : Int) ≤ 9223372036854775807 then some ((s ++ v1), true) else none) = _
  rw [spec_SumOf_eq s hs, Option.bind_some, spec_l02Four_eq, Option.bind_some, if_pos c2]
  clear c2
  unfold sealT
  by_cases h : 20000 < s.size
  · have c : (20000 : Int) < ((s.size : Nat) : Int) := by omega
    rw [if_pos c, if_pos h]
  · have c : ¬ (20000 : Int) < ((s.size : Nat) : Int) := by omega
    rw [if_neg c, if_neg h]
/- spec_l01Var -/
theorem spec_l01Var_eq (n : Nat) (hn : n ≤ 9223372036854775807) : g_spec_l01Var (n : Int) = some (varT n) := by
  refine evG_eq ?_
  unfold spec_l01Var_
  have key : ∀ (n : Nat), n ≤ 9223372036854775807 → ∀ (l : List Int), l.length + (varL n).length ≤ 1000 → Ev (fun k => spec_l01Var_L2 k ((n : Int), l, ())) (bstr (l ++ (varL n).map fun (x : Nat) => (x : Int))) := by
    intro n
    induction n using varL.induct with
    | case1 n h =>
      intro hn l hl
      refine Ev.step (fun q => by rw [spec_l01Var_L2]) ?_
      have hv : varL n = [n] := by unfold varL; rw [dif_pos h]
      rw [hv] at hl
      refine ev_neg (by omega) (ev_pos (by simp only [List.length_singleton] at hl ⊢; omega) (ev_eq ?_))
      rw [hv]
      have : wr .u8 (n : Int) = (n : Int) := by rw [wr8]; omega
      rw [this]
      rfl
    | case2 n h ih =>
      intro hn l hl
      refine Ev.step (fun q => by rw [spec_l01Var_L2]) ?_
      have hv : varL n = (n % 128 + 128) :: varL (n / 128) := by
        conv => lhs; unfold varL
        rw [dif_neg h]
      rw [hv] at hl ⊢
      simp only [List.length_cons] at hl
      refine ev_pos (by omega) (ev_neg (by omega) (ev_pos (by simp only [List.length_singleton]; omega) (ev_neg (by omega) ?_)))
      have e1 : wrap64 (Int.tdiv (n : Int) 128) = ((n / 128 : Nat) : Int) := by
        have : Int.tdiv (n : Int) 128 = ((n / 128 : Nat) : Int) := by
          rw [Int.tdiv_eq_ediv_of_nonneg (by omega)]; omega
        rw [this]
        exact w64 (by omega) (by omega)
      have e2 : wr .u8 (wrap64 ((Int.tmod (n : Int) 128) + 128)) = ((n % 128 + 128 : Nat) : Int) := by
        have : Int.tmod (n : Int) 128 = ((n % 128 : Nat) : Int) := by
          rw [Int.tmod_eq_emod_of_nonneg (by omega)]; omega
        rw [this, w64 (by omega) (by omega), wr8]
        omega
      rw [e1, e2]
      have := ih (by omega) (l ++ [((n % 128 + 128 : Nat) : Int)]) (by simp only [List.length_append, List.length_singleton]; omega)
      rw [List.append_assoc] at this
      exact this
  have h10 := varT_size hn
  unfold varT at h10
  rw [size_bstr, List.length_map] at h10
  exact key n hn [] (by simp only [List.length_nil]; omega)
/- spec_l01In -/
theorem spec_l01In_eq (a b c : Int) : g_spec_l01In (a, b, c) = some (decide (b ≤ a ∧ a ≤ c)) := by
  show (if b ≤ a then some (decide (a ≤ c)) else some false) = _
  split
  · rename_i h; refine eq_dec ?_; rw [decide_eq_true_iff]; omega
  · rename_i h; exact dec_no (by omega)
/- spec_OrderOk -/
theorem spec_OrderOk_eq (o : Order) : g_spec_OrderOk o = some (orderOk o) := by
  obtain ⟨a, b, c, x⟩ := o
  show _ = some (decide (OrderOkP a b c x))
  unfold g_spec_OrderOk spec_OrderOk_
  simp only [spec_l01In_eq, Option.bind_some, decide_eq_true_eq, mn_eq]
  by_cases h : 1 ≤ c ∧ c ≤ 1000
  · have hw : wrap64 (3 * c) = 3 * c := w64 (by omega) (by omega)
    rw [hw]
    repeat' refine ite_r (fun _ => ?_) (fun _ => ?_)
    all_goals first
      | exact dec_no (by unfold OrderOkP; omega)
      | exact dec_yes (by unfold OrderOkP; omega)
      | (exfalso; omega)
      | (exfalso; simp_all; done)
      | (refine eq_dec ?_; simp only [Bool.and_eq_true, decide_eq_true_eq, decide_true, true_and]; unfold OrderOkP; omega)
  · simp only [h, if_false]
    repeat' refine ite_r (fun _ => ?_) (fun _ => ?_)
    all_goals first
      | exact dec_no (by unfold OrderOkP; omega)
      | exact dec_yes (by unfold OrderOkP; omega)
      | (exfalso; omega)
      | (exfalso; simp_all; done)
      | (refine eq_dec ?_; simp only [Bool.and_eq_true, decide_eq_true_eq, decide_true, true_and]; unfold OrderOkP; omega)
/- spec_OrderText -/
theorem spec_OrderText_eq (o : Order) : g_spec_OrderText o = some (orderT o) := by
  obtain ⟨a, b, c, x⟩ := o
  unfold g_spec_OrderText spec_OrderText_ orderT
  simp only [spec_OrderOk_eq, Option.bind_some]
  by_cases h : orderOk (a, b, c, x) = true
  · rw [if_pos h, if_pos h]
    have hp := orderOk_den h
    unfold OrderOkP at hp
    have hb : 0 ≤ b ∧ b ≤ 1000000 := by omega
    have hc : 0 ≤ c ∧ c ≤ 1000000 := by omega
    have hx : 0 ≤ x ∧ x ≤ 1000000 := by omega
    clear hp h
    obtain ⟨nb, rfl⟩ := Int.eq_ofNat_of_zero_le hb.1
    obtain ⟨nc, rfl⟩ := Int.eq_ofNat_of_zero_le hc.1
    obtain ⟨nx, rfl⟩ := Int.eq_ofNat_of_zero_le hx.1
    have e1 := spec_l01Var_eq nb (by omega)
    have e2 := spec_l01Var_eq nc (by omega)
    have e3 := spec_l01Var_eq nx (by omega)
    have s1 := varT_size (n := nb) (by omega)
    have s2 := varT_size (n := nc) (by omega)
    have s3 := varT_size (n := nx) (by omega)
    unfold otext
    simp only [e1, e2, e3, Option.bind_some, Int.toNat_natCast]
    clear e1 e2 e3
    generalize varT nb = B at *
    generalize varT nc = C at *
    generalize varT nx = X at *
    have s0 : (bstr [wr .u8 a]).size = 1 := by rw [size_bstr]; rfl
    generalize bstr [wr .u8 a] = A at *
    have c1 : ((A.size + B.size : Nat) : Int) ≤ 9223372036854775807 := by omega
    have c2 : (((A ++ B).size + C.size : Nat) : Int) ≤ 9223372036854775807 := by rw [size_append]; omega
    have c3 : (((A ++ B ++ C).size + X.size : Nat) : Int) ≤ 9223372036854775807 := by rw [size_append, size_append]; omega
    rw [if_pos c1, if_pos c2, if_pos c3]
    have hz : (A ++ B ++ C ++ X).size ≤ 1048580 := by rw [size_append, size_append, size_append]; omega
    rw [spec_Sealed_eq _ hz]
    rfl
  · rw [if_neg h, if_neg h]
/- spec_l01Byte -/
theorem and255 (x : Int) : 0 ≤ iand .i64 x 255 ∧ iand .i64 x 255 ≤ 255 := by
  have e : iand .i64 x 255 = IntKind.i64.wrap (((BitVec.ofInt 64 x &&& BitVec.ofInt 64 255).toNat : Nat) : Int) := rfl
  have h : (BitVec.ofInt 64 x &&& BitVec.ofInt 64 255).toNat ≤ 255 := by
    rw [BitVec.toNat_and]
    exact Nat.le_trans Nat.and_le_right (by decide)
  rw [e, IntKind.wrap_i64]
  omega
theorem l01Byte_some (l : List Int) (i s : Int) (hl : l.length ≤ 1048576) (hi : 0 ≤ i) : ∃ b i' s', g_spec_l01Byte (l, i, s) = some (b, ((), i', s')) ∧ 0 ≤ b ∧ b ≤ 255 ∧ 0 ≤ i' := by
  unfold g_spec_l01Byte spec_l01Byte_
  simp only []
  rw [if_pos (by omega), if_pos (by omega)]
  by_cases h : i < (l.length : Int)
  · rw [if_pos h, if_pos hi, if_pos h, w64 (n := i + 1) (by omega) (by omega)]
    exact ⟨_, _, _, rfl, (and255 _).1, (and255 _).2, by omega⟩
  · rw [if_neg h]
    exact ⟨_, _, _, rfl, (and255 _).1, (and255 _).2, hi⟩
/- spec_l01Below -/
theorem l01Below_some (l : List Int) (i s n : Int) (hl : l.length ≤ 1048576) (hi : 0 ≤ i) (hn : 0 < n) : ∃ v i' s', g_spec_l01Below ((l, i, s), n) = some (v, ((), i', s')) ∧ 0 ≤ v ∧ v < n ∧ 0 ≤ i' := by
  unfold g_spec_l01Below spec_l01Below_
  simp only []
  rw [if_neg (by omega)]
  by_cases h : n ≤ 256
  · rw [if_pos h]
    obtain ⟨b, i1, s1, e, h1, h2, h3⟩ := l01Byte_some l i s hl hi
    rw [e, Option.bind_some, if_neg (by omega)]
    exact ⟨_, _, _, rfl, Int.tmod_nonneg _ h1, Int.tmod_lt_of_pos _ hn, h3⟩
  · rw [if_neg h]
    obtain ⟨b1, i1, s1, e1, h11, h12, h13⟩ := l01Byte_some l i s hl hi
    obtain ⟨b2, i2, s2, e2, h21, h22, h23⟩ := l01Byte_some l i1 s1 hl h13
    obtain ⟨b3, i3, s3, e3, h31, h32, h33⟩ := l01Byte_some l i2 s2 hl h23
    obtain ⟨b4, i4, s4, e4, h41, h42, h43⟩ := l01Byte_some l i3 s3 hl h33
    simp only [e1, e2, e3, e4, Option.bind_some]
    rw [if_neg (by omega)]
    refine ⟨_, _, _, rfl, Int.tmod_nonneg _ ?_, Int.tmod_lt_of_pos _ hn, h43⟩
    show 0 ≤ wrap64 ((wrap64 ((wrap64 ((wrap64 (b1 * 16777216)) + (wrap64 (b2 * 65536)))) + (wrap64 (b3 * 256)))) + b4)
    unfold wrap64; omega
/- spec_l01New -/
theorem l01New_ev (l : List Int) (hl : l.length ≤ 1048576) : ∃ x, g_spec_l01New l = some ((), 0, x) := by
  have key : ∀ (d : Nat) (i : Nat), l.length = i + d → ∀ x, ∃ y, Ev (fun k => spec_l01New_L3 k (x, (i : Int), l, ())) ((), (0 : Int), y) := by
    intro d
    induction d with
    | zero =>
      intro i hi x
      exact ⟨x, Ev.step (fun q => by rw [spec_l01New_L3]) (ev_neg (by omega) ev_some)⟩
    | succ d ih =>
      intro i hi x
      by_cases h4 : (i : Int) < 4000
      · obtain ⟨y, hy⟩ := ih (i + 1) (by omega) _
        refine ⟨y, Ev.step (fun q => by rw [spec_l01New_L3]) (ev_pos (by omega) (ev_pos h4 (ev_pos (by omega) (ev_pos (by omega) ?_))))⟩
        rw [w64_succ (by omega)]
        exact hy
      · exact ⟨x, Ev.step (fun q => by rw [spec_l01New_L3]) (ev_pos (by omega) (ev_neg h4 ev_some))⟩
  obtain ⟨y, hy⟩ := key l.length 0 (by omega) _
  exact ⟨y, evG_eq hy⟩
/- spec_DrawPlaces -/
theorem spec_DrawPlaces_some (code : List Int) (hl : code.length ≤ 1048576) : ∃ q, g_spec_DrawPlaces code = some q ∧ q.length = 12 ∧ ∀ x ∈ q, 0 ≤ x ∧ x < 10000 := by
  have key : ∀ (d n : Nat), n + d = 12 → ∀ (i h : Int) (q : List Int), 0 ≤ i → q.length = n → (∀ x ∈ q, 0 ≤ x ∧ x < 10000) →
      ∃ q', Ev (fun k => spec_DrawPlaces_L5 (fun _ => g_spec_l01Below) (fun _ => g_spec_l01Byte) (fun _ => g_spec_l01New) k ((n : Int), code, i, h, q, ())) q' ∧ q'.length = 12 ∧ ∀ x ∈ q', 0 ≤ x ∧ x < 10000 := by
    intro d
    induction d with
    | zero =>
      intro n hn i h q hi hq hx
      exact ⟨q, Ev.step (fun q => by rw [spec_DrawPlaces_L5]) (ev_neg (by omega) ev_some), by omega, hx⟩
    | succ d ih =>
      intro n hn i h q hi hq hx
      obtain ⟨v, i', s', e, h1, h2, h3⟩ := l01Below_some code i h 10000 hl hi (by omega)
      obtain ⟨q', h4, h5⟩ := ih (n + 1) (by omega) i' s' (q ++ [v]) h3 (by simp [hq]) (fun x hx' => by
        rcases List.mem_append.1 hx' with hx' | hx'
        · exact hx x hx'
        · simp at hx'; subst hx'; exact ⟨h1, h2⟩)
      refine ⟨q', Ev.step (fun q => by rw [spec_DrawPlaces_L5]) (ev_pos (by omega) (ev_bind e (ev_pos ?_ ?_))), h5⟩
      · simp only [List.length_singleton, hq]; omega
      · rw [w64_succ (by omega)]
        exact h4
  obtain ⟨x, hn⟩ := l01New_ev code hl
  obtain ⟨b, i', s', e, _, _, h3⟩ := l01Byte_some code 0 x hl (by omega)
  obtain ⟨q, h4, h5⟩ := key 12 0 rfl i' s' [] h3 rfl (fun x hx => by cases hx)
  refine ⟨q, evG_eq ?_, h5⟩
  unfold spec_DrawPlaces_
  exact ev_bind hn (ev_bind e h4)
/- laws_big -/
theorem laws_big_eq (l : List Int) : g_laws_big l = some (decide (1048576 < (l.length : Int))) := rfl
/- laws_FnLinks -/
theorem impl_tick_new (i : In) : g_impl_TickDevice (devNew, i) = some (tick devNew i) := impl_TickDevice_eq (0, 0, 1, 0, 0, 0, 0, 0) [] 0 menuNew [] 0 i (Nat.zero_le _) (Nat.zero_le _) (Nat.zero_le _)
theorem links_fin {A B : Device} (hAB : A = B) (h1 : 1 ≤ A.1) (hl : A.2.2.2.2.2.2.2.2.2.2.2.2.2.2.2.1.length ≤ 9223372036854775806) : g_laws_sameTicks (A.2.2.2.2.2.2.2.2.2.2.2.2.2.2.2.1, B.2.2.2.2.2.2.2.2.2.2.2.2.2.2.2.1) = some true := by
  subst hAB
  exact laws_sameTicks_refl _ hl
theorem told_ticks {num den vol : Int} (h : orderOk (1, num, den, vol) = true) : (tick (told num den vol) inE).2.2.2.2.2.2.2.2.2.2.2.2.2.2.2.1.length ≤ 9223372036854775806 := by
  have hL := (told_life h).tick inE_ok (by decide)
  have : (tick (told num den vol) inE).2.2.2.2.2.2.2.2.2.2.2.2.2.2.2.1.length = 0 + 1 := hL.len
  omega
theorem links_text (num den vol : Nat) : ((((((((⟨#[98]⟩ : ByteArray) ++ decT num) ++ (⟨#[10]⟩ : ByteArray)) ++ decT den) ++ (⟨#[10]⟩ : ByteArray)) ++ decT vol) ++ (⟨#[10]⟩ : ByteArray))) = bn [98] ++ decT num ++ bn [10] ++ decT den ++ bn [10] ++ decT vol ++ bn [10] := rfl
theorem t_FnLinks (S : List Int) : g_laws_FnLinks S = some true := by
  suffices H : ∃ r, g_laws_FnLinks S = some r ∧ r = true by
    obtain ⟨r, h, rfl⟩ := H
    exact h
  unfold g_laws_FnLinks laws_FnLinks_
  refine ex_bind (laws_big_eq S) ?_
  by_cases hb : decide (1048576 < (S.length : Int)) = true
  · exact ex_pos hb ⟨_, rfl, rfl⟩
  refine ex_neg hb ?_
  have hS : S.length ≤ 1048576 := by
    rw [decide_eq_true_eq] at hb; omega
  clear hb
  obtain ⟨q, hq, h12, hx⟩ := spec_DrawPlaces_some S hS
  have at_ : ∀ i : Nat, i < 12 → 0 ≤ q.getD i 0 := fun i hi => by
    have : q.getD i 0 = q[i]'(by omega) := getD_lt (i := i) (by omega)
    rw [this]; exact (hx _ (List.getElem_mem _)).1
  have l0 : 0 < ((q.length : Nat) : Int) := by omega
  have l1 : 1 < ((q.length : Nat) : Int) := by omega
  have l2 : 2 < ((q.length : Nat) : Int) := by omega
  have a0 : 0 ≤ List.getD q (Int.toNat 0) 0 := at_ 0 (by omega)
  have a1 : 0 ≤ List.getD q (Int.toNat 1) 0 := at_ 1 (by omega)
  have a2 : 0 ≤ List.getD q (Int.toNat 2) 0 := at_ 2 (by omega)
  clear at_
  obtain ⟨num, den, vol, n1, n2, n3, n4, B⟩ := links_nums _ _ _ a0 a1 a2
  clear a0 a1 a2
  have ho := links_order B
  have hot := spec_OrderText_eq (1, (num : Int), (den : Int), (vol : Int))
  have c3 : ¬ ((3 * den : Nat) : Int) = 0 := by omega
  have k1 : num < 10000 := by omega
  have k2 : den < 10000 := by omega
  have k3 : vol < 10000 := by omega
  obtain ⟨o1, o2, o3, o4⟩ := readO_order ho
  obtain ⟨u, g1, i, y, g2, g3, g4⟩ := laws_turned_ex (orderT (1, (num : Int), (den : Int), (vol : Int))).1 q (by omega) (Nat.le_trans o2 (by decide)) h12 (fun x hh => (hx x hh).1)
  have g5 := orderT_turned ho g2 g3 g4
  have hu : u.size = (orderT (1, (num : Int), (den : Int), (vol : Int))).1.size := by rw [size_bl, g3, List.length_set, ← size_bl]
  obtain ⟨past, ts, ec⟩ := tick_refused (t := u) (by omega) (by omega) (by rw [readO_bent g5])
  have z1 := decT_size (n := num)
  have z2 := decT_size (n := den)
  have z3 := decT_size (n := vol)
  have y1 : (⟨#[98]⟩ : ByteArray).size = 1 := rfl
  have y2 : (⟨#[10]⟩ : ByteArray).size = 1 := rfl
  have s1 : (((⟨#[98]⟩ : ByteArray).size + (decT num).size : Nat) : Int) ≤ 9223372036854775807 := by omega
  have s2 : ((((⟨#[98]⟩ : ByteArray) ++ decT num).size + (⟨#[10]⟩ : ByteArray).size : Nat) : Int) ≤ 9223372036854775807 := by simp only [size_append]; omega
  have s3 : (((((⟨#[98]⟩ : ByteArray) ++ decT num) ++ (⟨#[10]⟩ : ByteArray)).size + (decT den).size : Nat) : Int) ≤ 9223372036854775807 := by simp only [size_append]; omega
  have s4 : ((((((⟨#[98]⟩ : ByteArray) ++ decT num) ++ (⟨#[10]⟩ : ByteArray)) ++ decT den).size + (⟨#[10]⟩ : ByteArray).size : Nat) : Int) ≤ 9223372036854775807 := by simp only [size_append]; omega
  have s5 : (((((((⟨#[98]⟩ : ByteArray) ++ decT num) ++ (⟨#[10]⟩ : ByteArray)) ++ decT den) ++ (⟨#[10]⟩ : ByteArray)).size + (decT vol).size : Nat) : Int) ≤ 9223372036854775807 := by simp only [size_append]; omega
  have s6 : ((((((((⟨#[98]⟩ : ByteArray) ++ decT num) ++ (⟨#[10]⟩ : ByteArray)) ++ decT den) ++ (⟨#[10]⟩ : ByteArray)) ++ decT vol).size + (⟨#[10]⟩ : ByteArray).size : Nat) : Int) ≤ 9223372036854775807 := by simp only [size_append]; omega
  have ea := impl_tick_new (0, ⟨#[]⟩, (orderT (1, (num : Int), (den : Int), (vol : Int))).1)
  rw [told_link ho] at ea
  have eb := impl_tick_new (0, bn [98] ++ decT num ++ bn [10] ++ decT den ++ bn [10] ++ decT vol ++ bn [10], ⟨#[]⟩)
  rw [told_keys ho k1 k2 k3, ← links_text] at eb
  have ec2 := impl_tick_new (0, ⟨#[]⟩, u)
  rw [ec] at ec2
  have hst := told_state ho
  have htk := told_ticks ho
  have d1 := spec_Decimal_eq num k1
  have d2 := spec_Decimal_eq den k2
  have d3 := spec_Decimal_eq vol k3
  refine ex_bind hq ?_
  rw [n3, n4, n2, n1]
  clear n1 n2 n3 n4 hx
  refine ex_pos (by decide) (ex_pos l0 (ex_neg (by decide) (ex_pos (by decide) (ex_pos l2 (ex_neg (by decide) (ex_pos (by decide) (ex_pos l1 (ex_neg c3 (ex_bind hot ?_)))))))))
  refine ex_bind impl_DeviceNew_eq (ex_bind ea (ex_bind impl_DeviceNew_eq (ex_bind d1 (ex_pos s1 (ex_pos s2 (ex_bind d2 (ex_pos s3 (ex_pos s4 (ex_bind d3 (ex_pos s5 (ex_pos s6 (ex_bind eb (ex_bind impl_DeviceNew_eq (ex_bind g1 (ex_bind ec2 ?_)))))))))))))))
  generalize tick (told (num : Int) (den : Int) (vol : Int)) inE = T at hst htk ⊢
  have hsame := laws_sameTicks_refl T.2.2.2.2.2.2.2.2.2.2.2.2.2.2.2.1 htk
  refine ex_pos o1 (ex_pos rfl (ex_pos rfl (ex_pos rfl (ex_pos rfl (ex_pos rfl (ex_pos rfl (ex_pos rfl (ex_pos rfl (ex_bind hsame (ex_pos rfl (ex_pos hst (ex_pos rfl (ex_bind impl_PumpNew_eq ?_)))))))))))))
  exact ⟨_, rfl, rfl⟩
end Go.Sx.T
