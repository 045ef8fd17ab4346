/- Functions of the program as functions of Lean, and that the program keeps to them. -/
import Derived.Test.YtogagfoikapbpaaGreatFnWatchesA1
set_option maxRecDepth 100000
set_option linter.unusedVariables false
set_option linter.unusedSimpArgs false
namespace Go.Proofs
end Go.Proofs
namespace Go.Sx.T
open Go Go.Sx Go.Proofs Go.RowKit
/- impl_AddSat -/
theorem impl_AddSat_eq (a b : Int) : g_impl_AddSat (a, b) = some (addSat a b) := by
  have e : ∀ n, g_impl_bounded n = some (bnd n) := fun n => by
    unfold g_impl_bounded impl_bounded_ bnd
    simp only [mn_eq, mx_eq]
  unfold g_impl_AddSat impl_AddSat_ addSat
  simp only [e, Option.bind_some, w64_bnd]
/- impl_TotalOf -/
theorem impl_TotalOf_eq (l : List Tick) (hl : l.length ≤ 1048580) : g_impl_TotalOf l = some (totalF l 0) := by
  refine evG_eq ?_
  refine list_loop l (fun k s i => impl_TotalOf_L3 (fun _ => g_impl_AddSat) k (s, (l.length : Int), i, l, ())) totalF (fun s => ?_) (fun i s x rest hx hi h => ?_) 0 (by omega) 0
  · refine Ev.step (fun q => by rw [impl_TotalOf_L3]) ?_
    exact ev_neg (by omega) ev_some
  · refine Ev.step (fun q => by rw [impl_TotalOf_L3]) ?_
    refine ev_pos (by omega) (ev_pos (by omega) (ev_pos (by omega) ?_))
    rw [getD_drop hx, w64_succ (by omega)]
    exact ev_bind (impl_AddSat_eq _ _) (h _)
/- impl_StopsOnAlarm -/
theorem impl_StopsOnAlarm_eq (l : List Tick) (hl : l.length ≤ 1048580) : g_impl_StopsOnAlarm l = some (stops l) := by
  refine evG_eq ?_
  refine list_loop l (fun k (_ : Unit) i => impl_StopsOnAlarm_L2 k ((l.length : Int), i, l, ())) (fun r _ => stops r) (fun s => ?_) (fun i s x rest hx hi h => ?_) 0 (by omega) ()
  · refine Ev.step (fun q => by rw [impl_StopsOnAlarm_L2]) ?_
    exact ev_neg (by omega) ev_some
  · refine Ev.step (fun q => by rw [impl_StopsOnAlarm_L2]) ?_
    refine ev_pos (by omega) (ev_pos (by omega) (ev_pos (by omega) ?_))
    rw [getD_drop hx, w64_succ (by omega), stops_cons]
    refine ev_dom (fun h1 => ?_) (fun h1 => ev_dom (fun h2 => ?_) (fun h2 => ?_))
    · rw [decide_eq_true (Or.inl h1), Bool.true_and]; exact h ()
    · rw [decide_eq_true (Or.inr h2), Bool.true_and]; exact h ()
    · rw [decide_eq_false (fun q => q.elim h1 h2), Bool.false_and]; exact ev_some
/- impl_WithinLimits -/
theorem impl_WithinLimits_eq (l : List Tick) (hl : l.length ≤ 1048580) : g_impl_WithinLimits l = some (limF l) := by
  refine evG_eq ?_
  have inner : ∀ (i : Nat) (r : Bool), i < l.length → Ev (fun k => impl_WithinLimits_L2 (fun _ => g_impl_AddSat) k ((l.length : Int), (i : Int) + 1, l, ())) r → ∀ (w : List Tick), w.length ≤ 1048580 → ∀ s : Int, Ev (fun k => impl_WithinLimits_L6 (fun _ => g_impl_AddSat) k (s, (l.length : Int), (i : Int), (w.length : Int), 0, l, w, ())) (winF w s && r) := by
    intro i r hi hr w hw s
    refine list_loop w (fun k s j => impl_WithinLimits_L6 (fun _ => g_impl_AddSat) k (s, (l.length : Int), (i : Int), (w.length : Int), j, l, w, ())) (fun q s => winF q s && r) (fun s => ?_) (fun j s x rest hx hj h => ?_) 0 (by omega) s
    · refine Ev.step (fun q => by rw [impl_WithinLimits_L6]) ?_
      rw [w64_succ (i := i) (by omega)]
      refine ev_neg (by omega) (Ev.cast hr ?_)
      simp [winF]
    · refine Ev.step (fun q => by rw [impl_WithinLimits_L6]) ?_
      refine ev_pos (by omega) (ev_pos (by omega) (ev_pos (by omega) ?_))
      rw [getD_drop hx, w64_succ (i := j) (by omega)]
      refine ev_bind (impl_AddSat_eq _ _) ?_
      unfold winF
      refine ev_dom (fun h1 => ?_) (fun h1 => ?_)
      · rw [if_pos h1, Bool.false_and]; exact ev_some
      · rw [if_neg h1]; exact h _
  refine list_loop l (fun k (_ : Unit) i => impl_WithinLimits_L2 (fun _ => g_impl_AddSat) k ((l.length : Int), i, l, ())) (fun r _ => limF r) (fun s => ?_) (fun i s x rest hx hi h => ?_) 0 (by omega) ()
  · refine Ev.step (fun q => by rw [impl_WithinLimits_L2]) ?_
    exact ev_neg (by omega) ev_some
  · refine Ev.step (fun q => by rw [impl_WithinLimits_L2]) ?_
    have e1 : wrap64 ((i : Int) + 10) = (i : Int) + 10 := w64 (by omega) (by omega)
    rw [e1, mn_eq]
    have e2 : (min ((i : Int) + 10) (l.length : Int)).toNat = min (i + 10) l.length := by omega
    rw [e2, Int.toNat_natCast]
    refine ev_pos (by omega) (ev_pos (by omega) (ev_pos (by omega) (ev_pos (by omega) (ev_pos (by omega) ?_))))
    have e3 : (l.take (min (i + 10) l.length)).drop i = (x :: rest).take 10 := by
      rw [List.drop_take, hx]
      have : (x :: rest).length = l.length - i := by rw [← hx, List.length_drop]
      by_cases hc : i + 10 ≤ l.length
      · rw [Nat.min_eq_left hc, Nat.add_sub_cancel_left]
      · rw [Nat.min_eq_right (by omega), List.take_of_length_le (by omega), List.take_of_length_le (by omega)]
    rw [e3]
    unfold limF
    exact inner i (limF rest) hi (h ()) ((x :: rest).take 10) (by rw [List.length_take]; omega) 0
/- impl_within -/
theorem impl_within_eq (a b c : Int) : g_impl_within (a, b, c) = some (decide (b ≤ a ∧ a ≤ c)) := by
  show (if b ≤ a then some (decide (a ≤ c)) else some false) = _
  split
  · rename_i h; refine eq_dec ?_; rw [decide_eq_true_iff]; omega
  · rename_i h; exact dec_no (by omega)
/- impl_MenuNew -/
theorem impl_MenuNew_eq : g_impl_MenuNew () = some menuNew := rfl
/- impl_MenuOk -/
theorem impl_MenuOk_eq (a : Int) (b : Bool) (n d : Int) (s : ByteArray) (hs : s.size ≤ 1048580) : g_impl_MenuOk (a, b, n, d, s) = some (menuOk (a, b, n, d, s)) := by
  refine evG_eq ?_
  unfold impl_MenuOk_
  refine Ev.cast (bytes_loop s (fun k (_ : Unit) i => impl_MenuOk_L2 (fun _ => g_impl_MenuNew) (fun _ => g_impl_within) k ((s.size : Int), i, a, b, n, d, s, ())) (fun r _ => digitsOk r && (if a = 1 then decide (s.size = 0 ∧ b = false ∧ n = 0 ∧ d = 0) else decide ((2 ≤ a ∧ a ≤ 4) ∧ (0 ≤ n ∧ n ≤ 9999) ∧ (0 ≤ d ∧ d ≤ 9999) ∧ s.size ≤ 4))) (fun _ => ?_) (fun i _ x rest hx hi h => ?_) ()) ?_
  · refine Ev.step (fun q => by rw [impl_MenuOk_L2]) ?_
    refine ev_neg (by omega) ?_
    by_cases h1 : a = 1
    · refine ev_pos h1 (ev_bind impl_MenuNew_eq (Ev.cast ev_some ?_))
      rw [if_pos h1]
      show (decide (a = 1) && ((b == false) && (decide (n = 0) && (decide (d = 0) && decide (s = ⟨#[]⟩))))) = (digitsOk [] && decide (s.size = 0 ∧ b = false ∧ n = 0 ∧ d = 0))
      rw [Bool.eq_iff_iff]
      simp only [Bool.and_eq_true, decide_eq_true_iff, beq_iff_eq, eq_empty]
      constructor
      · rintro ⟨_, h2, h3, h4, h5⟩; exact ⟨rfl, h5, h2, h3, h4⟩
      · rintro ⟨_, h5, h2, h3, h4⟩; exact ⟨h1, h2, h3, h4, h5⟩
    · refine ev_neg h1 ?_
      simp only [impl_within_eq, Option.bind_some, decide_eq_true_eq, if_neg h1]
      refine ev_eq ?_
      show _ = some (digitsOk [] && _)
      rw [show digitsOk [] = true from rfl, Bool.true_and]
      repeat' refine ite_r (fun _ => ?_) (fun _ => ?_)
      all_goals first
        | exact dec_no (by omega)
        | (refine eq_dec ?_; rw [decide_eq_true_iff]; omega)
  · refine Ev.step (fun q => by rw [impl_MenuOk_L2]) ?_
    refine ev_pos (by omega) (ev_pos (by omega) (ev_pos (by omega) ?_))
    have := u8_range x
    rw [byt_drop hx, w64_succ (by omega), w64 (by omega) (by omega)]
    refine ev_bind (impl_within_eq _ _ _) ?_
    by_cases h1 : 48 ≤ (x.toNat : Int) ∧ (x.toNat : Int) ≤ 57
    · refine ev_pos (decide_eq_true h1) (Ev.cast (h ()) ?_)
      rw [digitsOk_cons, decide_eq_true h1, Bool.true_and]
    · refine ev_neg (by simpa using h1) (Ev.cast ev_some ?_)
      rw [digitsOk_cons, decide_eq_false h1]; rfl
  · show _ = decide (MenuOkP a b n d s)
    rw [Bool.eq_iff_iff]
    refine Iff.trans ?_ decide_eq_true_iff.symm
    rw [Bool.and_eq_true]
    unfold MenuOkP
    by_cases h1 : a = 1
    · rw [if_pos h1, decide_eq_true_iff]
      constructor
      · rintro ⟨h2, h3, h4, h5, h6⟩; exact ⟨h2, by omega, by omega, by omega, by omega, fun _ => ⟨h3, h4, h5, h6⟩⟩
      · rintro ⟨h2, _, _, _, _, h3⟩; exact ⟨h2, h3 h1⟩
    · rw [if_neg h1, decide_eq_true_iff]
      constructor
      · rintro ⟨h2, h3, h4, h5, h6⟩; exact ⟨h2, by omega, h4, h5, h6, fun q => absurd q h1⟩
      · rintro ⟨h2, h3, h4, h5, h6, _⟩; exact ⟨h2, by omega, h4, h5, h6⟩
/- impl_SenseOk -/
theorem impl_SenseOk_eq (a : Int) : g_impl_SenseOk a = some (senseOk a) := by
  unfold g_impl_SenseOk impl_SenseOk_
  simp only [impl_within_eq, Option.bind_some]; rfl
/- impl_RoomOf -/
theorem impl_RoomOf_eq (l : List Int) (a : Int) (hl : l.length ≤ 9223372036854775806) : g_impl_RoomOf (l, a) = some (wrap64 (30 - l.sum)) := by
  refine evG_eq ?_
  unfold impl_RoomOf_
  refine Ev.congr (g := fun k => impl_RoomOf_L3 k (wrap64 30, (l.length : Int), ((0 : Nat) : Int), l, ())) (fun k => by rw [w64 (n := 30) (by omega) (by omega)]; rfl) ?_
  refine Ev.cast (list_loop l (fun k s i => impl_RoomOf_L3 k (wrap64 s, (l.length : Int), i, l, ())) (fun r s => wrap64 (s - r.sum)) (fun s => ?_) (fun i s x rest hx hi h => ?_) 0 (by omega) 30) (by simp)
  · refine Ev.step (fun q => by rw [impl_RoomOf_L3]) ?_
    exact ev_neg (by omega) (Ev.cast ev_some (by simp))
  · refine Ev.step (fun q => by rw [impl_RoomOf_L3]) ?_
    refine ev_pos (by omega) (ev_pos (by omega) (ev_pos (by omega) ?_))
    rw [getD_drop hx, w64_succ (by omega), wrap64_sub]
    refine Ev.cast (h (s - x)) ?_
    congr 1
    simp only [List.sum_cons]; omega
/- impl_GuardOk -/
theorem impl_GuardOk_eq (l : List Int) (a : Int) (hl : l.length ≤ 9223372036854775806) : g_impl_GuardOk (l, a) = some (guardOk l a) := by
  refine evG_eq ?_
  unfold impl_GuardOk_
  have hend : Ev (fun k => impl_GuardOk_L2 (fun _ => g_impl_RoomOf) (fun _ => g_impl_SenseOk) (fun _ => g_impl_within) k ((l.length : Int), (l.length : Int), l, a, ())) (if pastOk l = true then guardOk l a else decide (l.length ≤ 9) && decide (0 ≤ wrap64 (30 - l.sum)) && senseOk a) := by
    refine Ev.step (fun q => by rw [impl_GuardOk_L2]) ?_
    refine ev_neg (by omega) ?_
    by_cases h9 : (l.length : Int) ≤ 9
    · refine ev_pos h9 (ev_bind (impl_RoomOf_eq l a hl) ?_)
      simp only [impl_SenseOk_eq, Option.bind_some]
      have h9' : l.length ≤ 9 := by omega
      by_cases hp : pastOk l = true
      · have hs := pastOk_sum hp
        rw [w64 (by omega) (by omega), if_pos hp]
        unfold guardOk
        rw [hp]
        by_cases h30 : l.sum ≤ 30
        · refine ev_pos (by omega) (Ev.cast ev_some ?_)
          simp [h9', h30]
        · refine ev_neg (by omega) (Ev.cast ev_some ?_)
          simp [h30]
      · rw [if_neg hp]
        by_cases h30 : 0 ≤ wrap64 (30 - l.sum)
        · refine ev_pos h30 (Ev.cast ev_some ?_)
          simp [h9', h30]
        · refine ev_neg h30 (Ev.cast ev_some ?_)
          simp [h30]
    · refine ev_neg h9 (Ev.cast ev_some ?_)
      have h9' : ¬ l.length ≤ 9 := by omega
      unfold guardOk
      split <;> simp [h9']
  refine Ev.cast (list_loop l (fun k (_ : Unit) i => impl_GuardOk_L2 (fun _ => g_impl_RoomOf) (fun _ => g_impl_SenseOk) (fun _ => g_impl_within) k ((l.length : Int), i, l, a, ())) (fun r _ => pastOk r && (if pastOk l = true then guardOk l a else decide (l.length ≤ 9) && decide (0 ≤ wrap64 (30 - l.sum)) && senseOk a)) (fun _ => Ev.cast hend (by simp [pastOk])) (fun i _ x rest hx hi h => ?_) 0 (by omega) ()) ?_
  · refine Ev.step (fun q => by rw [impl_GuardOk_L2]) ?_
    refine ev_pos (by omega) (ev_pos (by omega) (ev_pos (by omega) ?_))
    rw [getD_drop hx, impl_within_eq, w64_succ (by omega)]
    simp only [Option.bind_some, decide_eq_true_eq]
    by_cases hx2 : 0 ≤ x ∧ x ≤ 30
    · refine ev_pos hx2 (Ev.cast (h ()) ?_)
      rw [pastOk_cons]; simp [hx2]
    · refine ev_neg hx2 (Ev.cast ev_some ?_)
      rw [pastOk_cons]; simp [hx2]
  · simp only [List.drop_zero]
    cases hp : pastOk l with
    | true => simp
    | false => unfold guardOk; rw [hp]; simp
/- impl_RateOk -/
theorem impl_RateOk_eq (n d r : Int) : g_impl_RateOk (n, d, r) = some (rateOk n d r) := by
  unfold g_impl_RateOk impl_RateOk_ rateOk
  simp only [impl_within_eq, Option.bind_some, decide_eq_true_eq]
  by_cases h1 : 0 ≤ n ∧ n ≤ 1000000
  · by_cases h2 : 1 ≤ d ∧ d ≤ 1000000
    · rw [if_pos h1, if_pos h2, w64 (by omega) (by omega)]
      refine eq_dec ?_
      rw [decide_eq_true_iff]; unfold RateOkP; omega
    · rw [if_pos h1, if_neg h2]; exact dec_no (by unfold RateOkP; omega)
  · rw [if_neg h1]; exact dec_no (by unfold RateOkP; omega)
/- impl_PumpOk -/
theorem impl_PumpOk_eq (p : Pump) : g_impl_PumpOk p = some (pumpOk p) := by
  obtain ⟨s, n, d, r, l, b, g, k⟩ := p
  show _ = some (decide (PumpOkP s n d r l b g k))
  unfold g_impl_PumpOk impl_PumpOk_
  simp only [impl_within_eq, impl_RateOk_eq, Option.bind_some, decide_eq_true_eq, rateOk, beq_iff_eq, Bool.true_eq, Bool.false_eq, decide_eq_false_iff_not, decide_eq_decide]
  by_cases h : RateOkP n d r
  · have hw : wrap64 (3 * d) = 3 * d := by unfold RateOkP at h; exact w64 (by omega) (by omega)
    rw [hw]
    have h0 := h
    unfold RateOkP at h
    repeat' refine ite_r (fun _ => ?_) (fun _ => ?_)
    all_goals first
      | exact absurd h0 (by assumption)
      | exact dec_no (by unfold PumpOkP RateOkP; omega)
      | exact dec_yes (by unfold PumpOkP RateOkP; omega)
      | (refine eq_dec ?_; rw [decide_eq_true_iff]; unfold PumpOkP RateOkP; omega)
  · simp only [h, if_false]
    repeat' refine ite_r (fun _ => ?_) (fun _ => ?_)
    all_goals exact dec_no (by unfold PumpOkP; exact fun q => h q.2.1)
/- impl_DeviceOk -/
theorem impl_DeviceOk_eq (p : Pump) (past : List Int) (alarm : Int) (m : Menu) (ts : List Tick) (ref : Int) (h1 : past.length ≤ 9223372036854775806) (h2 : m.2.2.2.2.size ≤ 1048580) : g_impl_DeviceOk (dev p past alarm m ts ref) = some (deviceOk p past alarm m ts ref) := by
  obtain ⟨s, n, e, r, l, b, g, k⟩ := p
  obtain ⟨a, bo, nu, de, di⟩ := m
  unfold g_impl_DeviceOk impl_DeviceOk_ dev deviceOk g_impl_isNumber impl_isNumber_
  simp only [impl_PumpOk_eq, impl_GuardOk_eq past alarm h1, impl_MenuOk_eq a bo nu de di h2, impl_within_eq, Option.bind_some]
  cases pumpOk (s, n, e, r, l, b, g, k) with
  | false => simp
  | true =>
    cases guardOk past alarm with
    | false => simp
    | true =>
      cases menuOk (a, bo, nu, de, di) with
      | false => simp
      | true =>
        simp only [if_true, Bool.true_and]
        by_cases h : (ts.length : Int) ≤ 200
        · rw [if_pos h, decide_eq_true (show ts.length ≤ 200 by omega), Bool.true_and]
        · rw [if_neg h, decide_eq_false (show ¬ ts.length ≤ 200 by omega), Bool.false_and]
/- impl_SoundDevice -/
theorem impl_SoundDevice_eq (p : Pump) (past : List Int) (alarm : Int) (m : Menu) (ts : List Tick) (ref : Int) (h1 : past.length ≤ 9223372036854775806) (h2 : m.2.2.2.2.size ≤ 1048580) (h3 : ts.length ≤ 1048580) : g_impl_SoundDevice (dev p past alarm m ts ref) = some (sound p past alarm m ts ref) := by
  have e1 := impl_DeviceOk_eq p past alarm m ts ref h1 h2
  have e2 := impl_WithinLimits_eq ts h3
  have e3 := impl_StopsOnAlarm_eq ts h3
  have e4 := impl_TotalOf_eq ts h3
  show (g_impl_DeviceOk (dev p past alarm m ts ref)).bind (fun v0 => if v0 = true then (g_impl_WithinLimits ts).bind fun v1 => if v1 = true then (g_impl_StopsOnAlarm ts).bind fun v2 => if v2 = true then (g_impl_TotalOf ts).bind fun v3 => some (decide (p.2.2.2.2.2.2.1 = v3)) else some false else some false else some false) = _
  simp only [e1, e2, e3, e4, Option.bind_some]
  unfold sound
  cases deviceOk p past alarm m ts ref <;> cases limF ts <;> cases stops ts <;> simp
/- spec_AddSat -/
theorem spec_AddSat_eq (a b : Int) : g_spec_AddSat (a, b) = some (addSat a b) := by
  have e : ∀ n, g_spec_l03Into n = some (bnd n) := fun n => by
    show (if 1000000000000 < n then some 1000000000000 else if n < -1000000000000 then some (-1000000000000) else some n) = _
    unfold bnd
    repeat' split
    all_goals (congr 1; omega)
  unfold g_spec_AddSat spec_AddSat_ addSat
  simp only [e, Option.bind_some, w64_bnd]
/- spec_TotalOf -/
theorem spec_TotalOf_eq (l : List Tick) (hl : l.length ≤ 1048580) : g_spec_TotalOf l = some (totalF l 0) := by
  refine evG_eq ?_
  refine list_loop l (fun k s i => spec_TotalOf_L3 (fun _ => g_spec_AddSat) k (s, i, l, ())) totalF (fun s => ?_) (fun i s x rest hx hi h => ?_) 0 (by omega) 0
  · refine Ev.step (fun q => by rw [spec_TotalOf_L3]) ?_
    exact ev_neg (by omega) ev_some
  · refine Ev.step (fun q => by rw [spec_TotalOf_L3]) ?_
    refine ev_pos (by omega) (ev_pos (by omega) (ev_pos (by omega) ?_))
    rw [getD_drop hx, w64_succ (by omega)]
    exact ev_bind (spec_AddSat_eq _ _) (h _)
/- spec_StopsOnAlarm -/
theorem spec_StopsOnAlarm_eq (l : List Tick) (hl : l.length ≤ 1048580) : g_spec_StopsOnAlarm l = some (stops l) := by
  refine evG_eq ?_
  refine list_loop l (fun k (_ : Unit) i => spec_StopsOnAlarm_L2 k (i, l, ())) (fun r _ => stops r) (fun s => ?_) (fun i s x rest hx hi h => ?_) 0 (by omega) ()
  · refine Ev.step (fun q => by rw [spec_StopsOnAlarm_L2]) ?_
    exact ev_neg (by omega) ev_some
  · refine Ev.step (fun q => by rw [spec_StopsOnAlarm_L2]) ?_
    refine ev_pos (by omega) (ev_pos (by omega) (ev_pos (by omega) ?_))
    rw [getD_drop hx, w64_succ (by omega), stops_cons]
    refine ev_dom (fun h1 => ?_) (fun h1 => ev_pos (by omega) (ev_pos (by omega) (ev_dom (fun h2 => ?_) (fun h2 => ?_))))
    · rw [decide_eq_true (Or.inl h1), Bool.true_and]; exact h ()
    · rw [decide_eq_true (Or.inr h2), Bool.true_and]; exact h ()
    · rw [decide_eq_false (fun q => q.elim h1 h2), Bool.false_and]; exact ev_some
/- spec_WithinLimits -/
theorem spec_WithinLimits_eq (l : List Tick) (hl : l.length ≤ 1048580) : g_spec_WithinLimits l = some (limF l) := by
  refine evG_eq ?_
  have inner : ∀ (i : Nat) (r : Bool), i < l.length → Ev (fun k => spec_WithinLimits_L2 (fun _ => g_spec_AddSat) k ((i : Int) + 1, l, ())) r → ∀ (d j : Nat), j + d = 10 → ∀ s : Int, Ev (fun k => spec_WithinLimits_L6 (fun _ => g_spec_AddSat) k ((i : Int), s, ((i + j : Nat) : Int), l, ())) (winF ((l.drop (i + j)).take d) s && r) := by
    intro i r hi hr d
    have e1 : wrap64 ((i : Int) + 10) = (i : Int) + 10 := w64 (by omega) (by omega)
    induction d with
    | zero =>
      intro j hj s
      refine Ev.step (fun q => by rw [spec_WithinLimits_L6]) ?_
      rw [w64_succ (i := i) (by omega), e1]
      rw [List.take_zero]
      refine ev_dom (fun h1 => ev_neg (by omega) (Ev.cast hr ?_)) (fun h1 => Ev.cast hr ?_)
      all_goals simp [winF]
    | succ d ih =>
      intro j hj s
      refine Ev.step (fun q => by rw [spec_WithinLimits_L6]) ?_
      rw [w64_succ (i := i) (by omega), e1]
      by_cases hlt : i + j < l.length
      · have hc : l.drop (i + j) = l[i + j] :: l.drop (i + j + 1) := List.drop_eq_getElem_cons hlt
        refine ev_pos (by omega) (ev_pos (by omega) (ev_pos (by omega) (ev_pos (by omega) ?_)))
        rw [getD_drop hc, w64_succ (i := i + j) (by omega), hc, List.take_succ_cons]
        refine ev_bind (spec_AddSat_eq _ _) ?_
        unfold winF
        refine ev_dom (fun h1 => ?_) (fun h1 => ?_)
        · rw [if_pos h1, Bool.false_and]; exact ev_some
        · rw [if_neg h1]; exact ih (j + 1) (by omega) _
      · refine ev_neg (by omega) (Ev.cast hr ?_)
        rw [List.drop_of_length_le (by omega)]
        simp [winF]
  refine list_loop l (fun k (_ : Unit) i => spec_WithinLimits_L2 (fun _ => g_spec_AddSat) k (i, l, ())) (fun r _ => limF r) (fun s => ?_) (fun i s x rest hx hi h => ?_) 0 (by omega) ()
  · refine Ev.step (fun q => by rw [spec_WithinLimits_L2]) ?_
    exact ev_neg (by omega) ev_some
  · refine Ev.step (fun q => by rw [spec_WithinLimits_L2]) ?_
    refine ev_pos (by omega) ?_
    unfold limF
    have := inner i (limF rest) hi (h ()) 10 0 rfl 0
    rw [Nat.add_zero, hx] at this
    exact this
/- spec_l01In -/
theorem spec_l01In_eq (a b c : Int) : g_spec_l01In (a, b, c) = some (decide (b ≤ a ∧ a ≤ c)) := by
  show (if b ≤ a then some (decide (a ≤ c)) else some false) = _
  split
  · rename_i h; refine eq_dec ?_; rw [decide_eq_true_iff]; omega
  · rename_i h; exact dec_no (by omega)
/- spec_MenuOk -/
theorem spec_MenuOk_eq (a : Int) (b : Bool) (n d : Int) (s : ByteArray) (hs : s.size ≤ 1048580) : g_spec_MenuOk (a, b, n, d, s) = some (menuOk (a, b, n, d, s)) := by
  refine evG_eq ?_
  show Ev _ (decide (MenuOkP a b n d s))
  unfold spec_MenuOk_
  have hloop : Ev (fun k => spec_MenuOk_L4 (fun _ => g_spec_l01In) k (0, a, b, n, d, s, ())) (digitsOk (bl s) && decide (a = 1 → s.size = 0 ∧ b = false ∧ n = 0 ∧ d = 0)) := by
    refine bytes_loop s (fun k (_ : Unit) i => spec_MenuOk_L4 (fun _ => g_spec_l01In) k (i, a, b, n, d, s, ())) (fun r _ => digitsOk r && decide (a = 1 → s.size = 0 ∧ b = false ∧ n = 0 ∧ d = 0)) (fun _ => ?_) (fun i _ x rest hx hi h => ?_) ()
    · refine Ev.step (fun q => by rw [spec_MenuOk_L4]) ?_
      refine ev_neg (by omega) (ev_eq ?_)
      show _ = some (digitsOk [] && _)
      rw [show digitsOk [] = true from rfl, Bool.true_and]
      simp only [eq_empty]
      cases b with
      | false =>
        repeat' refine ite_r (fun _ => ?_) (fun _ => ?_)
        all_goals first
          | exact absurd (by assumption) Bool.false_ne_true
          | exact dec_yes (fun q => by first | (exfalso; omega) | exact ⟨by omega, rfl, by omega, by omega⟩)
          | exact dec_no (fun q => by have := q (by omega); omega)
          | (refine eq_dec ?_; rw [decide_eq_true_iff]; exact ⟨fun h q => ⟨by omega, rfl, by omega, h⟩, fun q => (q (by omega)).2.2.2⟩)
      | true =>
        repeat' refine ite_r (fun _ => ?_) (fun _ => ?_)
        all_goals first
          | exact absurd rfl (by assumption)
          | exact dec_yes (fun q => by exfalso; omega)
          | exact dec_no (fun q => by have := (q (by omega)).2.1; cases this)
    · refine Ev.step (fun q => by rw [spec_MenuOk_L4]) ?_
      refine ev_pos (by omega) (ev_pos (by omega) (ev_pos (by omega) ?_))
      rw [byt_drop hx, w64_succ (by omega)]
      by_cases h1 : (x.toNat : Int) < 48
      · refine ev_pos h1 (Ev.cast ev_some ?_)
        rw [digitsOk_cons, decide_eq_false (p := 48 ≤ (x.toNat : Int) ∧ (x.toNat : Int) ≤ 57) (by omega)]; rfl
      · refine ev_neg h1 (ev_pos (by omega) (ev_pos (by omega) ?_))
        by_cases h2 : 57 < (x.toNat : Int)
        · refine ev_pos h2 (Ev.cast ev_some ?_)
          rw [digitsOk_cons, decide_eq_false (p := 48 ≤ (x.toNat : Int) ∧ (x.toNat : Int) ≤ 57) (by omega)]; rfl
        · refine ev_neg h2 (Ev.cast (h ()) ?_)
          rw [digitsOk_cons, decide_eq_true (p := 48 ≤ (x.toNat : Int) ∧ (x.toNat : Int) ≤ 57) (by omega), Bool.true_and]
  have no : ¬ ((1 ≤ a ∧ a ≤ 4) ∧ (0 ≤ n ∧ n ≤ 9999) ∧ (0 ≤ d ∧ d ≤ 9999) ∧ s.size ≤ 4) → false = decide (MenuOkP a b n d s) := fun h => by
    rw [decide_eq_false]
    unfold MenuOkP
    exact fun q => h ⟨q.2.1, q.2.2.1, q.2.2.2.1, q.2.2.2.2.1⟩
  refine ev_bind (spec_l01In_eq _ _ _) (ev_dom (fun h1 => ?_) (fun h1 => Ev.cast ev_some (no fun q => h1 (decide_eq_true q.1))))
  refine ev_bind (spec_l01In_eq _ _ _) (ev_dom (fun h2 => ?_) (fun h2 => Ev.cast ev_some (no fun q => h2 (decide_eq_true q.2.1))))
  refine ev_bind (spec_l01In_eq _ _ _) (ev_dom (fun h3 => ?_) (fun h3 => Ev.cast ev_some (no fun q => h3 (decide_eq_true q.2.2.1))))
  refine ev_dom (fun h4 => Ev.cast ev_some (no fun q => by omega)) (fun h4 => Ev.cast hloop ?_)
  rw [decide_eq_true_iff] at h1 h2 h3
  rw [Bool.eq_iff_iff]
  refine Iff.trans ?_ decide_eq_true_iff.symm
  rw [Bool.and_eq_true, decide_eq_true_iff]
  unfold MenuOkP
  constructor
  · rintro ⟨q1, q2⟩; exact ⟨q1, h1, h2, h3, by omega, q2⟩
  · rintro ⟨q1, _, _, _, _, q2⟩; exact ⟨q1, q2⟩
/- spec_l16Sum -/
theorem spec_l16Sum_eq (l : List Int) (hl : l.length ≤ 9223372036854775806) : g_spec_l16Sum l = some (wrap64 l.sum) := by
  refine evG_eq ?_
  unfold spec_l16Sum_
  refine Ev.congr (g := fun k => spec_l16Sum_L3 k (wrap64 0, ((0 : Nat) : Int), l, ())) (fun k => by rw [w64 (n := 0) (by omega) (by omega)]; rfl) ?_
  refine Ev.cast (list_loop l (fun k s i => spec_l16Sum_L3 k (wrap64 s, i, l, ())) (fun r s => wrap64 (s + r.sum)) (fun s => ?_) (fun i s x rest hx hi h => ?_) 0 (by omega) 0) (by simp)
  · refine Ev.step (fun q => by rw [spec_l16Sum_L3]) ?_
    exact ev_neg (by omega) (Ev.cast ev_some (by simp))
  · refine Ev.step (fun q => by rw [spec_l16Sum_L3]) ?_
    refine ev_pos (by omega) (ev_pos (by omega) (ev_pos (by omega) ?_))
    rw [getD_drop hx, w64_succ (by omega), wrap64_add]
    refine Ev.cast (h (s + x)) ?_
    simp [Int.add_assoc]
/- spec_SenseOk -/
theorem spec_SenseOk_eq (a : Int) : g_spec_SenseOk a = some (senseOk a) := by
  unfold g_spec_SenseOk spec_SenseOk_
  simp only [spec_l01In_eq, Option.bind_some]; rfl
/- spec_GuardOk -/
theorem spec_GuardOk_eq (l : List Int) (a : Int) (hl : l.length ≤ 9223372036854775806) : g_spec_GuardOk (l, a) = some (guardOk l a) := by
  refine evG_eq ?_
  have hloop : l.length ≤ 9 → Ev (fun k => spec_GuardOk_L4 (fun _ => g_spec_SenseOk) (fun _ => g_spec_l01In) (fun _ => g_spec_l16Sum) k (0, l, a, ())) (pastOk l && decide (l.sum ≤ 30)) := by
    intro h9
    have hend : Ev (fun k => spec_GuardOk_L4 (fun _ => g_spec_SenseOk) (fun _ => g_spec_l01In) (fun _ => g_spec_l16Sum) k ((l.length : Int), l, a, ())) (decide (wrap64 l.sum ≤ 30)) := by
      refine Ev.step (fun q => by rw [spec_GuardOk_L4]) ?_
      exact ev_neg (by omega) (ev_bind (spec_l16Sum_eq l hl) ev_some)
    refine Ev.cast (list_loop l (fun k (_ : Unit) i => spec_GuardOk_L4 (fun _ => g_spec_SenseOk) (fun _ => g_spec_l01In) (fun _ => g_spec_l16Sum) k (i, l, a, ())) (fun r _ => pastOk r && decide (wrap64 l.sum ≤ 30)) (fun _ => Ev.cast hend (by simp [pastOk])) (fun i _ x rest hx hi h => ?_) 0 (by omega) ()) ?_
    · refine Ev.step (fun q => by rw [spec_GuardOk_L4]) ?_
      refine ev_pos (by omega) (ev_pos (by omega) (ev_pos (by omega) ?_))
      rw [getD_drop hx, spec_l01In_eq, w64_succ (by omega)]
      simp only [Option.bind_some, decide_eq_true_eq]
      by_cases hx2 : 0 ≤ x ∧ x ≤ 30
      · refine ev_pos hx2 (Ev.cast (h ()) ?_)
        rw [pastOk_cons]; simp [hx2]
      · refine ev_neg hx2 (Ev.cast ev_some ?_)
        rw [pastOk_cons]; simp [hx2]
    · simp only [List.drop_zero]
      cases hp : pastOk l with
      | true =>
        have hs := pastOk_sum hp
        rw [w64 (by omega) (by omega)]
      | false => rfl
  unfold spec_GuardOk_
  by_cases h9 : 9 < (l.length : Int)
  · refine ev_pos h9 (Ev.cast ev_some ?_)
    have h9' : ¬ l.length ≤ 9 := by omega
    simp [guardOk, h9']
  · refine ev_neg h9 (ev_bind (spec_SenseOk_eq a) ?_)
    have h9' : l.length ≤ 9 := by omega
    cases hs : senseOk a with
    | false => exact ev_neg Bool.false_ne_true (Ev.cast ev_some (by simp [guardOk, hs]))
    | true =>
      refine ev_pos rfl (Ev.cast (hloop h9') ?_)
      simp [guardOk, hs, h9']
/- spec_RateOk -/
theorem spec_RateOk_eq (n d r : Int) : g_spec_RateOk (n, d, r) = some (rateOk n d r) := by
  unfold g_spec_RateOk spec_RateOk_ rateOk
  simp only [spec_l01In_eq, Option.bind_some, decide_eq_true_eq]
  by_cases h1 : 0 ≤ n ∧ n ≤ 1000000
  · by_cases h2 : 1 ≤ d ∧ d ≤ 1000000
    · rw [if_pos h1, if_pos h2, w64 (by omega) (by omega)]
      refine eq_dec ?_
      rw [decide_eq_true_iff]; unfold RateOkP; omega
    · rw [if_pos h1, if_neg h2]; exact dec_no (by unfold RateOkP; omega)
  · rw [if_neg h1]; exact dec_no (by unfold RateOkP; omega)
/- spec_PumpOk -/
theorem spec_PumpOk_eq (p : Pump) : g_spec_PumpOk p = some (pumpOk p) := by
  obtain ⟨s, n, d, r, l, b, g, k⟩ := p
  show _ = some (decide (PumpOkP s n d r l b g k))
  unfold g_spec_PumpOk spec_PumpOk_
  simp only [spec_l01In_eq, spec_RateOk_eq, Option.bind_some, decide_eq_true_eq, rateOk, beq_iff_eq, Bool.true_eq, Bool.false_eq, decide_eq_false_iff_not, decide_eq_decide]
  by_cases h : RateOkP n d r
  · have hw : wrap64 (3 * d) = 3 * d := by unfold RateOkP at h; exact w64 (by omega) (by omega)
    rw [hw]
    have h0 := h
    unfold RateOkP at h
    repeat' refine ite_r (fun _ => ?_) (fun _ => ?_)
    all_goals first
      | exact absurd h0 (by assumption)
      | exact dec_no (by unfold PumpOkP RateOkP; omega)
      | exact dec_yes (by unfold PumpOkP RateOkP; omega)
      | (refine eq_dec ?_; rw [decide_eq_true_iff]; unfold PumpOkP RateOkP; omega)
  · simp only [h, if_false]
    repeat' refine ite_r (fun _ => ?_) (fun _ => ?_)
    all_goals exact dec_no (by unfold PumpOkP; exact fun q => h q.2.1)
/- spec_DeviceOk -/
theorem spec_DeviceOk_eq (p : Pump) (past : List Int) (alarm : Int) (m : Menu) (ts : List Tick) (ref : Int) (h1 : past.length ≤ 9223372036854775806) (h2 : m.2.2.2.2.size ≤ 1048580) : g_spec_DeviceOk (dev p past alarm m ts ref) = some (deviceOk p past alarm m ts ref) := by
  obtain ⟨s, n, e, r, l, b, g, k⟩ := p
  obtain ⟨a, bo, nu, de, di⟩ := m
  unfold g_spec_DeviceOk spec_DeviceOk_ dev deviceOk
  simp only [spec_PumpOk_eq, spec_GuardOk_eq past alarm h1, spec_MenuOk_eq a bo nu de di h2, spec_l01In_eq, Option.bind_some]
  cases pumpOk (s, n, e, r, l, b, g, k) with
  | false => simp
  | true =>
    cases guardOk past alarm with
    | false => simp
    | true =>
      cases menuOk (a, bo, nu, de, di) with
      | false => simp
      | true =>
        simp only [if_true, Bool.true_and]
        by_cases h : (ts.length : Int) ≤ 200
        · rw [if_pos h, decide_eq_true (show ts.length ≤ 200 by omega), Bool.true_and]
        · rw [if_neg h, decide_eq_false (show ¬ ts.length ≤ 200 by omega), Bool.false_and]
/- spec_SoundDevice -/
theorem spec_SoundDevice_eq (p : Pump) (past : List Int) (alarm : Int) (m : Menu) (ts : List Tick) (ref : Int) (h1 : past.length ≤ 9223372036854775806) (h2 : m.2.2.2.2.size ≤ 1048580) (h3 : ts.length ≤ 1048580) : g_spec_SoundDevice (dev p past alarm m ts ref) = some (sound p past alarm m ts ref) := by
  have e1 := spec_DeviceOk_eq p past alarm m ts ref h1 h2
  have e2 := spec_WithinLimits_eq ts h3
  have e3 := spec_StopsOnAlarm_eq ts h3
  have e4 := spec_TotalOf_eq ts h3
  show (g_spec_DeviceOk (dev p past alarm m ts ref)).bind (fun v0 => if v0 = true then (g_spec_WithinLimits ts).bind fun v1 => if v1 = true then (g_spec_StopsOnAlarm ts).bind fun v2 => if v2 = true then (g_spec_TotalOf ts).bind fun v3 => some (decide (p.2.2.2.2.2.2.1 = v3)) else some false else some false else some false) = _
  simp only [e1, e2, e3, e4, Option.bind_some]
  unfold sound
  cases deviceOk p past alarm m ts ref <;> cases limF ts <;> cases stops ts <;> simp
/- spec_l13Both -/
theorem l13_or : ∀ a b : _root_.Fin 16, ∀ k : _root_.Fin 1, spec_l13Both_L4 5 ((a.val : Int), (b.val : Int), 0, 1, 0, ()) = some (ior .i64 (a.val : Int) (b.val : Int)) := by decide +kernel
theorem l13_more (k : Nat) : ∀ n x r, spec_l13Both_L4 n x = some r → spec_l13Both_L4 (n + k) x = some r := by
  intro n
  induction n with
  | zero => intro x r h; cases h
  | succ n ih =>
    intro x r h
    obtain ⟨b0, b1, b2, b3, b4, _⟩ := x
    rw [Nat.succ_add]
    rw [spec_l13Both_L4] at h ⊢
    revert h
    repeat' split
    all_goals first
      | exact fun h => h
      | exact fun h => ih _ _ h
theorem spec_l13Both_eq (a b : Int) (ha : 0 ≤ a ∧ a ≤ 15) (hb : 0 ≤ b ∧ b ≤ 15) : g_spec_l13Both (a, b) = some (ior .i64 a b) := by
  have h := l13_or ⟨a.toNat, by omega⟩ ⟨b.toNat, by omega⟩ 0
  simp only [Int.toNat_of_nonneg ha.1, Int.toNat_of_nonneg hb.1] at h
  refine evG_eq ⟨5, fun k hk => ?_⟩
  have := l13_more (k - 5) 5 _ _ h
  rw [show 5 + (k - 5) = k by omega] at this
  exact this
/- spec_l02Four -/
theorem spec_l02Four_eq (v : Int) : g_spec_l02Four v = some (four v) := by
  unfold g_spec_l02Four spec_l02Four_
  rw [if_pos (by decide), if_pos (by decide), if_pos (by decide)]
  have e1 := shr_u32 (v := v) 24 (by decide)
  have e2 := shr_u32 (v := v) 16 (by decide)
  have e3 := shr_u32 (v := v) 8 (by decide)
  unfold four
  have p1 : (2 : Int) ^ 24 = 16777216 := by decide
  have p2 : (2 : Int) ^ 16 = 65536 := by decide
  have p3 : (2 : Int) ^ 8 = 256 := by decide
  rw [p1] at e1; rw [p2] at e2; rw [p3] at e3
  rw [← e1, ← e2, ← e3]
  rfl
/- spec_SumMore -/
theorem spec_SumMore_eq (s : ByteArray) (b : Int) (hs : s.size ≤ 1048580) : g_spec_SumMore (b, s) = some (sumF (bl s) b) := by
  have inner : ∀ (d j : Nat), j + d = 8 → ∀ (b i r : Int), Ev (fun k => spec_SumMore_L2 k (rnds d b, s, wrap64 (i + 1), ())) r → Ev (fun k => spec_SumMore_L6 k (b, s, i, (j : Int), ())) r := by
    intro d
    induction d with
    | zero =>
      intro j hj b i r h
      refine Ev.step (fun q => by rw [spec_SumMore_L6]) ?_
      exact ev_neg (by omega) h
    | succ d ih =>
      intro j hj b i r h
      refine Ev.step (fun q => by rw [spec_SumMore_L6]) ?_
      refine ev_pos (by omega) (ev_neg (by omega) (ev_neg (by omega) (ev_dom (fun hc => ?_) (fun hc => ?_))))
      · rw [w64_succ (by omega)]
        refine ih (j + 1) (by omega) _ i r ?_
        have e : rnds (d + 1) b = rnds d (ixor .u32 (wr .u32 (Int.tdiv b 2)) 3558460437) := by
          show rnds d (rnd b) = _
          unfold rnd; rw [if_pos hc]
        rw [← e]; exact h
      · rw [w64_succ (by omega)]
        refine ih (j + 1) (by omega) _ i r ?_
        have e : rnds (d + 1) b = rnds d (wr .u32 (Int.tdiv b 2)) := by
          show rnds d (rnd b) = _
          unfold rnd; rw [if_neg hc]
        rw [← e]; exact h
  refine evG_eq ?_
  unfold spec_SumMore_
  refine bytes_loop s (fun k z i => spec_SumMore_L2 k (z, s, i, ())) sumF (fun z => ?_) (fun i z x rest hx hi h => ?_) b
  · refine Ev.step (fun q => by rw [spec_SumMore_L2]) ?_
    exact ev_neg (by omega) ev_some
  · refine Ev.step (fun q => by rw [spec_SumMore_L2]) ?_
    refine ev_pos (by omega) (ev_pos (by omega) (ev_pos (by omega) ?_))
    rw [byt_drop hx]
    refine inner 8 0 rfl _ _ _ ?_
    rw [w64_succ (by omega)]
    exact h _
/- spec_SumOf -/
theorem spec_SumOf_eq (s : ByteArray) (hs : s.size ≤ 1048580) : g_spec_SumOf s = some (sumOf s) := by
  unfold g_spec_SumOf spec_SumOf_
  simp only [spec_SumMore_eq s _ hs, Option.bind_some]
  rfl
/- spec_Sealed -/
theorem size_fourS (s : ByteArray) (v : Int) (hs : s.size ≤ 1048580) : ((s.size + (four v).size : Nat) : Int) ≤ 9223372036854775807 := by
  rw [four_size]
  omega
theorem spec_Sealed_eq (s : ByteArray) (hs : s.size ≤ 1048580) : g_spec_Sealed s = some (sealT s) := by
  have c2 := size_fourS s (sumOf s) hs
  show (if 20000 < ((ByteArray.size s : Nat) : Int) then some ((⟨#[]⟩ : ByteArray), false) else (g_spec_SumOf s).bind fun v0 => (g_spec_l02Four v0).bind fun v1 => if ((ByteArray.size s + ByteArray.size v1 : Nat) : Int) ≤ 9223372036854775807 then some ((s ++ v1), true) else none) = _
  rw [spec_SumOf_eq s hs, Option.bind_some, spec_l02Four_eq, Option.bind_some, if_pos c2]
  clear c2
  unfold sealT
  by_cases h : 20000 < s.size
  · have c : (20000 : Int) < ((s.size : Nat) : Int) := by omega
    rw [if_pos c, if_pos h]
  · have c : ¬ (20000 : Int) < ((s.size : Nat) : Int) := by omega
    rw [if_neg c, if_neg h]
/- spec_l01Var -/
theorem spec_l01Var_eq (n : Nat) (hn : n ≤ 9223372036854775807) : g_spec_l01Var (n : Int) = some (varT n) := by
  refine evG_eq ?_
  unfold spec_l01Var_
  have key : ∀ (n : Nat), n ≤ 9223372036854775807 → ∀ (l : List Int), l.length + (varL n).length ≤ 1000 → Ev (fun k => spec_l01Var_L2 k ((n : Int), l, ())) (bstr (l ++ (varL n).map fun (x : Nat) => (x : Int))) := by
    intro n
    induction n using varL.induct with
    | case1 n h =>
      intro hn l hl
      refine Ev.step (fun q => by rw [spec_l01Var_L2]) ?_
      have hv : varL n = [n] := by unfold varL; rw [dif_pos h]
      rw [hv] at hl
      refine ev_neg (by omega) (ev_pos (by simp only [List.length_singleton] at hl ⊢; omega) (ev_eq ?_))
      rw [hv]
      have : wr .u8 (n : Int) = (n : Int) := by rw [wr8]; omega
      rw [this]
      rfl
    | case2 n h ih =>
      intro hn l hl
      refine Ev.step (fun q => by rw [spec_l01Var_L2]) ?_
      have hv : varL n = (n % 128 + 128) :: varL (n / 128) := by
        conv => lhs; unfold varL
        rw [dif_neg h]
      rw [hv] at hl ⊢
      simp only [List.length_cons] at hl
      refine ev_pos (by omega) (ev_neg (by omega) (ev_pos (by simp only [List.length_singleton]; omega) (ev_neg (by omega) ?_)))
      have e1 : wrap64 (Int.tdiv (n : Int) 128) = ((n / 128 : Nat) : Int) := by
        have : Int.tdiv (n : Int) 128 = ((n / 128 : Nat) : Int) := by
          rw [Int.tdiv_eq_ediv_of_nonneg (by omega)]; omega
        rw [this]
        exact w64 (by omega) (by omega)
      have e2 : wr .u8 (wrap64 ((Int.tmod (n : Int) 128) + 128)) = ((n % 128 + 128 : Nat) : Int) := by
        have : Int.tmod (n : Int) 128 = ((n % 128 : Nat) : Int) := by
          rw [Int.tmod_eq_emod_of_nonneg (by omega)]; omega
        rw [this, w64 (by omega) (by omega), wr8]
        omega
      rw [e1, e2]
      have := ih (by omega) (l ++ [((n % 128 + 128 : Nat) : Int)]) (by simp only [List.length_append, List.length_singleton]; omega)
      rw [List.append_assoc] at this
      exact this
  have h10 := varT_size hn
  unfold varT at h10
  rw [size_bstr, List.length_map] at h10
  exact key n hn [] (by simp only [List.length_nil]; omega)
/- spec_OrderOk -/
theorem spec_OrderOk_eq (o : Order) : g_spec_OrderOk o = some (orderOk o) := by
  obtain ⟨a, b, c, x⟩ := o
  show _ = some (decide (OrderOkP a b c x))
  unfold g_spec_OrderOk spec_OrderOk_
  simp only [spec_l01In_eq, Option.bind_some, decide_eq_true_eq, mn_eq]
  by_cases h : 1 ≤ c ∧ c ≤ 1000
  · have hw : wrap64 (3 * c) = 3 * c := w64 (by omega) (by omega)
    rw [hw]
    repeat' refine ite_r (fun _ => ?_) (fun _ => ?_)
    all_goals first
      | exact dec_no (by unfold OrderOkP; omega)
      | exact dec_yes (by unfold OrderOkP; omega)
      | (exfalso; omega)
      | (exfalso; simp_all; done)
      | (refine eq_dec ?_; simp only [Bool.and_eq_true, decide_eq_true_eq, decide_true, true_and]; unfold OrderOkP; omega)
  · simp only [h, if_false]
    repeat' refine ite_r (fun _ => ?_) (fun _ => ?_)
    all_goals first
      | exact dec_no (by unfold OrderOkP; omega)
      | exact dec_yes (by unfold OrderOkP; omega)
      | (exfalso; omega)
      | (exfalso; simp_all; done)
      | (refine eq_dec ?_; simp only [Bool.and_eq_true, decide_eq_true_eq, decide_true, true_and]; unfold OrderOkP; omega)
/- spec_OrderText -/
theorem spec_OrderText_eq (o : Order) : g_spec_OrderText o = some (orderT o) := by
  obtain ⟨a, b, c, x⟩ := o
  unfold g_spec_OrderText spec_OrderText_ orderT
  simp only [spec_OrderOk_eq, Option.bind_some]
  by_cases h : orderOk (a, b, c, x) = true
  · rw [if_pos h, if_pos h]
    have hp := orderOk_den h
    unfold OrderOkP at hp
    have hb : 0 ≤ b ∧ b ≤ 1000000 := by omega
    have hc : 0 ≤ c ∧ c ≤ 1000000 := by omega
    have hx : 0 ≤ x ∧ x ≤ 1000000 := by omega
    clear hp h
    obtain ⟨nb, rfl⟩ := Int.eq_ofNat_of_zero_le hb.1
    obtain ⟨nc, rfl⟩ := Int.eq_ofNat_of_zero_le hc.1
    obtain ⟨nx, rfl⟩ := Int.eq_ofNat_of_zero_le hx.1
    have e1 := spec_l01Var_eq nb (by omega)
    have e2 := spec_l01Var_eq nc (by omega)
    have e3 := spec_l01Var_eq nx (by omega)
    have s1 := varT_size (n := nb) (by omega)
    have s2 := varT_size (n := nc) (by omega)
    have s3 := varT_size (n := nx) (by omega)
    unfold otext
    simp only [e1, e2, e3, Option.bind_some, Int.toNat_natCast]
    clear e1 e2 e3
    generalize varT nb = B at *
    generalize varT nc = C at *
    generalize varT nx = X at *
    have s0 : (bstr [wr .u8 a]).size = 1 := by rw [size_bstr]; rfl
    generalize bstr [wr .u8 a] = A at *
    have c1 : ((A.size + B.size : Nat) : Int) ≤ 9223372036854775807 := by omega
    have c2 : (((A ++ B).size + C.size : Nat) : Int) ≤ 9223372036854775807 := by rw [size_append]; omega
    have c3 : (((A ++ B ++ C).size + X.size : Nat) : Int) ≤ 9223372036854775807 := by rw [size_append, size_append]; omega
    rw [if_pos c1, if_pos c2, if_pos c3]
    have hz : (A ++ B ++ C ++ X).size ≤ 1048580 := by rw [size_append, size_append, size_append]; omega
    rw [spec_Sealed_eq _ hz]
    rfl
  · rw [if_neg h, if_neg h]
/- impl_ReadVar -/
theorem shl7 (c j : Nat) (hj : j < 5) (hc : c ≤ 255) : wr .i64 (Int.tmod (wrap64 (c : Int)) 128 * 2 ^ (min (Int.toNat (wrap64 (7 * (j : Int)))) (IntKind.bits .i64))) = ((c % 128 * 128 ^ j : Nat) : Int) := by
  have e1 : wrap64 (7 * (j : Int)) = ((7 * j : Nat) : Int) := by
    rw [w64 (by omega) (by omega)]; omega
  have e2 : Int.tmod (wrap64 (c : Int)) 128 = ((c % 128 : Nat) : Int) := by
    rw [w64 (by omega) (by omega), Int.tmod_eq_emod_of_nonneg (by omega)]; omega
  have e3 : min (7 * j) (IntKind.bits .i64) = 7 * j := by
    have : IntKind.bits .i64 = 64 := rfl
    rw [this]; omega
  rw [e1, e2, Int.toNat_natCast, e3]
  have e4 : (2 : Int) ^ (7 * j) = ((128 ^ j : Nat) : Int) := by
    rw [Int.pow_mul, Int.natCast_pow]; rfl
  rw [e4, ← Int.natCast_mul]
  have h1 : c % 128 * 128 ^ j ≤ 127 * 128 ^ 4 := Nat.mul_le_mul (by omega) (Nat.pow_le_pow_right (by omega) (by omega))
  show wrap64 _ = _
  exact w64 (by omega) (by omega)
theorem readV_step (j n m : Nat) (hm : m ≤ 127) (h : n < 128 ^ j) : n + m * 128 ^ j < 128 ^ (j + 1) := by
  have := Nat.mul_le_mul_right (128 ^ j) hm
  rw [Nat.pow_succ]
  omega
theorem readV_le (j : Nat) (hj : j ≤ 5) : 128 ^ j ≤ 34359738368 := by
  have h := Nat.pow_le_pow_right (n := 128) (by omega) hj
  exact Nat.le_trans h (by decide)
theorem impl_ReadVar_eq (s : ByteArray) (i : Int) (hs : s.size ≤ 1048580) : g_impl_ReadVar (s, i) = some (readV s i) := by
  refine evG_eq ?_
  unfold impl_ReadVar_ readV
  refine ev_bind (impl_within_eq _ _ _) ?_
  by_cases h : 0 ≤ i ∧ i ≤ (s.size : Int)
  case neg =>
    rw [if_neg h]
    exact ev_neg (by simpa using h) ev_some
  rw [if_pos h]
  refine ev_pos (by simp [h]) ?_
  obtain ⟨a, rfl⟩ := Int.eq_ofNat_of_zero_le h.1
  have ha : a ≤ s.size := by omega
  rw [Int.toNat_natCast]
  have key : ∀ (f j n : Nat), j + f = 5 → n < 128 ^ j → Ev (fun k => impl_ReadVar_L5 (fun _ => g_impl_within) k (s, (a : Int), (n : Int), (j : Int), ())) (rdv s a f j n) := by
    intro f
    induction f with
    | zero =>
      intro j n hj hn
      refine Ev.step (fun q => by rw [impl_ReadVar_L5]) ?_
      exact ev_neg (by omega) ev_some
    | succ f ih =>
      intro j n hj hn
      have hc := byN_le s (a + j)
      have hst := readV_step j n (byN s (a + j) % 128) (by omega) hn
      have hB := Nat.lt_of_lt_of_le hst (readV_le (j + 1) (by omega))
      have esh := shl7 (byN s (a + j)) j (by omega) hc
      have hih := ih (j + 1) _ (by omega) hst
      unfold rdv
      clear hst ih hn
      generalize byN s (a + j) % 128 * 128 ^ j = M at *
      refine Ev.step (fun q => by rw [impl_ReadVar_L5]) ?_
      have eaj : wrap64 ((a : Int) + (j : Int)) = ((a + j : Nat) : Int) := by
        rw [w64 (by omega) (by omega)]; omega
      rw [eaj, byt_byN, esh]
      clear esh
      generalize hcc : byN s (a + j) = c at *
      clear hcc
      have ec : wrap64 (c : Int) = (c : Int) := w64 (by omega) (by omega)
      have en : wrap64 ((n : Int) + (M : Int)) = ((n + M : Nat) : Int) := by
        rw [w64 (by omega) (by omega)]; omega
      have e7 : wrap64 (7 * (j : Int)) = 7 * (j : Int) := w64 (by omega) (by omega)
      have e1 : wrap64 (((a + j : Nat) : Int) + 1) = ((a + j + 1 : Nat) : Int) := w64_succ (by omega)
      have e2 : wrap64 ((j : Int) + 1) = ((j + 1 : Nat) : Int) := w64_succ (by omega)
      rw [en, ec, e7, e1, e2]
      generalize n + M = N at *
      refine ev_pos (by omega) ?_
      by_cases hlt : a + j < s.size
      case neg =>
        rw [if_neg hlt]
        exact ev_neg (by omega) ev_some
      rw [if_pos hlt]
      refine ev_pos (by omega) ?_
      refine ev_pos (by omega) ?_
      refine ev_pos (by omega) ?_
      refine ev_neg (by omega) ?_
      refine ev_pos (by omega) ?_
      by_cases h127 : 127 < c
      · rw [if_pos h127]
        exact ev_pos (by omega) hih
      · rw [if_neg h127]
        clear hih
        refine ev_neg (by omega) ?_
        by_cases hj0 : 0 < j
        · refine ev_pos (by omega) ?_
          by_cases h0 : c = 0
          · have hyes : (0 < j ∧ c = 0) ∨ 1000000000 < N := .inl ⟨hj0, h0⟩
            rw [if_pos hyes]
            exact ev_pos (by omega) ev_some
          · refine ev_neg (by omega) ?_
            by_cases hb : 1000000000 < N
            · have hyes : (0 < j ∧ c = 0) ∨ 1000000000 < N := .inr hb
              rw [if_pos hyes]
              exact ev_pos (Int.ofNat_lt.2 hb) ev_some
            · have hng : ¬ ((0 < j ∧ c = 0) ∨ 1000000000 < N) := by
                rintro (⟨_, q⟩ | q)
                · exact h0 q
                · exact hb q
              rw [if_neg hng]
              exact ev_neg (fun q => hb (Int.ofNat_lt.1 q)) ev_some
        · refine ev_neg (by omega) ?_
          by_cases hb : 1000000000 < N
          · have hyes : (0 < j ∧ c = 0) ∨ 1000000000 < N := .inr hb
            rw [if_pos hyes]
            exact ev_pos (Int.ofNat_lt.2 hb) ev_some
          · have hng : ¬ ((0 < j ∧ c = 0) ∨ 1000000000 < N) := by
              rintro (⟨q, _⟩ | q)
              · exact hj0 q
              · exact hb q
            rw [if_neg hng]
            exact ev_neg (fun q => hb (Int.ofNat_lt.1 q)) ev_some
  exact key 5 0 0 rfl (by decide)
/- spec_ReadVar -/
-- needs: impl_ReadVar
theorem tmod128 (c : Nat) : Int.tmod (c : Int) 128 = ((c % 128 : Nat) : Int) := by
  rw [Int.tmod_eq_emod_of_nonneg (by omega)]; omega
theorem w64_le (c : Nat) (h : c ≤ 34359738368) : wrap64 (c : Int) = (c : Int) := w64 (by omega) (by omega)
theorem lt128 {c : Nat} (h : ¬ 127 < c) : (c : Int) < 128 := by omega
theorem le_128 {c : Nat} (h : 127 < c) : ¬ (c : Int) < 128 := by omega
set_option maxHeartbeats 60000 in
theorem spec_ReadVar_eq (s : ByteArray) (i : Int) (hs : s.size ≤ 1048580) : g_spec_ReadVar (s, i) = some (readV s i) := by
  refine evG_eq ?_
  unfold spec_ReadVar_ readV
  refine ev_bind (spec_l01In_eq _ _ _) ?_
  by_cases h : 0 ≤ i ∧ i ≤ (s.size : Int)
  case neg =>
    rw [if_neg h]
    exact ev_neg (by simpa using h) ev_some
  rw [if_pos h]
  refine ev_pos (by simp [h]) ?_
  obtain ⟨a, rfl⟩ := Int.eq_ofNat_of_zero_le h.1
  have ha : a ≤ s.size := by omega
  rw [Int.toNat_natCast]
  have ea5 : wrap64 ((a : Int) + 5) = ((a + 5 : Nat) : Int) := by
    rw [w64 (by omega) (by omega)]; omega
  have key : ∀ (f j n : Nat), j + f = 5 → n < 128 ^ j → n = accV (bytN s a j) 0 → (∀ x ∈ bytN s a j, 128 ≤ x ∧ x ≤ 255) → Ev (fun k => spec_ReadVar_L6 (fun _ => g_spec_l01In) (fun _ => g_spec_l01Var) k (s, (a : Int), (n : Int), ((128 ^ j : Nat) : Int), ((a + j : Nat) : Int), ())) (rdv s a f j n) := by
    intro f
    induction f with
    | zero =>
      intro j n hj hn _ _
      refine Ev.step (fun q => by rw [spec_ReadVar_L6]) ?_
      rw [ea5]
      refine ev_dom (fun _ => ?_) (fun _ => ev_some)
      exact ev_neg (by omega) ev_some
    | succ f ih =>
      intro j n hj hn hacc hall
      have hc := byN_le s (a + j)
      have hst := readV_step j n (byN s (a + j) % 128) (by omega) hn
      have hB := Nat.lt_of_lt_of_le hst (readV_le (j + 1) (by omega))
      have hP := readV_le j (by omega)
      have hvp := fun h1 h2 => varT_part s a j n h1 hacc hall h2
      have hih := fun (h : 127 < byN s (a + j)) => ih (j + 1) (n + byN s (a + j) % 128 * 128 ^ j) (by omega) hst (by
        have e3 : bytN s a (j + 1) = bytN s a j ++ [byN s (a + j)] := rfl
        rw [e3, accV_snoc, accV_add, bytN_len, ← hacc]
        rfl) (fun x hx => by
          rcases List.mem_append.1 hx with hx | hx
          · exact hall x hx
          · rw [List.mem_singleton] at hx
            omega)
      have ec : wrap64 ((byN s (a + j) : Nat) : Int) = ((byN s (a + j) : Nat) : Int) := w64_le _ (Nat.le_trans hc (by decide))
      have em : Int.tmod ((byN s (a + j) : Nat) : Int) 128 = ((byN s (a + j) % 128 : Nat) : Int) := tmod128 _
      have ep0 : ((byN s (a + j) % 128 : Nat) : Int) * ((128 ^ j : Nat) : Int) = ((byN s (a + j) % 128 * 128 ^ j : Nat) : Int) := (Int.natCast_mul _ _).symm
      have e3 : ((128 ^ (j + 1) : Nat) : Int) = ((128 ^ j : Nat) : Int) * 128 := by rw [Nat.pow_succ, Int.natCast_mul]; rfl
      unfold rdv
      clear hst ih hn hacc hall
      refine Ev.step (fun q => by rw [spec_ReadVar_L6]) ?_
      rw [ea5, byt_byN, ec, em, ep0]
      rw [e3] at hih
      clear ec em ep0 e3
      generalize byN s (a + j) % 128 * 128 ^ j = M at *
      generalize 128 ^ j = P at *
      generalize byN s (a + j) = c at *
      have ep : wrap64 (M : Int) = (M : Int) := w64 (by omega) (by omega)
      have en : wrap64 ((n : Int) + (M : Int)) = ((n + M : Nat) : Int) := by
        rw [w64 (by omega) (by omega)]; omega
      have e2 : wrap64 ((P : Int) * 128) = (P : Int) * 128 := w64 (by omega) (by omega)
      have e1 : wrap64 (((a + j : Nat) : Int) + 1) = ((a + j + 1 : Nat) : Int) := w64_succ (by omega)
      rw [ep, en, e2, e1]
      generalize n + M = N at *
      have f5 : N ≤ 9223372036854775807 := Nat.le_of_lt (Nat.lt_of_lt_of_le hB (by decide))
      clear hB hP ep en e2 e1
      by_cases hlt : a + j < s.size
      case neg =>
        rw [if_neg hlt]
        exact ev_neg (by omega) ev_some
      rw [if_pos hlt]
      refine ev_pos (by omega) ?_
      refine ev_pos (by omega) ?_
      refine ev_pos (by omega) ?_
      refine ev_pos (by omega) ?_
      refine ev_neg (by omega) ?_
      refine ev_pos (by omega) ?_
      refine ev_pos (by omega) ?_
      by_cases h127 : 127 < c
      · rw [if_pos h127]
        exact ev_neg (le_128 h127) (hih h127)
      · rw [if_neg h127]
        clear hih
        have hvp := hvp hlt (Nat.le_of_not_lt h127)
        refine ev_pos (lt128 h127) ?_
        have f1 : 0 ≤ ((a + j + 1 : Nat) : Int) := by omega
        have f2 : ((a + j + 1 : Nat) : Int) ≤ (s.size : Int) := by omega
        have f3 : 0 ≤ (a : Int) := by omega
        have f4 : (a : Int) ≤ ((a + j + 1 : Nat) : Int) := by omega
        by_cases hb : 1000000000 < N
        · have hyes : (0 < j ∧ c = 0) ∨ 1000000000 < N := .inr hb
          rw [if_pos hyes]
          exact ev_pos (Int.ofNat_lt.2 hb) ev_some
        · refine ev_neg (fun q => hb (Int.ofNat_lt.1 q)) ?_
          refine ev_pos f1 (ev_pos f2 (ev_pos f3 (ev_pos f4 ?_)))
          refine ev_bind (spec_l01Var_eq N f5) ?_
          rw [Int.toNat_natCast, Int.toNat_natCast]
          by_cases hz : 0 < j ∧ c = 0
          · have hyes : (0 < j ∧ c = 0) ∨ 1000000000 < N := .inl hz
            rw [if_pos hyes]
            exact ev_neg (fun q => hvp.1 q hz) ev_some
          · have hng : ¬ ((0 < j ∧ c = 0) ∨ 1000000000 < N) := by
              rintro (q | q)
              · exact hz q
              · exact hb q
            rw [if_neg hng]
            exact ev_pos (hvp.2 hz) ev_some
  exact key 5 0 0 rfl (by decide) rfl (fun x hx => by cases hx)
/- spec_l11Var -/
theorem spec_l11Var_eq (s : ByteArray) (i : Int) (b : Bool) (hs : s.size ≤ 1048580) : g_spec_l11Var (s, i, b) = some (numberF (s, i, b)) := by
  unfold g_spec_l11Var spec_l11Var_ numberF
  simp only [spec_ReadVar_eq s i hs, Option.bind_some]
  split
  · rfl
  · split <;> rfl
/- spec_Unsealed -/
theorem spec_Unsealed_eq (t : ByteArray) (hs : t.size ≤ 1048580) : g_spec_Unsealed t = some (unsealT t) := by
  unfold g_spec_Unsealed spec_Unsealed_ unsealT
  have hw : wrap64 (((t.size : Nat) : Int) - 4) = ((t.size : Nat) : Int) - 4 := w64 (by omega) (by omega)
  simp only [hw]
  by_cases h : t.size < 4
  · have c : ((t.size : Nat) : Int) - 4 < 0 := by omega
    rw [if_pos c, if_pos h]
  · have c : ¬ ((t.size : Nat) : Int) - 4 < 0 := by omega
    have c1 : 0 ≤ ((t.size : Nat) : Int) - 4 := by omega
    have c2 : ((t.size : Nat) : Int) - 4 ≤ ((t.size : Nat) : Int) := by omega
    have hf := front_size t
    rw [if_neg c, if_neg h]
    by_cases h2 : 20000 < (front t).size
    · have h3 : ¬ ((front t).size ≤ 20000 ∧ front t ++ four (sumOf (front t)) = t) := by omega
      have c3 : 20000 < ((t.size : Nat) : Int) - 4 := by omega
      rw [if_pos c3, if_neg h3]
    · have c3 : ¬ 20000 < ((t.size : Nat) : Int) - 4 := by omega
      have e0 : (Int.toNat (((t.size : Nat) : Int) - 4)) = t.size - 4 := by omega
      have e : ByteArray.extract t (Int.toNat 0) (t.size - 4) = front t := rfl
      have e1 : Int.toNat ((t.size : Nat) : Int) = t.size := rfl
      have hq := spec_SumOf_eq (front t) (by omega)
      simp only [c1, c2, c3, if_true, if_false, e0, e1, e, hq, Option.bind_some, spec_l02Four_eq]
      by_cases h3 : front t ++ four (sumOf (front t)) = t
      · have h4 : (front t).size ≤ 20000 ∧ front t ++ four (sumOf (front t)) = t := ⟨by omega, h3⟩
        rw [if_pos h4, if_pos ((tail_eq t _).2 h3)]
      · have h4 : ¬ ((front t).size ≤ 20000 ∧ front t ++ four (sumOf (front t)) = t) := fun q => h3 q.2
        rw [if_neg h4, if_neg (fun q => h3 ((tail_eq t _).1 q))]
/- impl_OrderOk -/
theorem impl_OrderOk_eq (o : Order) : g_impl_OrderOk o = some (orderOk o) := by
  obtain ⟨a, b, c, x⟩ := o
  show _ = some (decide (OrderOkP a b c x))
  unfold g_impl_OrderOk impl_OrderOk_
  simp only [impl_within_eq, Option.bind_some, decide_eq_true_eq, mn_eq]
  by_cases h : 1 ≤ c ∧ c ≤ 1000
  · have hw : wrap64 (3 * c) = 3 * c := w64 (by omega) (by omega)
    rw [hw]
    repeat' refine ite_r (fun _ => ?_) (fun _ => ?_)
    all_goals first
      | exact dec_no (by unfold OrderOkP; omega)
      | exact dec_yes (by unfold OrderOkP; omega)
      | (exfalso; omega)
      | (exfalso; simp_all; done)
      | (refine eq_dec ?_; simp only [Bool.and_eq_true, decide_eq_true_eq, decide_true, true_and]; unfold OrderOkP; omega)
  · simp only [h, if_false]
    repeat' refine ite_r (fun _ => ?_) (fun _ => ?_)
    all_goals first
      | exact dec_no (by unfold OrderOkP; omega)
      | exact dec_yes (by unfold OrderOkP; omega)
      | (exfalso; omega)
      | (exfalso; simp_all; done)
      | (refine eq_dec ?_; simp only [Bool.and_eq_true, decide_eq_true_eq, decide_true, true_and]; unfold OrderOkP; omega)
/- impl_SumMore -/
theorem impl_SumMore_eq (s : ByteArray) (b : Int) (hs : s.size ≤ 1048580) : g_impl_SumMore (b, s) = some (sumF (bl s) b) := by
  have inner : ∀ (d j : Nat), j + d = 8 → ∀ (b i r : Int), Ev (fun k => impl_SumMore_L2 k (rnds d b, s, wrap64 (i + 1), ())) r → Ev (fun k => impl_SumMore_L6 k (b, s, i, (j : Int), ())) r := by
    intro d
    induction d with
    | zero =>
      intro j hj b i r h
      refine Ev.step (fun q => by rw [impl_SumMore_L6]) ?_
      exact ev_neg (by omega) h
    | succ d ih =>
      intro j hj b i r h
      refine Ev.step (fun q => by rw [impl_SumMore_L6]) ?_
      refine ev_pos (by omega) (ev_neg (by omega) (ev_neg (by omega) (ev_dom (fun hc => ?_) (fun hc => ?_))))
      · rw [w64_succ (by omega)]
        refine ih (j + 1) (by omega) _ i r ?_
        have e : rnds (d + 1) b = rnds d (ixor .u32 (wr .u32 (Int.tdiv b 2)) 3558460437) := by
          show rnds d (rnd b) = _
          unfold rnd; rw [if_pos hc]
        rw [← e]; exact h
      · rw [w64_succ (by omega)]
        refine ih (j + 1) (by omega) _ i r ?_
        have e : rnds (d + 1) b = rnds d (wr .u32 (Int.tdiv b 2)) := by
          show rnds d (rnd b) = _
          unfold rnd; rw [if_neg hc]
        rw [← e]; exact h
  refine evG_eq ?_
  unfold impl_SumMore_
  refine bytes_loop s (fun k z i => impl_SumMore_L2 k (z, s, i, ())) sumF (fun z => ?_) (fun i z x rest hx hi h => ?_) b
  · refine Ev.step (fun q => by rw [impl_SumMore_L2]) ?_
    exact ev_neg (by omega) ev_some
  · refine Ev.step (fun q => by rw [impl_SumMore_L2]) ?_
    refine ev_pos (by omega) (ev_pos (by omega) (ev_pos (by omega) ?_))
    rw [byt_drop hx]
    refine inner 8 0 rfl _ _ _ ?_
    rw [w64_succ (by omega)]
    exact h _
/- impl_SumOf -/
theorem impl_SumOf_eq (s : ByteArray) (hs : s.size ≤ 1048580) : g_impl_SumOf s = some (sumOf s) := by
  unfold g_impl_SumOf impl_SumOf_
  simp only [impl_SumMore_eq s _ hs, Option.bind_some]
  rfl
/- impl_highFirst -/
theorem impl_highFirst_eq (v : Int) (hv : 0 ≤ v) : g_impl_highFirst (v, 4) = some (four v) := by
  refine evG_eq ?_
  unfold impl_highFirst_
  have e3 : ∀ w : Int, Int.fdiv w (2 ^ (min (Int.toNat 8) (IntKind.bits .i64))) = w / 256 := by
    intro w
    have : min (Int.toNat 8) (IntKind.bits .i64) = 8 := by decide
    rw [this, Int.fdiv_eq_ediv_of_nonneg _ (by decide)]
    rfl
  refine ev_pos rfl (ev_pos (by decide) (ev_pos (by decide) ?_))
  have w3 : wrap64 (4 - 1) = 3 := by decide
  have w2 : wrap64 (3 - 1) = 2 := by decide
  have w1 : wrap64 (2 - 1) = 1 := by decide
  have w0 : wrap64 (1 - 1) = 0 := by decide
  have wm : wrap64 (0 - 1) = -1 := by decide
  have r4 : List.replicate (Int.toNat 4) (0 : Int) = [0, 0, 0, 0] := rfl
  rw [w3, r4]
  refine Ev.step (fun q => by rw [impl_highFirst_L3]) ?_
  refine ev_pos (by decide) (ev_pos (by decide) (ev_pos (by decide) (ev_pos (by decide) ?_)))
  rw [w2, e3]
  refine Ev.step (fun q => by rw [impl_highFirst_L3]) ?_
  refine ev_pos (by decide) (ev_pos (by decide) (ev_pos (by simp) (ev_pos (by decide) ?_)))
  rw [w1, e3]
  refine Ev.step (fun q => by rw [impl_highFirst_L3]) ?_
  refine ev_pos (by decide) (ev_pos (by decide) (ev_pos (by simp) (ev_pos (by decide) ?_)))
  rw [w0, e3]
  refine Ev.step (fun q => by rw [impl_highFirst_L3]) ?_
  refine ev_pos (by decide) (ev_pos (by decide) (ev_pos (by simp) (ev_pos (by decide) ?_)))
  rw [wm, e3]
  refine Ev.step (fun q => by rw [impl_highFirst_L3]) ?_
  refine ev_neg (by decide) (ev_eq ?_)
  have q0 := and255_eq hv
  have q1 := and255_eq (x := v / 256) (by omega)
  have q2 := and255_eq (x := v / 256 / 256) (by omega)
  have q3 := and255_eq (x := v / 256 / 256 / 256) (by omega)
  rw [q0, q1, q2, q3]
  unfold four
  have m : ∀ w : Int, wr .u8 (w % 256) = wr .u8 w := fun w => by rw [wr8, wr8]; omega
  simp only [m]
  have d2 : v / 65536 = v / 256 / 256 := by omega
  have d3 : v / 16777216 = v / 256 / 256 / 256 := by omega
  rw [d2, d3]
  rfl
/- impl_Sealed -/
theorem u32_w64 (v : Int) (hu : U32 v) : wrap64 v = v := by
  unfold U32 at hu
  exact w64 (by omega) (by omega)
theorem impl_highFirst_u32 (v : Int) (hu : U32 v) : g_impl_highFirst (v, 4) = some (four v) := impl_highFirst_eq v hu.1
theorem size_four (s : ByteArray) (v : Int) (hs : s.size ≤ 1048580) : ((s.size + (four v).size : Nat) : Int) ≤ 9223372036854775807 := by
  rw [four_size]
  omega
theorem impl_Sealed_four (s : ByteArray) (v : Int) (hu : U32 v) (c2 : (((s.size + (four v).size : Nat) : Int) ≤ 9223372036854775807)) : ((g_impl_highFirst (wrap64 v, 4)).bind fun v1 => if ((s.size + v1.size : Nat) : Int) ≤ 9223372036854775807 then some (s ++ v1, true) else none) = some (s ++ four v, true) := by
  rw [u32_w64 v hu, impl_highFirst_u32 v hu, Option.bind_some, if_pos c2]
theorem impl_Sealed_eq (s : ByteArray) (hs : s.size ≤ 1048580) : g_impl_Sealed s = some (sealT s) := by
  have c2 := size_four s (sumOf s) hs
  show (if 20000 < ((ByteArray.size s : Nat) : Int) then some ((⟨#[]⟩ : ByteArray), false) else (g_impl_SumOf s).bind fun v0 => (g_impl_highFirst ((wrap64 v0), 4)).bind fun v1 => if ((ByteArray.size s + ByteArray.size v1 : Nat) : Int) ≤ 9223372036854775807 then some ((s ++ v1), true) else none) = _
  rw [impl_SumOf_eq s hs, Option.bind_some, impl_Sealed_four s (sumOf s) (u32_sumOf s) c2]
  clear c2
  unfold sealT
  by_cases h : 20000 < s.size
  · have c : (20000 : Int) < ((s.size : Nat) : Int) := by omega
    rw [if_pos c, if_pos h]
  · have c : ¬ (20000 : Int) < ((s.size : Nat) : Int) := by omega
    rw [if_neg c, if_neg h]
/- impl_Unsealed -/
theorem impl_Unsealed_eq (t : ByteArray) (hs : t.size ≤ 1048580) : g_impl_Unsealed t = some (unsealT t) := by
  unfold g_impl_Unsealed impl_Unsealed_ unsealT
  have hw : wrap64 (((t.size : Nat) : Int) - 4) = ((t.size : Nat) : Int) - 4 := w64 (by omega) (by omega)
  simp only [hw]
  by_cases h : t.size < 4
  · have c : ((t.size : Nat) : Int) - 4 < 0 := by omega
    rw [if_pos c, if_pos h]
  · have c : ¬ ((t.size : Nat) : Int) - 4 < 0 := by omega
    have c1 : 0 ≤ ((t.size : Nat) : Int) - 4 := by omega
    have c2 : ((t.size : Nat) : Int) - 4 ≤ ((t.size : Nat) : Int) := by omega
    have e : ByteArray.extract t (Int.toNat 0) (Int.toNat (((t.size : Nat) : Int) - 4)) = front t := by
      have : (Int.toNat (((t.size : Nat) : Int) - 4)) = t.size - 4 := by omega
      rw [this]; rfl
    have hf := front_size t
    have hq := impl_Sealed_eq (front t) (by omega)
    rw [if_neg c, if_neg h]
    simp only [c1, c2, if_true, e, hq, Option.bind_some]
    unfold sealT
    by_cases h2 : 20000 < (front t).size
    · have h3 : ¬ ((front t).size ≤ 20000 ∧ front t ++ four (sumOf (front t)) = t) := by omega
      rw [if_pos h2, if_neg h3]
      simp
    · rw [if_neg h2]
      by_cases h3 : front t ++ four (sumOf (front t)) = t
      · have h4 : (front t).size ≤ 20000 ∧ front t ++ four (sumOf (front t)) = t := ⟨by omega, h3⟩
        rw [if_pos h4]
        simp [h3]
      · have h4 : ¬ ((front t).size ≤ 20000 ∧ front t ++ four (sumOf (front t)) = t) := fun q => h3 q.2
        rw [if_neg h4]
        simp [h3]
/- impl_reader__number -/
theorem impl_reader__number_eq (s : ByteArray) (i : Int) (b : Bool) (hs : s.size ≤ 1048580) : g_impl_reader__number (s, i, b) = some (numberF (s, i, b)) := by
  unfold g_impl_reader__number impl_reader__number_ numberF
  simp only [impl_ReadVar_eq s i hs, Option.bind_some]
  split
  · rfl
  · split <;> rfl
/- impl_ReadOrder -/
theorem w64_byt (s : ByteArray) : wrap64 (byt s 0) = byt s 0 := by
  have e2 : byt s 0 = (byN s 0 : Int) := byt_byN s 0
  have hc := byN_le s 0
  rw [e2]
  exact w64 (by omega) (by omega)
theorem impl_ReadOrder_eq (t : ByteArray) (hs : t.size ≤ 1048580) : g_impl_ReadOrder t = some (readO t) := by
  unfold g_impl_ReadOrder impl_ReadOrder_ readO
  simp only [impl_Unsealed_eq t hs, Option.bind_some]
  by_cases hu : (unsealT t).2 = true
  case neg =>
    rw [if_neg hu, if_neg (fun q => hu q.1)]
  have hz := (unsealT_ok hu).1
  rw [if_pos hu]
  generalize (unsealT t).1 = s at hz
  by_cases h0 : 0 < s.size
  case neg =>
    have he : s = ⟨#[]⟩ := (eq_empty s).2 (by omega)
    rw [if_pos he, if_neg (fun q => h0 q.2)]
  have he : ¬ s = ⟨#[]⟩ := fun q => by rw [(eq_empty s).1 q] at h0; omega
  have c0 : (0 : Int) < ((s.size : Nat) : Int) := by omega
  rw [if_neg he, if_pos (Nat.le_refl 0), if_pos c0, if_pos ⟨hu, h0⟩]
  have k1 := numberF_keep (s, 1, false)
  have k2 := numberF_keep (numberF (s, 1, false)).2
  have e1 := impl_reader__number_eq s 1 false (by omega)
  have e2 : g_impl_reader__number (numberF (s, 1, false)).2 = some (numberF (numberF (s, 1, false)).2) := by
    have h : (numberF (s, 1, false)).2.1.size ≤ 1048580 := by rw [k1]; show s.size ≤ _; omega
    exact impl_reader__number_eq _ _ _ h
  have e3 : g_impl_reader__number (numberF (numberF (s, 1, false)).2).2 = some (numberF (numberF (numberF (s, 1, false)).2).2) := by
    have h : (numberF (numberF (s, 1, false)).2).2.1.size ≤ 1048580 := by rw [k2, k1]; show s.size ≤ _; omega
    exact impl_reader__number_eq _ _ _ h
  simp only [e1, e2, e3, Option.bind_some, w64_byt, impl_OrderOk_eq]
  by_cases hb : (numberF (numberF (numberF (s, 1, false)).2).2).2.2.2 = true
  · rw [if_pos hb, if_pos hb]
  · rw [if_neg hb, if_neg hb]
    by_cases ha : (numberF (numberF (numberF (s, 1, false)).2).2).2.2.1 = ((s.size : Nat) : Int)
    · rw [if_pos ha]
      split
      · rename_i hk; rw [if_pos ⟨ha, hk⟩]
      · rename_i hk; rw [if_neg (fun q => hk q.2)]
    · rw [if_neg ha, if_neg (fun q => ha q.1)]
/- spec_ReadOrder -/
-- needs: impl_ReadOrder
theorem spec_ReadOrder_eq (t : ByteArray) (hs : t.size ≤ 1048580) : g_spec_ReadOrder t = some (readO t) := by
  unfold g_spec_ReadOrder spec_ReadOrder_ readO
  simp only [spec_Unsealed_eq t hs, Option.bind_some]
  by_cases hu : (unsealT t).2 = true
  case neg =>
    rw [if_neg hu, if_neg (fun q => hu q.1)]
  obtain ⟨hz, hj⟩ := unsealT_ok hu
  rw [if_pos hu]
  generalize (unsealT t).1 = s at hz hj
  by_cases h0 : 0 < s.size
  case neg =>
    have c0 : ((s.size : Nat) : Int) < 1 := by omega
    rw [if_pos c0, if_neg (fun q => h0 q.2)]
  have c1 : ¬ ((s.size : Nat) : Int) < 1 := by omega
  have c0 : (0 : Int) < ((s.size : Nat) : Int) := by omega
  rw [if_neg c1, if_pos (Nat.le_refl 0), if_pos c0, if_pos ⟨hu, h0⟩]
  have k1 := numberF_keep (s, 1, false)
  have k2 := numberF_keep (numberF (s, 1, false)).2
  have e1 := spec_l11Var_eq s 1 false (by omega)
  have e2 : g_spec_l11Var (numberF (s, 1, false)).2 = some (numberF (numberF (s, 1, false)).2) := by
    have h : (numberF (s, 1, false)).2.1.size ≤ 1048580 := by rw [k1]; show s.size ≤ _; omega
    exact spec_l11Var_eq _ _ _ h
  have e3 : g_spec_l11Var (numberF (numberF (s, 1, false)).2).2 = some (numberF (numberF (numberF (s, 1, false)).2).2) := by
    have h : (numberF (numberF (s, 1, false)).2).2.1.size ≤ 1048580 := by rw [k2, k1]; show s.size ≤ _; omega
    exact spec_l11Var_eq _ _ _ h
  simp only [e1, e2, e3, Option.bind_some, w64_byt, spec_OrderText_eq]
  by_cases hb : (numberF (numberF (numberF (s, 1, false)).2).2).2.2.2 = true
  · rw [if_pos hb, if_pos hb]
  · rw [if_neg hb, if_neg hb]
    have hb' : (numberF (numberF (numberF (s, 1, false)).2).2).2.2.2 = false := by simpa using hb
    obtain ⟨N1, N2, N3, e, r1, r2, r3, r4, le, tx⟩ := numberF_three h0 hb'
    rw [r1, r2, r3, r4]
    unfold orderT
    by_cases hk : orderOk (byt s 0, (N1 : Int), (N2 : Int), (N3 : Int)) = true
    · rw [if_pos hk, tx]
      obtain ⟨g1, g2⟩ := seal_same s e hz le
      rw [hj] at g2
      rw [if_pos g1]
      by_cases he : e = s.size
      · have hc : (e : Int) = ((s.size : Nat) : Int) ∧ orderOk (byt s 0, (N1 : Int), (N2 : Int), (N3 : Int)) = true := ⟨by omega, hk⟩
        rw [if_pos (g2.2 he), if_pos hc]
      · have hc : ¬ ((e : Int) = ((s.size : Nat) : Int) ∧ orderOk (byt s 0, (N1 : Int), (N2 : Int), (N3 : Int)) = true) := fun q => he (by have := q.1; omega)
        rw [if_neg (fun q => he (g2.1 q)), if_neg hc]
    · have hc : ¬ ((e : Int) = ((s.size : Nat) : Int) ∧ orderOk (byt s 0, (N1 : Int), (N2 : Int), (N3 : Int)) = true) := fun q => hk q.2
      rw [if_neg hk, if_neg hc]
      rfl
/- spec_MenuNew -/
theorem spec_MenuNew_eq : g_spec_MenuNew () = some menuNew := rfl
/- spec_l17Number -/
theorem spec_l17Number_eq (s : ByteArray) (hs : s.size ≤ 1048580) : g_spec_l17Number s = some (num s) := by
  refine evG_eq ?_
  unfold spec_l17Number_ num
  refine bytes_loop s (fun k z i => spec_l17Number_L3 k (s, z, i, ())) numF (fun z => ?_) (fun i z x rest hx hi h => ?_) 0
  · refine Ev.step (fun q => by rw [spec_l17Number_L3]) ?_
    exact ev_neg (by omega) ev_some
  · refine Ev.step (fun q => by rw [spec_l17Number_L3]) ?_
    refine ev_pos (by omega) (ev_pos (by omega) (ev_pos (by omega) ?_))
    have e : wrap64 (wr .u8 ((x.toNat : Int) - 48)) = ((x.toNat : Int) - 48) % 256 := by rw [wr8]; exact w64 (by omega) (by omega)
    rw [byt_drop hx, w64_succ (by omega), e]
    exact h _
/- spec_Press -/
theorem spec_Press_eq (a : Int) (b : Bool) (n d : Int) (s : ByteArray) (c : Int) (hs : s.size ≤ 1048580) : g_spec_Press ((a, b, n, d, s), c) = some (press (a, b, n, d, s) c) := by
  unfold g_spec_Press spec_Press_ press
  simp only [spec_MenuOk_eq a b n d s hs, spec_l17Number_eq s hs, spec_OrderOk_eq, spec_MenuNew_eq, Option.bind_some, wr8, size_bstr]
  have enter : (if a = 2 then some (((3, b, num s, d, ⟨#[]⟩) : Menu), ((0, 0, 0, 0) : Order), false)
        else if a = 3 then some ((4, b, n, num s, ⟨#[]⟩), (0, 0, 0, 0), false)
        else if b = true then (if orderOk (2, 0, 0, num s) = true then some (menuNew, (2, 0, 0, num s), true) else some (menuNew, (0, 0, 0, 0), false))
        else (if orderOk (1, n, d, num s) = true then some (menuNew, (1, n, d, num s), true) else some (menuNew, (0, 0, 0, 0), false))) = some (if a = 2 then ((3, b, num s, d, ⟨#[]⟩), (0, 0, 0, 0), false)
        else if a = 3 then ((4, b, n, num s, ⟨#[]⟩), (0, 0, 0, 0), false)
        else if b = true then sent 2 0 0 (num s)
        else sent 1 n d (num s)) := by
    unfold sent
    repeat' split
    all_goals rfl
  refine ite_r (fun h => ?_) (fun h => ?_)
  · rw [if_pos h]
    refine ite_r (fun h1 => ?_) (fun h1 => ?_)
    · rw [if_pos h1]
      unfold g_spec_l17Top spec_l17Top_
      simp only []
      repeat' split
      all_goals rfl
    · rw [if_neg h1]
      refine ite_r (fun h48 => ?_) (fun h48 => ?_)
      · refine ite_r (fun h57 => ?_) (fun h57 => ?_)
        · rw [if_neg (show ¬ c = 10 by omega), if_neg (show ¬ c = 99 by omega)]
          refine ite_r (fun h5 => ?_) (fun h5 => ?_)
          · rw [if_pos (show ((s.size + List.length [c % 256] : Nat) : Int) ≤ 9223372036854775807 by simp only [List.length_singleton]; omega), if_pos (show (48 ≤ c ∧ c ≤ 57) ∧ s.size < 4 from ⟨⟨h48, h57⟩, by omega⟩)]
          · rw [if_neg (show ¬ ((48 ≤ c ∧ c ≤ 57) ∧ s.size < 4) from fun q => h5 (by omega))]
        · refine ite_r (fun h99 => ?_) (fun h99 => ?_)
          · rw [if_neg (show ¬ c = 10 by omega), if_pos h99]
          · refine ite_r (fun h10 => ?_) (fun h10 => ?_)
            · omega
            · rw [if_neg h10, if_neg h99, if_neg (show ¬ ((48 ≤ c ∧ c ≤ 57) ∧ s.size < 4) from fun q => h57 q.1.2)]
      · refine ite_r (fun h99 => ?_) (fun h99 => ?_)
        · omega
        · refine ite_r (fun h10 => ?_) (fun h10 => ?_)
          · rw [if_pos h10]
            exact enter
          · rw [if_neg h10, if_neg h99, if_neg (show ¬ ((48 ≤ c ∧ c ≤ 57) ∧ s.size < 4) from fun q => h48 q.1.1)]
  · rw [if_neg h]
/- spec_PressAll -/
theorem spec_PressAll_eq (m : Menu) (s : ByteArray) (hm : m.2.2.2.2.size ≤ 1048580) (hs : s.size ≤ 1048580) : g_spec_PressAll (m, s) = some (pressAll m s) := by
  refine evG_eq ?_
  have key : ∀ (z8 : Int) (z9 : Bool) (z10 z11 : Int) (z12 : ByteArray) (i : Nat), i ≤ (bl s).length → ∀ q : Menu × List Order, q.1.2.2.2.2.size ≤ 1048580 → q.2.length ≤ i →
      Ev (fun k => spec_PressAll_L3 (fun _ => g_spec_Press) k (s, (i : Int), q.1.1, q.1.2.1, q.1.2.2.1, q.1.2.2.2.1, q.1.2.2.2.2, z8, z9, z10, z11, z12, q.2, ())) (pressL ((bl s).drop i) q.1 q.2) := by
    intro z8 z9 z10 z11 z12 i hi
    obtain ⟨d, hd⟩ : ∃ d, d = (bl s).length - i := ⟨_, rfl⟩
    have hbl := bl_len s
    induction d generalizing i with
    | zero =>
      intro q _ _
      have e : i = (bl s).length := by omega
      rw [List.drop_of_length_le (by omega)]
      refine Ev.step (fun w => by rw [spec_PressAll_L3]) ?_
      exact ev_neg (by omega) ev_some
    | succ d ih =>
      intro q h1 h2
      have hlt : i < (bl s).length := by omega
      have hc : (bl s).drop i = (bl s)[i] :: (bl s).drop (i + 1) := List.drop_eq_getElem_cons hlt
      have hx := u8_range ((bl s)[i])
      rw [hc]
      refine Ev.step (fun q => by rw [spec_PressAll_L3]) ?_
      refine ev_pos (by omega) (ev_pos (by omega) (ev_pos (by omega) ?_))
      rw [byt_drop hc, w64 (n := (((bl s)[i]).toNat : Int)) (by omega) (by omega), w64_succ (by omega)]
      refine ev_bind (spec_Press_eq _ _ _ _ _ _ h1) ?_
      have hp := press_digits q.1 (((bl s)[i]).toNat : Int) h1
      unfold pressL
      refine ev_dom (fun h => ?_) (fun h => ?_)
      · rw [if_pos h]
        refine ev_pos (by simp only [List.length_singleton]; omega) ?_
        exact ih (i + 1) (by omega) (by omega) ((press q.1 (((bl s)[i]).toNat : Int)).1, q.2 ++ [(press q.1 (((bl s)[i]).toNat : Int)).2.1]) hp (by simp only [List.length_append, List.length_singleton]; omega)
      · rw [if_neg h]
        exact ih (i + 1) (by omega) (by omega) ((press q.1 (((bl s)[i]).toNat : Int)).1, q.2) hp (by show q.2.length ≤ i + 1; omega)
  obtain ⟨a, b, n, d, t⟩ := m
  exact key 0 false 0 0 ⟨#[]⟩ 0 (by omega) ((a, b, n, d, t), []) hm (Nat.le_refl _)
/- spec_Latched -/
theorem spec_Latched_eq (ts : List Tick) (is : List In) (hl : ts.length ≤ 1048576) (hs : ∀ x ∈ is, x.2.1.size ≤ 1048576 ∧ x.2.2.size ≤ 1048576) : g_spec_Latched (ts, is) = some (latched ts is) := by
  refine evG_eq ?_
  unfold spec_Latched_ latched
  by_cases hlen : ts.length = is.length
  case neg =>
    rw [decide_eq_false hlen, Bool.false_and]
    exact ev_neg (by omega) ev_some
  rw [decide_eq_true hlen, Bool.true_and]
  refine ev_pos (by omega) (ev_bind spec_MenuNew_eq ?_)
  -- the tick's end, when it is known whether an alarm was seen
  have inner : ∀ (j : Nat) (h1 : j < ts.length) (h2 : j < is.length) (a : Int) (m' : Menu) (r : Bool), senseOk a = true →
      (senseOk ts[j].2.1 = true → Ev (fun k => spec_Latched_L6 (fun _ => g_spec_MenuNew) (fun _ => g_spec_PressAll) (fun _ => g_spec_ReadOrder) (fun _ => g_spec_SenseOk) (fun _ => g_spec_l13Both) k (ts[j].2.1, (j : Int) + 1, ts, is, m'.1, m'.2.1, m'.2.2.1, m'.2.2.2.1, m'.2.2.2.2, ())) r) →
      ∀ (os : List Order), os.length ≤ 1048580 → ∀ (d c : Nat), c + d = os.length → ∀ sn : Bool,
        Ev (fun k => spec_Latched_L15 (fun _ => g_spec_MenuNew) (fun _ => g_spec_PressAll) (fun _ => g_spec_ReadOrder) (fun _ => g_spec_SenseOk) (fun _ => g_spec_l13Both) k (a, (j : Int), sn, (c : Int), ts, is, m'.1, m'.2.1, m'.2.2.1, m'.2.2.2.1, m'.2.2.2.2, os, ())) (latC ts[j].2.1 is[j].1 a (sn || seenF (os.drop c)) && r) := by
    intro j h1 h2 a m' r ha hnext os hos d
    induction d with
    | zero =>
      intro c hc sn
      rw [List.drop_eq_nil_of_le (show os.length ≤ c by omega)]
      have e0 : (sn || seenF []) = sn := by cases sn <;> rfl
      rw [e0]
      refine Ev.step (fun q => by rw [spec_Latched_L15]) ?_
      rw [getD_lt h1, getD_lt h2, w64_succ (i := j) (by omega)]
      refine ev_neg (by omega) (ev_pos (by omega) (ev_pos (by omega) (ev_bind (spec_SenseOk_eq _) (ev_dom (fun g1 => ?_) (fun g1 => ?_)))))
      · refine ev_pos (by omega) (ev_pos (by omega) (ev_bind (spec_SenseOk_eq _) (ev_dom (fun g2 => ?_) (fun g2 => ?_))))
        · have q1 := senseOk_den g1
          have q2 := senseOk_den g2
          have q3 := senseOk_den ha
          unfold latC
          rw [g1, g2]
          refine ev_pos (by omega) (ev_pos (by omega) (ev_pos (by omega) (ev_pos (by omega) (ev_pos (by omega) (ev_pos (by omega) (ev_bind (spec_l13Both_eq _ _ q2 q1) (ev_dom (fun g3 => ?_) (fun g3 => ?_))))))))
          · rw [decide_eq_true g3]
            cases sn with
            | true => exact ev_pos rfl (ev_pos (by omega) (ev_pos (by omega) (hnext g2)))
            | false =>
              refine ev_neg (by simp) (ev_pos (by omega) (ev_pos (by omega) (ev_pos (by omega) (ev_pos (by omega) (ev_bind (spec_l13Both_eq _ _ q2 q3) (ev_dom (fun g4 => ?_) (fun g4 => ?_)))))))
              · rw [decide_eq_true g4]
                exact ev_pos (by omega) (ev_pos (by omega) (hnext g2))
              · rw [decide_eq_false g4]
                exact ev_some
          · rw [decide_eq_false g3]
            exact ev_some
        · unfold latC
          rw [Bool.eq_false_iff.2 g2, Bool.false_and, Bool.and_false, Bool.false_and]
          exact ev_some
      · unfold latC
        rw [Bool.eq_false_iff.2 g1]
        exact ev_some
    | succ d ih =>
      intro c hc sn
      have h3 : c < os.length := by omega
      have hc3 : os.drop c = os[c] :: os.drop (c + 1) := List.drop_eq_getElem_cons h3
      refine Ev.step (fun q => by rw [spec_Latched_L15]) ?_
      rw [getD_lt h3, w64_succ (i := c) (by omega)]
      refine ev_pos (by omega) ?_
      cases sn with
      | true =>
        refine ev_pos rfl (Ev.cast (ih (c + 1) (by omega) true) ?_)
        rfl
      | false =>
        refine ev_neg (by simp) (ev_pos (by omega) (ev_pos (by omega) (Ev.cast (ih (c + 1) (by omega) _) ?_)))
        rw [hc3]
        rfl
  have key : ∀ (d j : Nat), j + d = ts.length → ∀ (m : Menu) (a : Int), menuOk m = true → senseOk a = true →
      Ev (fun k => spec_Latched_L6 (fun _ => g_spec_MenuNew) (fun _ => g_spec_PressAll) (fun _ => g_spec_ReadOrder) (fun _ => g_spec_SenseOk) (fun _ => g_spec_l13Both) k (a, (j : Int), ts, is, m.1, m.2.1, m.2.2.1, m.2.2.2.1, m.2.2.2.2, ())) (latF (ts.drop j) (is.drop j) m a) := by
    intro d
    induction d with
    | zero =>
      intro j hj m a hm ha
      rw [List.drop_eq_nil_of_le (show ts.length ≤ j by omega)]
      refine Ev.step (fun q => by rw [spec_Latched_L6]) ?_
      exact ev_neg (by omega) ev_some
    | succ d ih =>
      intro j hj m a hm ha
      have h1 : j < ts.length := by omega
      have h2 : j < is.length := by omega
      have hc1 : ts.drop j = ts[j] :: ts.drop (j + 1) := List.drop_eq_getElem_cons h1
      have hc2 : is.drop j = is[j] :: is.drop (j + 1) := List.drop_eq_getElem_cons h2
      have hsz := hs is[j] (List.getElem_mem h2)
      have hms := menu_size hm
      have hol := ordersOf_len m is[j]
      have hmk : menuOk (pressAll m is[j].2.1).1 = true := (pressAll_ok hm is[j].2.1).1
      have e1 := spec_PressAll_eq m is[j].2.1 (by omega) (by omega)
      have e2 := spec_ReadOrder_eq is[j].2.2 (by omega)
      have hpl := pressAll_len m is[j].2.1
      rw [hc1, hc2]
      refine Ev.step (fun q => by rw [spec_Latched_L6]) ?_
      rw [getD_lt h2]
      refine ev_pos (by omega) (ev_pos (by omega) (ev_pos (by omega) (ev_bind e1 (ev_pos (by omega) (ev_pos (by omega) (ev_bind e2 ?_))))))
      have hn := fun (hk : senseOk ts[j].2.1 = true) => ih (j + 1) (by omega) (pressAll m is[j].2.1).1 ts[j].2.1 hmk hk
      unfold latF
      rw [ordersOf_menu]
      unfold ordersOf at hol ⊢
      by_cases hr : (readO is[j].2.2).2 = true
      · rw [if_pos hr] at hol ⊢
        refine ev_pos hr (ev_pos (by simp only [List.length_singleton]; omega) ?_)
        exact inner j h1 h2 a _ _ ha hn _ (by simp only [List.length_append, List.length_singleton]; omega) _ 0 (Nat.zero_add _) false
      · rw [if_neg hr] at hol ⊢
        refine ev_neg hr ?_
        exact inner j h1 h2 a _ _ ha hn _ (by omega) _ 0 (Nat.zero_add _) false
  exact key ts.length 0 (by omega) menuNew 0 menuNew_ok rfl
/- impl_isSeen -/
theorem impl_isSeen_eq (l : List Order) (hl : l.length ≤ 1048580) : g_impl_isSeen l = some (seenF l) := by
  refine evG_eq ?_
  unfold impl_isSeen_
  have := list_loop l (fun k (z : Unit) i => impl_isSeen_L2 k ((l.length : Int), i, l, z)) (fun r _ => seenF r) (fun z => by
    refine Ev.step (fun q => by rw [impl_isSeen_L2]) ?_
    exact ev_neg (by omega) ev_some) (fun i z x rest hx hi h => by
    refine Ev.step (fun q => by rw [impl_isSeen_L2]) ?_
    refine ev_pos (by omega) (ev_pos (by omega) (ev_pos (by omega) ?_))
    rw [getD_drop hx, w64_succ (by omega)]
    have e : seenF (x :: rest) = (decide (x.1 = 5) || seenF rest) := rfl
    refine ev_dom (fun h5 => ?_) (fun h5 => ?_)
    · rw [e, decide_eq_true h5]
      exact ev_some
    · rw [e, decide_eq_false h5]
      exact h ()) 0 (Nat.zero_le _) ()
  simpa using this
/- impl_typed -/
theorem impl_typed_eq (s : ByteArray) (hs : s.size ≤ 1048580) : g_impl_typed s = some (num s) := by
  refine evG_eq ?_
  unfold impl_typed_ num
  refine bytes_loop s (fun k z i => impl_typed_L3 k (s, z, (s.size : Int), i, ())) numF (fun z => ?_) (fun i z x rest hx hi h => ?_) 0
  · refine Ev.step (fun q => by rw [impl_typed_L3]) ?_
    exact ev_neg (by omega) ev_some
  · refine Ev.step (fun q => by rw [impl_typed_L3]) ?_
    refine ev_pos (by omega) (ev_pos (by omega) (ev_pos (by omega) ?_))
    have e : wrap64 (wr .u8 ((x.toNat : Int) - 48)) = ((x.toNat : Int) - 48) % 256 := by rw [wr8]; exact w64 (by omega) (by omega)
    rw [byt_drop hx, w64_succ (by omega), e]
    exact h _
/- impl_Menu__enter -/
theorem impl_Menu__enter_eq (a : Int) (b : Bool) (n d : Int) (s : ByteArray) (hs : s.size ≤ 1048580) : g_impl_Menu__enter (a, b, n, d, s) = some (if a = 2 then ((3, b, num s, d, ⟨#[]⟩), (0, 0, 0, 0), false)
        else if a = 3 then ((4, b, n, num s, ⟨#[]⟩), (0, 0, 0, 0), false)
        else if b = true then sent 2 0 0 (num s)
        else sent 1 n d (num s)) := by
  unfold g_impl_Menu__enter impl_Menu__enter_ sent
  simp only [impl_typed_eq s hs, impl_OrderOk_eq, impl_MenuNew_eq, Option.bind_some]
  repeat' split
  all_goals rfl
/- impl_Press -/
theorem impl_Press_eq (a : Int) (b : Bool) (n d : Int) (s : ByteArray) (c : Int) (hs : s.size ≤ 1048580) : g_impl_Press ((a, b, n, d, s), c) = some (press (a, b, n, d, s) c) := by
  unfold g_impl_Press impl_Press_ press
  simp only [impl_MenuOk_eq a b n d s hs, impl_Menu__enter_eq a b n d s hs, impl_MenuNew_eq, impl_within_eq, Option.bind_some, decide_eq_true_eq, wr8, size_bstr]
  refine ite_r (fun h => ?_) (fun h => ?_)
  · rw [if_pos h]
    refine ite_r (fun h1 => ?_) (fun h1 => ?_)
    · rw [if_pos h1]
      unfold g_impl_Menu__top impl_Menu__top_
      simp only []
      repeat' split
      all_goals rfl
    · rw [if_neg h1]
      refine ite_r (fun h2 => by rw [if_pos h2]) (fun h2 => ?_)
      rw [if_neg h2]
      refine ite_r (fun h3 => by rw [if_pos h3]) (fun h3 => ?_)
      rw [if_neg h3]
      refine ite_r (fun h4 => ?_) (fun h4 => ?_)
      · refine ite_r (fun h5 => ?_) (fun h5 => ?_)
        · rw [if_pos (show ((s.size + List.length [c % 256] : Nat) : Int) ≤ 9223372036854775807 by simp only [List.length_singleton]; omega), if_pos (show (48 ≤ c ∧ c ≤ 57) ∧ s.size < 4 from ⟨h4, by omega⟩)]
        · rw [if_neg (show ¬ ((48 ≤ c ∧ c ≤ 57) ∧ s.size < 4) from fun q => h5 (by omega))]
      · rw [if_neg (show ¬ ((48 ≤ c ∧ c ≤ 57) ∧ s.size < 4) from fun q => h4 q.1)]
  · rw [if_neg h]
/- impl_PressAll -/
theorem impl_PressAll_eq (m : Menu) (s : ByteArray) (hm : m.2.2.2.2.size ≤ 1048580) (hs : s.size ≤ 1048580) : g_impl_PressAll (m, s) = some (pressAll m s) := by
  refine evG_eq ?_
  have key : ∀ (z8 : Int) (z9 : Bool) (z10 z11 : Int) (z12 : ByteArray) (i : Nat), i ≤ (bl s).length → ∀ q : Menu × List Order, q.1.2.2.2.2.size ≤ 1048580 → q.2.length ≤ i →
      Ev (fun k => impl_PressAll_L3 (fun _ => g_impl_Press) k (s, (s.size : Int), (i : Int), q.1.1, q.1.2.1, q.1.2.2.1, q.1.2.2.2.1, q.1.2.2.2.2, z8, z9, z10, z11, z12, q.2, ())) (pressL ((bl s).drop i) q.1 q.2) := by
    intro z8 z9 z10 z11 z12 i hi
    obtain ⟨d, hd⟩ : ∃ d, d = (bl s).length - i := ⟨_, rfl⟩
    have hbl := bl_len s
    induction d generalizing i with
    | zero =>
      intro q _ _
      have e : i = (bl s).length := by omega
      rw [List.drop_of_length_le (by omega)]
      refine Ev.step (fun w => by rw [impl_PressAll_L3]) ?_
      exact ev_neg (by omega) ev_some
    | succ d ih =>
      intro q h1 h2
      have hlt : i < (bl s).length := by omega
      have hc : (bl s).drop i = (bl s)[i] :: (bl s).drop (i + 1) := List.drop_eq_getElem_cons hlt
      have hx := u8_range ((bl s)[i])
      rw [hc]
      refine Ev.step (fun q => by rw [impl_PressAll_L3]) ?_
      refine ev_pos (by omega) (ev_pos (by omega) (ev_pos (by omega) ?_))
      rw [byt_drop hc, w64 (n := (((bl s)[i]).toNat : Int)) (by omega) (by omega), w64_succ (by omega)]
      refine ev_bind (impl_Press_eq _ _ _ _ _ _ h1) ?_
      have hp := press_digits q.1 (((bl s)[i]).toNat : Int) h1
      unfold pressL
      refine ev_dom (fun h => ?_) (fun h => ?_)
      · rw [if_pos h]
        refine ev_pos (by simp only [List.length_singleton]; omega) ?_
        exact ih (i + 1) (by omega) (by omega) ((press q.1 (((bl s)[i]).toNat : Int)).1, q.2 ++ [(press q.1 (((bl s)[i]).toNat : Int)).2.1]) hp (by simp only [List.length_append, List.length_singleton]; omega)
      · rw [if_neg h]
        exact ih (i + 1) (by omega) (by omega) ((press q.1 (((bl s)[i]).toNat : Int)).1, q.2) hp (by show q.2.length ≤ i + 1; omega)
  obtain ⟨a, b, n, d, t⟩ := m
  exact key 0 false 0 0 ⟨#[]⟩ 0 (by omega) ((a, b, n, d, t), []) hm (Nat.le_refl _)
/- impl_ordersOf -/
theorem impl_ordersOf_eq (m : Menu) (i : In) (hm : m.2.2.2.2.size ≤ 1048580) (h1 : i.2.1.size ≤ 1048580) (h2 : i.2.2.size ≤ 1048580) : g_impl_ordersOf (m, i) = some (ordersOf m i) := by
  obtain ⟨a, s, t⟩ := i
  have e1 := impl_PressAll_eq m s hm h1
  have e2 := impl_ReadOrder_eq t h2
  have hl := pressAll_len m s
  have h1 : s.size ≤ 1048580 := h1
  show (g_impl_PressAll (m, s)).bind (fun v0 => (g_impl_ReadOrder t).bind fun v1 => if v1.2 = true then if (((List.length v0.2 + List.length [v1.1] : Nat) : Int) * ((32 : Nat) : Int)) ≤ 140737488355328 then some (v0.1, (v0.2 ++ [v1.1])) else none else some v0) = _
  simp only [e1, e2, Option.bind_some]
  unfold ordersOf
  simp only []
  by_cases h : (readO t).2 = true
  · have c : (((List.length (pressAll m s).2 + List.length [(readO t).1] : Nat) : Int) * ((32 : Nat) : Int)) ≤ 140737488355328 := by
      simp only [List.length_singleton]; omega
    rw [if_pos h, if_pos h, if_pos c]
  · rw [if_neg h, if_neg h]
/- impl_Latched -/
theorem impl_Latched_eq (ts : List Tick) (is : List In) (hl : ts.length ≤ 1048576) (hs : ∀ x ∈ is, x.2.1.size ≤ 1048576 ∧ x.2.2.size ≤ 1048576) : g_impl_Latched (ts, is) = some (latched ts is) := by
  refine evG_eq ?_
  unfold impl_Latched_ latched
  by_cases hlen : ts.length = is.length
  case neg =>
    rw [decide_eq_false hlen, Bool.false_and]
    exact ev_neg (by omega) ev_some
  rw [decide_eq_true hlen, Bool.true_and]
  refine ev_pos (by omega) (ev_bind impl_MenuNew_eq ?_)
  have key : ∀ (d j : Nat), j + d = ts.length → ∀ (m : Menu) (a : Int), menuOk m = true → senseOk a = true →
      Ev (fun k => impl_Latched_L6 (fun _ => g_impl_MenuNew) (fun _ => g_impl_SenseOk) (fun _ => g_impl_isSeen) (fun _ => g_impl_ordersOf) k (a, (ts.length : Int), (j : Int), ts, is, m.1, m.2.1, m.2.2.1, m.2.2.2.1, m.2.2.2.2, ())) (latF (ts.drop j) (is.drop j) m a) := by
    intro d
    induction d with
    | zero =>
      intro j hj m a hm ha
      rw [List.drop_eq_nil_of_le (show ts.length ≤ j by omega)]
      refine Ev.step (fun q => by rw [impl_Latched_L6]) ?_
      exact ev_neg (by omega) ev_some
    | succ d ih =>
      intro j hj m a hm ha
      have h1 : j < ts.length := by omega
      have h2 : j < is.length := by omega
      have hc1 : ts.drop j = ts[j] :: ts.drop (j + 1) := List.drop_eq_getElem_cons h1
      have hc2 : is.drop j = is[j] :: is.drop (j + 1) := List.drop_eq_getElem_cons h2
      have hsz := hs is[j] (List.getElem_mem h2)
      have hms := menu_size hm
      have hol := ordersOf_len m is[j]
      have hmk : menuOk (ordersOf m is[j]).1 = true := by rw [ordersOf_menu]; exact (pressAll_ok hm is[j].2.1).1
      have e1 := impl_ordersOf_eq m is[j] (by omega) (by omega) (by omega)
      have e2 := impl_isSeen_eq (ordersOf m is[j]).2 (by omega)
      rw [hc1, hc2]
      unfold latF
      refine Ev.step (fun q => by rw [impl_Latched_L6]) ?_
      rw [getD_lt h1, getD_lt h2, w64_succ (by omega)]
      refine ev_pos (by omega) (ev_pos (by omega) (ev_pos (by omega) (ev_pos (by omega) (ev_pos (by omega) (ev_bind e1 (ev_pos (by omega) (ev_pos (by omega) (ev_bind e2 ?_))))))))
      clear e1 e2 hol hsz
      generalize hos : (ordersOf m is[j]).1 = m' at hmk ⊢
      generalize seenF (ordersOf m is[j]).2 = sn
      have ih' := ih (j + 1) (by omega) m' ts[j].2.1 hmk
      clear ih
      unfold latC
      cases sn with
      | true =>
        refine ev_pos rfl (ev_bind (impl_SenseOk_eq _) (ev_dom (fun g1 => ?_) (fun g1 => ?_)))
        · refine ev_pos (by omega) (ev_pos (by omega) (ev_bind (impl_SenseOk_eq _) (ev_dom (fun g2 => ?_) (fun g2 => ?_))))
          · rw [g1, g2, ← and_same' g1 g2]
            refine ev_dom (fun g3 => ?_) (fun g3 => ?_)
            · rw [decide_eq_true g3]
              exact ih' g1
            · rw [decide_eq_false g3]
              exact ev_some
          · rw [Bool.eq_false_iff.2 g2]
            exact ev_some
        · rw [Bool.eq_false_iff.2 g1, Bool.false_and, Bool.and_false, Bool.false_and]
          exact ev_some
      | false =>
        refine ev_neg (by simp) (ev_bind (impl_SenseOk_eq _) (ev_dom (fun g1 => ?_) (fun g1 => ?_)))
        · refine ev_pos (by omega) (ev_pos (by omega) (ev_bind (impl_SenseOk_eq _) (ev_dom (fun g2 => ?_) (fun g2 => ?_))))
          · rw [g1, g2, Bool.false_or, ← and_or' g1 g2 ha]
            refine ev_dom (fun g3 => ?_) (fun g3 => ?_)
            · rw [decide_eq_true g3]
              exact ih' g1
            · rw [decide_eq_false g3]
              exact ev_some
          · rw [Bool.eq_false_iff.2 g2]
            exact ev_some
        · rw [Bool.eq_false_iff.2 g1, Bool.false_and, Bool.and_false, Bool.false_and]
          exact ev_some
  exact key ts.length 0 (by omega) menuNew 0 menuNew_ok rfl
/- impl_copyGuard -/
theorem impl_copyGuard_eq (l : List Int) (a : Int) (hl : l.length ≤ 17592186044416) : g_impl_copyGuard (l, a) = some (l, a) := by
  unfold g_impl_copyGuard impl_copyGuard_ g_impl_copyInts impl_copyInts_
  simp only [List.length_nil, Nat.zero_add, List.nil_append]
  rw [if_pos (by omega)]; rfl
/- impl_Pass -/
theorem impl_Pass_eq (l : List Int) (a n : Int) (hl : l.length ≤ 17592186044416) : g_impl_Pass ((l, a), n) = some (pass l a n, a) := by
  unfold g_impl_Pass impl_Pass_ pass
  simp only [impl_copyGuard_eq l a hl, impl_GuardOk_eq l a (by omega), impl_RoomOf_eq l a (by omega), Option.bind_some, mn_eq, mx_eq, List.singleton_append, List.length_singleton]
  by_cases h : guardOk l a = true
  · have hs := guardOk_sum h
    have h9 := (guardOk_den h).1
    simp only [h, if_true]
    rw [w64 (by omega) (by omega), if_pos (by omega), if_pos (by omega), if_pos (by omega)]
    congr 2
    simp only [List.length_cons]
    by_cases h8 : l.length + 1 ≤ 9
    · rw [List.take_of_length_le (by simp only [List.length_cons]; omega), List.take_of_length_le (by simp only [List.length_cons]; omega)]
    · congr 1; omega
  · simp only [h, if_false, Bool.false_eq_true]
/- impl_StepRate -/
theorem impl_StepRate_eq (n d r : Int) : g_impl_StepRate (n, d, r) = some ((n, d, stepRest n d r), stepGives n d r) := by
  unfold g_impl_StepRate impl_StepRate_ stepRest stepGives
  simp only [impl_RateOk_eq, Option.bind_some]
  by_cases h : rateOk n d r = true
  · have h' := rateOk_den h
    obtain ⟨e1, e2⟩ := step_plain h
    simp only [h, if_true]
    rw [if_neg (by omega), if_neg (by omega), e1, e2]
  · simp only [h, if_false]; rfl
/- impl_Wants -/
theorem impl_Wants_eq (p : Pump) : g_impl_Wants p = some (wants p) := by
  obtain ⟨s, n, d, r, l, b, g, k⟩ := p
  unfold g_impl_Wants impl_Wants_
  simp only [impl_PumpOk_eq, impl_StepRate_eq, Option.bind_some, mn_eq]
  by_cases h : pumpOk (s, n, d, r, l, b, g, k) = true
  · obtain ⟨_, a2, a3, _, _, a6, _, a8, _⟩ := pumpOk_den h
    have hg := stepGives_range (decide_eq_true a2) a3
    unfold wants runs
    simp only [h, if_true, Bool.true_and, decide_eq_true_eq]
    repeat' split
    all_goals first
      | (exfalso; omega)
      | rfl
      | (rw [w64 (by omega) (by omega)])
  · unfold wants runs
    simp only [h, if_false, Bool.false_and, Bool.false_eq_true]
/- impl_Give -/
theorem impl_Give_eq (p : Pump) (m : Int) : g_impl_Give (p, m) = some (give p m) := by
  obtain ⟨s, n, d, r, l, b, g, k⟩ := p
  unfold g_impl_Give impl_Give_
  simp only [impl_PumpOk_eq, impl_StepRate_eq, impl_Wants_eq, Option.bind_some, mn_eq, mx_eq]
  have hw := wants_range (s, n, d, r, l, b, g, k)
  by_cases h : pumpOk (s, n, d, r, l, b, g, k) = true
  · obtain ⟨_, a2, a3, _, _, a6, _, a8, a9⟩ := pumpOk_den h
    unfold give runs giveB giveN
    simp only [h, if_true, Bool.true_and, decide_eq_true_eq]
    generalize hW : wants (s, n, d, r, l, b, g, k) = W at hw
    have e1 : min (min (min (max m 0) W) b) 3 = min (min (max m 0) W) (min b 3) := by omega
    rw [e1]
    generalize hN : min (max m 0) W = N
    have hN' : 0 ≤ N ∧ N ≤ 6 := by omega
    generalize hB : min N (min b 3) = B
    have hB' : 0 ≤ B ∧ B ≤ 3 ∧ B ≤ N := by omega
    rw [w64 (n := b - B) (by omega) (by omega), w64 (n := g + N) (by omega) (by omega), w64 (n := N - B) (by omega) (by omega), w64 (n := l - (N - B)) (by omega) (by omega)]
    repeat' split
    all_goals first
      | rfl
      | (exfalso; omega)
      | (rename_i h0; rw [h0.2])
      | (rename_i h0; rw [h0])
      | (rename_i h0 _; rw [h0])
  · unfold give runs
    simp only [h, if_false, Bool.false_and, Bool.false_eq_true]
/- impl_Allow -/
theorem impl_Allow_eq (l : List Int) (a m : Int) (hl : l.length ≤ 9223372036854775806) : g_impl_Allow ((l, a), m) = some (allow l a m) := by
  unfold g_impl_Allow impl_Allow_ allow
  simp only [impl_GuardOk_eq l a hl, impl_RoomOf_eq l a hl, Option.bind_some, mx_eq, mn_eq]
  by_cases h : guardOk l a = true
  · have hs := guardOk_sum h
    by_cases h0 : a = 0
    · simp only [h, h0, if_true, and_self]
      rw [w64 (by omega) (by omega)]
      rw [h0] at h
      simp [h]
    · simp only [h, h0, if_true, if_false, and_false]
  · simp only [h, if_false, false_and, Bool.false_eq_true]
/- impl_Feel -/
theorem impl_Feel_eq (l : List Int) (a s : Int) (b : Bool) (hl : l.length ≤ 17592186044416) : g_impl_Feel ((l, a), (s, b)) = some (l, feel l a s b) := by
  unfold g_impl_Feel impl_Feel_ feel
  simp only [impl_copyGuard_eq l a hl, impl_GuardOk_eq l a (by omega), impl_SenseOk_eq, Option.bind_some]
  cases guardOk l a <;> cases senseOk s <;> cases b <;> simp
/- impl_Take -/
theorem impl_Take_eq (p : Pump) (o : Order) : g_impl_Take (p, o) = some (take p o) := by
  obtain ⟨s, n, d, r, l, b, g, k⟩ := p
  obtain ⟨a, c, e, x⟩ := o
  unfold g_impl_Take impl_Take_ take takeR
  simp only [impl_PumpOk_eq, impl_OrderOk_eq, Option.bind_some]
  by_cases h : pumpOk (s, n, d, r, l, b, g, k) = true
  · by_cases h' : orderOk (a, c, e, x) = true
    · obtain ⟨h1, _, _, _, _, _, _, h8, _⟩ := pumpOk_den h
      simp only [h, h', if_true, and_self]
      repeat' split
      all_goals first
        | rfl
        | (exfalso; omega)
        | (simp_all; done)
        | (simp_all; omega)
    · simp only [h, h', if_true, if_false, and_false, Bool.false_eq_true]
  · simp only [h, if_false, false_and, Bool.false_eq_true]
/- impl_Device__order -/
theorem impl_Device__order_eq (p : Pump) (past : List Int) (alarm : Int) (m : Menu) (ts : List Tick) (ref : Int) (o : Order) :
    g_impl_Device__order (dev p past alarm m ts ref, o) = some ((takeO p o).2, ((takeO p o).1.1, (takeO p o).1.2.1, (takeO p o).1.2.2.1, (takeO p o).1.2.2.2.1, (takeO p o).1.2.2.2.2.1, (takeO p o).1.2.2.2.2.2.1, (takeO p o).1.2.2.2.2.2.2.1, (takeO p o).1.2.2.2.2.2.2.2, (), alarm, m.1, m.2.1, m.2.2.1, m.2.2.2.1, m.2.2.2.2, (), ref)) := by
  obtain ⟨a, b, c, x⟩ := o
  unfold g_impl_Device__order impl_Device__order_ dev takeO
  simp only []
  by_cases h : a = 5
  · rw [if_pos h, if_pos h]
  · rw [if_neg h, if_neg h]
    have e := impl_Take_eq p (a, b, c, x)
    show (g_impl_Take (p, (a, b, c, x))).bind _ = _
    rw [e]
    rfl
/- impl_InOk -/
theorem impl_InOk_eq (i : In) : g_impl_InOk i = some (inOk i) := by
  obtain ⟨a, s, t⟩ := i
  unfold g_impl_InOk impl_InOk_ inOk
  simp only [impl_SenseOk_eq, Option.bind_some]
  cases senseOk a with
  | false => simp
  | true =>
    by_cases h : s.size ≤ 20
    · have c : ((s.size : Nat) : Int) ≤ 20 := by omega
      rw [if_pos rfl, if_pos c, decide_eq_true h]
      congr 1
      simp only [Bool.true_and]
      congr 1
      rw [eq_iff_iff]
      omega
    · have c : ¬ ((s.size : Nat) : Int) ≤ 20 := by omega
      rw [if_pos rfl, if_neg c, decide_eq_false h]
      rfl
/- impl_copyDevice -/
theorem impl_copyDevice_eq (p : Pump) (past : List Int) (alarm : Int) (m : Menu) (ts : List Tick) (ref : Int) (h1 : past.length ≤ 1048580) (h2 : ts.length ≤ 1048580) : g_impl_copyDevice (dev p past alarm m ts ref) = some (dev p past alarm m ts ref) := by
  have e := impl_copyGuard_eq past alarm (by omega)
  unfold g_impl_copyDevice impl_copyDevice_ dev
  simp only [e, Option.bind_some, List.nil_append, List.length_nil]
  have c : (((0 + ts.length : Nat) : Int) * ((24 : Nat) : Int)) ≤ 140737488355328 := by omega
  rw [if_pos c]
/- impl_TickDevice -/
def finT (past : List Int) (alarm : Int) (m' : Menu) (ts : List Tick) (i : In) (os : List Order) (q : Pump) (r : Int) : Device :=
  dev (tickP q past (feel past alarm i.1 (seenF os))) (pass past (feel past alarm i.1 (seenF os)) (allow past (feel past alarm i.1 (seenF os)) (wants q))) (feel past alarm i.1 (seenF os)) m' (ts ++ [(allow past (feel past alarm i.1 (seenF os)) (wants q), feel past alarm i.1 (seenF os), (tickP q past (feel past alarm i.1 (seenF os))).1)]) r
set_option maxHeartbeats 2000000 in
theorem impl_TickDevice_eq (p : Pump) (past : List Int) (alarm : Int) (m : Menu) (ts : List Tick) (ref : Int) (i : In) (hp : past.length ≤ 1048580) (hm : m.2.2.2.2.size ≤ 1048580) (ht : ts.length ≤ 1048580) :
    g_impl_TickDevice (dev p past alarm m ts ref, i) = some (tickD p past alarm m ts ref i) := by
  refine evG_eq ?_
  obtain ⟨a, b, n, d, s⟩ := m
  have hm : s.size ≤ 1048580 := hm
  have e1 := impl_copyDevice_eq p past alarm (a, b, n, d, s) ts ref hp ht
  have e2 := impl_DeviceOk_eq p past alarm (a, b, n, d, s) ts ref (by omega) hm
  have e3 := impl_InOk_eq i
  unfold impl_TickDevice_ tickD
  refine ev_bind e1 (ev_bind e2 ?_)
  by_cases hd : deviceOk p past alarm (a, b, n, d, s) ts ref = true
  case neg =>
    rw [if_neg (fun q => hd q.1)]
    exact ev_neg hd ev_some
  refine ev_pos hd (ev_bind e3 ?_)
  by_cases hi : inOk i = true
  case neg =>
    rw [if_neg (fun q => hi q.2.1)]
    exact ev_neg hi ev_some
  refine ev_pos hi ?_
  by_cases h2 : ts.length = 200
  case pos =>
    rw [if_neg (fun q => q.2.2.1 h2)]
    exact ev_pos (by omega) ev_some
  refine ev_neg (by omega) ?_
  by_cases h9 : ref ≤ 999999900
  case neg =>
    rw [if_neg (fun q => h9 q.2.2.2)]
    exact ev_pos (by omega) ev_some
  refine ev_neg (by omega) ?_
  rw [if_pos ⟨hd, hi, h2, h9⟩]
  obtain ⟨i1, i2, i3⟩ := inOk_den hi
  obtain ⟨q1, q2, q3, q4, q5, q6⟩ := deviceOk_den hd
  have e4 := impl_ordersOf_eq (a, b, n, d, s) i hm (by omega) (by omega)
  have e5 := impl_ReadOrder_eq i.2.2 (by omega)
  have hlen := ordersOf_len (a, b, n, d, s) i
  refine ev_bind e4 ?_
  unfold behind
  generalize hos : (ordersOf (a, b, n, d, s) i).2 = os at hlen ⊢
  generalize (ordersOf (a, b, n, d, s) i).1 = m'
  simp only []
  have key : ∀ (d2 j : Nat), j + d2 = os.length → ∀ (q : Pump) (r : Int), 0 ≤ r → r ≤ 999999900 + (j : Int) →
      Ev (fun k => impl_TickDevice_L7 (fun _ => g_impl_Allow) (fun _ => g_impl_DeviceOk) (fun _ => g_impl_Device__order) (fun _ => g_impl_Feel) (fun _ => g_impl_Give) (fun _ => g_impl_InOk) (fun _ => g_impl_Pass) (fun _ => g_impl_ReadOrder) (fun _ => g_impl_Wants) (fun _ => g_impl_copyDevice) (fun _ => g_impl_isSeen) (fun _ => g_impl_ordersOf) k
        ((os.length : Int), (j : Int), i.1, i.2.1, i.2.2, 0, 0, 0, 0, 0, 0, 0, 0, 0, 0, false, 0, 0, (⟨#[]⟩ : ByteArray), 0, q.1, q.2.1, q.2.2.1, q.2.2.2.1, q.2.2.2.2.1, q.2.2.2.2.2.1, q.2.2.2.2.2.2.1, q.2.2.2.2.2.2.2, alarm, m'.1, m'.2.1, m'.2.2.1, m'.2.2.2.1, m'.2.2.2.2, r, os, [], [], past, ts, ()))
        (finT past alarm m' ts i os (takeL (os.drop j) q r).1 (if i.2.2.size ≠ 0 ∧ (readO i.2.2).2 = false then (takeL (os.drop j) q r).2 + 1 else (takeL (os.drop j) q r).2)) := by
    intro d2
    induction d2 with
    | zero =>
      intro j hj q r hr0 hr
      have ej : os.drop j = [] := List.drop_eq_nil_of_le (by omega)
      rw [ej]
      simp only [takeL]
      refine Ev.step (fun w => by rw [impl_TickDevice_L7]) ?_
      refine ev_neg (by omega) (ev_bind e5 ?_)
      by_cases hz : i.2.2 = ⟨#[]⟩
      · have hz2 : i.2.2.size = 0 := (eq_empty _).1 hz
        have hk2 : ¬ (i.2.2.size ≠ 0 ∧ (readO i.2.2).2 = false) := fun w => w.1 hz2
        rw [if_neg hk2]
        refine ev_pos hz ?_
        refine ev_bind (impl_isSeen_eq os (by omega)) (ev_bind (impl_Feel_eq past alarm i.1 (seenF os) (by omega)) (ev_bind (impl_Wants_eq q) (ev_bind (impl_Allow_eq past (feel past alarm i.1 (seenF os)) (wants q) (by omega)) (ev_dom (fun ha => ?_) (fun ha => ?_)))))
        · refine ev_bind (impl_Give_eq q _) (ev_bind (impl_Pass_eq past _ _ (by omega)) (ev_pos (by simp only [List.length_singleton]; omega) (ev_eq ?_)))
          have ha : feel past alarm i.1 (seenF os) = 0 := ha
          unfold finT tickP
          rw [if_pos ha]
          rfl
        · refine ev_bind (impl_Pass_eq past _ _ (by omega)) (ev_pos (by simp only [List.length_singleton]; omega) (ev_eq ?_))
          have ha : ¬ feel past alarm i.1 (seenF os) = 0 := ha
          unfold finT tickP
          rw [if_neg ha]
          rfl
      · have hz2 : i.2.2.size ≠ 0 := fun w => hz ((eq_empty _).2 w)
        refine ev_neg hz ?_
        by_cases hk : (readO i.2.2).2 = true
        · have hk2 : ¬ (i.2.2.size ≠ 0 ∧ (readO i.2.2).2 = false) := fun w => by rw [hk] at w; cases w.2
          rw [if_neg hk2]
          refine ev_pos hk ?_
          refine ev_bind (impl_isSeen_eq os (by omega)) (ev_bind (impl_Feel_eq past alarm i.1 (seenF os) (by omega)) (ev_bind (impl_Wants_eq q) (ev_bind (impl_Allow_eq past (feel past alarm i.1 (seenF os)) (wants q) (by omega)) (ev_dom (fun ha => ?_) (fun ha => ?_)))))
          · refine ev_bind (impl_Give_eq q _) (ev_bind (impl_Pass_eq past _ _ (by omega)) (ev_pos (by simp only [List.length_singleton]; omega) (ev_eq ?_)))
            have ha : feel past alarm i.1 (seenF os) = 0 := ha
            unfold finT tickP
            rw [if_pos ha]
            rfl
          · refine ev_bind (impl_Pass_eq past _ _ (by omega)) (ev_pos (by simp only [List.length_singleton]; omega) (ev_eq ?_))
            have ha : ¬ feel past alarm i.1 (seenF os) = 0 := ha
            unfold finT tickP
            rw [if_neg ha]
            rfl
        · have hk2 : i.2.2.size ≠ 0 ∧ (readO i.2.2).2 = false := ⟨hz2, by simpa using hk⟩
          rw [if_pos hk2, w64 (n := r + 1) (by omega) (by omega)]
          refine ev_neg hk ?_
          refine ev_bind (impl_isSeen_eq os (by omega)) (ev_bind (impl_Feel_eq past alarm i.1 (seenF os) (by omega)) (ev_bind (impl_Wants_eq q) (ev_bind (impl_Allow_eq past (feel past alarm i.1 (seenF os)) (wants q) (by omega)) (ev_dom (fun ha => ?_) (fun ha => ?_)))))
          · refine ev_bind (impl_Give_eq q _) (ev_bind (impl_Pass_eq past _ _ (by omega)) (ev_pos (by simp only [List.length_singleton]; omega) (ev_eq ?_)))
            have ha : feel past alarm i.1 (seenF os) = 0 := ha
            unfold finT tickP
            rw [if_pos ha]
            rfl
          · refine ev_bind (impl_Pass_eq past _ _ (by omega)) (ev_pos (by simp only [List.length_singleton]; omega) (ev_eq ?_))
            have ha : ¬ feel past alarm i.1 (seenF os) = 0 := ha
            unfold finT tickP
            rw [if_neg ha]
            rfl
    | succ d2 ih =>
      intro j hj q r hr0 hr
      have hlt : j < os.length := by omega
      have hc : os.drop j = os[j] :: os.drop (j + 1) := List.drop_eq_getElem_cons hlt
      rw [hc]
      simp only [takeL]
      refine Ev.step (fun w => by rw [impl_TickDevice_L7]) ?_
      refine ev_pos (by omega) (ev_pos (by omega) (ev_pos (by omega) ?_))
      rw [getD_drop hc, w64_succ (by omega)]
      refine ev_bind (impl_Device__order_eq q past alarm m' ts r os[j]) (ev_dom (fun hb => ?_) (fun hb => ?_))
      · have hb : (takeO q os[j]).2 = true := hb
        rw [if_pos hb]
        exact ih (j + 1) (by omega) (takeO q os[j]).1 r hr0 (by omega)
      · have hb : ¬ (takeO q os[j]).2 = true := hb
        rw [if_neg hb]
        have ew : wrap64 (r + 1) = r + 1 := w64 (by omega) (by omega)
        simp only [ew]
        exact ih (j + 1) (by omega) (takeO q os[j]).1 (r + 1) (by omega) (by omega)
  exact key os.length 0 (by omega) p ref q5 (by omega)
/- impl_PumpNew -/
theorem impl_PumpNew_eq : g_impl_PumpNew () = some (0, 0, 1, 0, 0, 0, 0, 0) := rfl
/- impl_DeviceNew -/
theorem impl_DeviceNew_eq : g_impl_DeviceNew () = some devNew := by
  unfold g_impl_DeviceNew impl_DeviceNew_
  have e1 := impl_MenuNew_eq
  have e2 := impl_PumpNew_eq
  simp only [e1, e2, Option.bind_some]
  rfl
/- impl_RunDevice -/
set_option maxHeartbeats 1000000 in
theorem impl_RunDevice_eq (l : List In) (hl : l.length ≤ 1048580) : g_impl_RunDevice l = some (runD l) := by
  refine evG_eq ?_
  unfold impl_RunDevice_ runD
  by_cases h : 150 < l.length
  · rw [if_pos h]
    exact ev_pos (by omega) (ev_eq rfl)
  rw [if_neg h]
  refine ev_neg (by omega) ?_
  have run : ∀ (d2 j : Nat), j + d2 = l.length → ∀ d : Device, DOk d →
      Ev (fun k => impl_RunDevice_L11 (fun _ => g_impl_DeviceNew) (fun _ => g_impl_InOk) (fun _ => g_impl_TickDevice) k ((l.length : Int), (j : Int), l, 0, 0, 0, 0, 0, 0, 0, 0, 0, 0, false, 0, 0, (⟨#[]⟩ : ByteArray), 0, d.1, d.2.1, d.2.2.1, d.2.2.2.1, d.2.2.2.2.1, d.2.2.2.2.2.1, d.2.2.2.2.2.2.1, d.2.2.2.2.2.2.2.1, d.2.2.2.2.2.2.2.2.2.1, d.2.2.2.2.2.2.2.2.2.2.1, d.2.2.2.2.2.2.2.2.2.2.2.1, d.2.2.2.2.2.2.2.2.2.2.2.2.1, d.2.2.2.2.2.2.2.2.2.2.2.2.2.1, d.2.2.2.2.2.2.2.2.2.2.2.2.2.2.1, d.2.2.2.2.2.2.2.2.2.2.2.2.2.2.2.2, [], [], d.2.2.2.2.2.2.2.2.1, d.2.2.2.2.2.2.2.2.2.2.2.2.2.2.2.1, ())) ((l.drop j).foldl tick d, true) := by
    intro d2
    induction d2 with
    | zero =>
      intro j hj d hd
      have ej : l.drop j = [] := List.drop_eq_nil_of_le (by omega)
      rw [ej]
      refine Ev.step (fun w => by rw [impl_RunDevice_L11]) ?_
      exact ev_neg (by omega) (ev_eq rfl)
    | succ d2 ih =>
      intro j hj d hd
      have hlt : j < l.length := by omega
      have hc : l.drop j = l[j] :: l.drop (j + 1) := List.drop_eq_getElem_cons hlt
      rw [hc]
      refine Ev.step (fun w => by rw [impl_RunDevice_L11]) ?_
      refine ev_pos (by omega) (ev_pos (by omega) (ev_pos (by omega) ?_))
      rw [getD_drop hc, w64_succ (by omega)]
      have hq : g_impl_TickDevice (d, l[j]) = some (tick d l[j]) := by
        obtain ⟨p, past, alarm, m, ts, ref, rfl, hk⟩ := hd
        obtain ⟨_, h2, h3, h4, _, _⟩ := deviceOk_den hk
        have h5 := menu_size h3
        have h6 := (guardOk_den h2).1
        rw [tick_dev]
        exact impl_TickDevice_eq p past alarm m ts ref l[j] (by omega) (by omega) (by omega)
      refine ev_bind hq ?_
      exact ih (j + 1) (by omega) (tick d l[j]) (hd.tick _)
  have all : ∀ (d2 j : Nat), j + d2 = l.length →
      Ev (fun k => impl_RunDevice_L4 (fun _ => g_impl_DeviceNew) (fun _ => g_impl_InOk) (fun _ => g_impl_TickDevice) k ((l.length : Int), (j : Int), l, 0, 0, 0, 0, 0, 0, 0, 0, 0, 0, false, 0, 0, (⟨#[]⟩ : ByteArray), 0, [], [], ())) (if (l.drop j).all inOk = true then (l.foldl tick devNew, true) else (devZero, false)) := by
    intro d2
    induction d2 with
    | zero =>
      intro j hj
      have ej : l.drop j = [] := List.drop_eq_nil_of_le (by omega)
      rw [ej]
      have ht : ([] : List In).all inOk = true := rfl
      rw [if_pos ht]
      refine Ev.step (fun w => by rw [impl_RunDevice_L4]) ?_
      exact ev_neg (by omega) (ev_bind impl_DeviceNew_eq (run l.length 0 (by omega) devNew devNew_ok))
    | succ d2 ih =>
      intro j hj
      have hlt : j < l.length := by omega
      have hc : l.drop j = l[j] :: l.drop (j + 1) := List.drop_eq_getElem_cons hlt
      rw [hc]
      refine Ev.step (fun w => by rw [impl_RunDevice_L4]) ?_
      refine ev_pos (by omega) (ev_pos (by omega) (ev_pos (by omega) ?_))
      rw [getD_drop hc, w64_succ (by omega)]
      refine ev_bind (impl_InOk_eq l[j]) ?_
      have e : (l[j] :: l.drop (j + 1)).all inOk = (inOk l[j] && (l.drop (j + 1)).all inOk) := rfl
      rw [e]
      cases hk : inOk l[j] with
      | true =>
        rw [Bool.true_and]
        exact ev_pos rfl (ih (j + 1) (by omega))
      | false =>
        have hf : ¬ (false && (l.drop (j + 1)).all inOk) = true := by simp
        rw [if_neg hf]
        exact ev_neg (by simp) (ev_eq rfl)
  exact all l.length 0 (by omega)
/- spec_l01Byte -/
theorem and255 (x : Int) : 0 ≤ iand .i64 x 255 ∧ iand .i64 x 255 ≤ 255 := by
  have e : iand .i64 x 255 = IntKind.i64.wrap (((BitVec.ofInt 64 x &&& BitVec.ofInt 64 255).toNat : Nat) : Int) := rfl
  have h : (BitVec.ofInt 64 x &&& BitVec.ofInt 64 255).toNat ≤ 255 := by
    rw [BitVec.toNat_and]
    exact Nat.le_trans Nat.and_le_right (by decide)
  rw [e, IntKind.wrap_i64]
  omega
theorem l01Byte_some (l : List Int) (i s : Int) (hl : l.length ≤ 1048576) (hi : 0 ≤ i) : ∃ b i' s', g_spec_l01Byte (l, i, s) = some (b, ((), i', s')) ∧ 0 ≤ b ∧ b ≤ 255 ∧ 0 ≤ i' := by
  unfold g_spec_l01Byte spec_l01Byte_
  simp only []
  rw [if_pos (by omega), if_pos (by omega)]
  by_cases h : i < (l.length : Int)
  · rw [if_pos h, if_pos hi, if_pos h, w64 (n := i + 1) (by omega) (by omega)]
    exact ⟨_, _, _, rfl, (and255 _).1, (and255 _).2, by omega⟩
  · rw [if_neg h]
    exact ⟨_, _, _, rfl, (and255 _).1, (and255 _).2, hi⟩
/- spec_l01Text -/
theorem l01Text_some (S : List Int) (i s : Int) (n : Nat) (hS : S.length ≤ 1048576) (hi : 0 ≤ i) (hn : n ≤ 5000) : ∃ v i' s', g_spec_l01Text ((S, i, s), (n : Int)) = some (v, ((), i', s')) ∧ v.size = n ∧ 0 ≤ i' := by
  have key : ∀ (d j : Nat), j + d = n → ∀ (i s : Int) (l : List Int), 0 ≤ i → l.length = j →
      ∃ v i' s', Ev (fun k => spec_l01Text_L5 (fun _ => g_spec_l01Byte) k ((n : Int), (j : Int), i, s, S, l, ())) (v, ((), i', s')) ∧ v.size = n ∧ 0 ≤ i' := by
    intro d
    induction d with
    | zero =>
      intro j hj i s l hi hl
      refine ⟨bstr l, i, s, Ev.step (fun q => by rw [spec_l01Text_L5]) ?_, by rw [size_bstr]; omega, hi⟩
      exact ev_neg (by omega) ev_some
    | succ d ih =>
      intro j hj i s l hi hl
      obtain ⟨b, i1, s1, e1, _, _, hi1⟩ := l01Byte_some S i s hS hi
      obtain ⟨v, i', s', h1, h2, h3⟩ := ih (j + 1) (by omega) i1 s1 (l ++ [wr .u8 b]) hi1 (by rw [List.length_append, List.length_singleton]; omega)
      refine ⟨v, i', s', Ev.step (fun q => by rw [spec_l01Text_L5]) ?_, h2, h3⟩
      refine ev_pos (by omega) (ev_bind e1 (ev_pos (by simp only [List.length_singleton]; omega) ?_))
      rw [w64_succ (by omega)]
      exact h1
  obtain ⟨v, i', s', h1, h2, h3⟩ := key n 0 (by omega) i s [] hi rfl
  refine ⟨v, i', s', evG_eq ?_, h2, h3⟩
  unfold spec_l01Text_
  exact ev_neg (by omega) h1
/- spec_l01Below -/
theorem l01Below_some (l : List Int) (i s n : Int) (hl : l.length ≤ 1048576) (hi : 0 ≤ i) (hn : 0 < n) : ∃ v i' s', g_spec_l01Below ((l, i, s), n) = some (v, ((), i', s')) ∧ 0 ≤ v ∧ v < n ∧ 0 ≤ i' := by
  unfold g_spec_l01Below spec_l01Below_
  simp only []
  rw [if_neg (by omega)]
  by_cases h : n ≤ 256
  · rw [if_pos h]
    obtain ⟨b, i1, s1, e, h1, h2, h3⟩ := l01Byte_some l i s hl hi
    rw [e, Option.bind_some, if_neg (by omega)]
    exact ⟨_, _, _, rfl, Int.tmod_nonneg _ h1, Int.tmod_lt_of_pos _ hn, h3⟩
  · rw [if_neg h]
    obtain ⟨b1, i1, s1, e1, h11, h12, h13⟩ := l01Byte_some l i s hl hi
    obtain ⟨b2, i2, s2, e2, h21, h22, h23⟩ := l01Byte_some l i1 s1 hl h13
    obtain ⟨b3, i3, s3, e3, h31, h32, h33⟩ := l01Byte_some l i2 s2 hl h23
    obtain ⟨b4, i4, s4, e4, h41, h42, h43⟩ := l01Byte_some l i3 s3 hl h33
    simp only [e1, e2, e3, e4, Option.bind_some]
    rw [if_neg (by omega)]
    refine ⟨_, _, _, rfl, Int.tmod_nonneg _ ?_, Int.tmod_lt_of_pos _ hn, h43⟩
    show 0 ≤ wrap64 ((wrap64 ((wrap64 ((wrap64 (b1 * 16777216)) + (wrap64 (b2 * 65536)))) + (wrap64 (b3 * 256)))) + b4)
    unfold wrap64; omega
/- spec_l02Spoilt -/
theorem l02Spoilt_some (S : List Int) (i s : Int) (t : ByteArray) (hS : S.length ≤ 1048576) (hi : 0 ≤ i) (ht : t.size ≤ 1048580) : ∃ v i' s', g_spec_l02Spoilt ((S, i, s), t) = some (v, ((), i', s')) ∧ v.size ≤ t.size + 1 ∧ 0 ≤ i' := by
  obtain ⟨x, i1, s1, e1, x0, x1, hi1⟩ := l01Below_some S i s 12 hS hi (by omega)
  have tx := fun (i s : Int) (hi : 0 ≤ i) => l01Text_some S i s 1 hS hi (by omega)
  have cut : 0 < t.size → ∃ v i' s', ((g_spec_l01Below ((S, i1, s1), ((ByteArray.size t : Nat) : Int))).bind fun v3 =>
       if 0 ≤ v3.1 then
        if v3.1 ≤ ((ByteArray.size t : Nat) : Int) then
         if 0 ≤ (wrap64 (v3.1 + 1)) then
          if (wrap64 (v3.1 + 1)) ≤ ((ByteArray.size t : Nat) : Int) then (g_spec_l01Text ((S, v3.2.2), 1)).bind fun v4 =>
           if ((ByteArray.size (ByteArray.extract t (Int.toNat 0) (Int.toNat v3.1)) + ByteArray.size v4.1 : Nat) : Int) ≤ 9223372036854775807 then
            if ((ByteArray.size ((ByteArray.extract t (Int.toNat 0) (Int.toNat v3.1)) ++ v4.1) + ByteArray.size (ByteArray.extract t (Int.toNat (wrap64 (v3.1 + 1))) (Int.toNat ((ByteArray.size t : Nat) : Int))) : Nat) : Int) ≤ 9223372036854775807 then some ((((ByteArray.extract t (Int.toNat 0) (Int.toNat v3.1)) ++ v4.1) ++ (ByteArray.extract t (Int.toNat (wrap64 (v3.1 + 1))) (Int.toNat ((ByteArray.size t : Nat) : Int)))), ((), v4.2.2)) else none
           else
            none else none
         else
          none
        else
         none
       else
        none) = some (v, ((), i', s')) ∧ v.size ≤ t.size + 1 ∧ 0 ≤ i' := by
    intro hz
    obtain ⟨n, i2, s2, e2, n0, n1, hi2⟩ := l01Below_some S i1 s1 (t.size : Int) hS hi1 (by omega)
    obtain ⟨u, i3, s3, e3, hu, hi3⟩ := tx i2 s2 hi2
    have e3 : g_spec_l01Text ((S, i2, s2), 1) = some (u, ((), i3, s3)) := e3
    simp only [e2, Option.bind_some]
    have w : wrap64 (n + 1) = n + 1 := w64 (by omega) (by omega)
    have z1 : (ByteArray.extract t (Int.toNat 0) (Int.toNat n)).size ≤ n.toNat := by
      rw [size_bl, bl_extract, Int.toNat_zero, List.drop_zero, List.length_take]; omega
    have z2 : (ByteArray.extract t (Int.toNat (n + 1)) (Int.toNat ((ByteArray.size t : Nat) : Int))).size ≤ t.size - (n + 1).toNat := by
      rw [size_bl, bl_extract, List.length_drop, List.length_take, bl_len]; omega
    rw [w, if_pos n0, if_pos (by omega), if_pos (by omega), if_pos (by omega)]
    simp only [e3, Option.bind_some]
    generalize ByteArray.extract t (Int.toNat 0) (Int.toNat n) = A at *
    generalize ByteArray.extract t (Int.toNat (n + 1)) (Int.toNat ((ByteArray.size t : Nat) : Int)) = B at *
    have z3 : (A ++ u).size = A.size + u.size := size_append _ _
    rw [if_pos (by omega), if_pos (by omega)]
    exact ⟨_, _, _, rfl, by rw [size_append, size_append]; omega, hi3⟩
  unfold g_spec_l02Spoilt spec_l02Spoilt_
  simp only [e1, Option.bind_some]
  by_cases c0 : x = 0
  · rw [if_pos c0]
    obtain ⟨u, i3, s3, e3, hu, hi3⟩ := tx i1 s1 hi1
    have e3 : g_spec_l01Text ((S, i1, s1), 1) = some (u, ((), i3, s3)) := e3
    simp only [e3, Option.bind_some]
    rw [if_pos (by omega)]
    exact ⟨_, _, _, rfl, by rw [size_append]; omega, hi3⟩
  · rw [if_neg c0]
    by_cases c1 : x = 1
    · rw [if_pos c1]
      have w : wrap64 (((ByteArray.size t : Nat) : Int) + 1) = ((ByteArray.size t : Nat) : Int) + 1 := w64 (by omega) (by omega)
      obtain ⟨n, i2, s2, e2, n0, n1, hi2⟩ := l01Below_some S i1 s1 (((ByteArray.size t : Nat) : Int) + 1) hS hi1 (by omega)
      rw [w]
      simp only [e2, Option.bind_some]
      rw [if_pos n0, if_pos (by omega)]
      refine ⟨_, _, _, rfl, ?_, hi2⟩
      rw [size_bl, bl_extract, List.length_drop, List.length_take, bl_len]; omega
    · rw [if_neg c1]
      by_cases c2 : x = 2
      · rw [if_pos c2, if_pos c2]
        by_cases hz : 0 < t.size
        · rw [if_pos (by omega)]
          exact cut hz
        · rw [if_neg (by omega)]
          exact ⟨_, _, _, rfl, by omega, hi1⟩
      · rw [if_neg c2]
        by_cases c3 : x = 3
        · rw [if_pos c3]
          by_cases hz : 0 < t.size
          · rw [if_pos (by omega)]
            exact cut hz
          · rw [if_neg (by omega)]
            exact ⟨_, _, _, rfl, by omega, hi1⟩
        · rw [if_neg c3]
          exact ⟨_, _, _, rfl, by omega, hi1⟩
/- spec_l01Once -/
theorem l01Once_some (l : List Int) (i s n : Int) (hl : l.length ≤ 1048576) (hi : 0 ≤ i) (hn : 0 < n) : ∃ b i' s', g_spec_l01Once ((l, i, s), n) = some (b, ((), i', s')) ∧ 0 ≤ i' := by
  unfold g_spec_l01Once spec_l01Once_
  simp only []
  obtain ⟨v, i1, s1, e, _, _, h⟩ := l01Below_some l i s n hl hi hn
  rw [e]; exact ⟨_, _, _, rfl, h⟩
/- spec_l01PickInt -/
theorem l01PickInt_some (S : List Int) (i s : Int) (L : List Int) (hS : S.length ≤ 1048576) (hi : 0 ≤ i) (hL : 0 < L.length) : ∃ v i' s', g_spec_l01PickInt ((S, i, s), L) = some (v, ((), i', s')) ∧ v ∈ L ∧ 0 ≤ i' := by
  unfold g_spec_l01PickInt spec_l01PickInt_
  obtain ⟨n, i1, s1, e, h0, h1, h2⟩ := l01Below_some S i s (L.length : Int) hS hi (by omega)
  simp only [e, Option.bind_some]
  rw [if_pos h0, if_pos h1]
  have hn : n.toNat < L.length := by omega
  refine ⟨_, _, _, rfl, ?_, h2⟩
  have : L.getD n.toNat 0 = L[n.toNat] := by simp [List.getD_eq_getElem?_getD, hn]
  rw [this]
  exact List.getElem_mem hn
/- spec_l14Order -/
theorem l14Order_some (S : List Int) (i s : Int) (hS : S.length ≤ 1048576) (hi : 0 ≤ i) : ∃ (o : Order) (i' s' : Int), g_spec_l14Order (S, i, s) = some (o, ((), i', s')) ∧ orderOk o = true ∧ 0 ≤ i' := by
  obtain ⟨v, i1, s1, e1, hv, hi1⟩ := l01PickInt_some S i s [1, 1, 1, 2, 2, 3, 4, 5, 6] hS hi (by decide)
  have hv6 : 1 ≤ v ∧ v ≤ 6 := by simp at hv; omega
  unfold g_spec_l14Order spec_l14Order_
  simp only [e1, Option.bind_some]
  by_cases h1 : v = 1
  · rw [if_pos h1]
    obtain ⟨a, i2, s2, e2, a0, a1, hi2⟩ := l01Below_some S i1 s1 9 hS hi1 (by omega)
    simp only [e2, Option.bind_some]
    have w1 : wrap64 (1 + a) = 1 + a := w64 (by omega) (by omega)
    have w2 : wrap64 (3 * (1 + a)) = 3 * (1 + a) := w64 (by omega) (by omega)
    rw [w1, w2]
    obtain ⟨b, i3, s3, e3, b0, b1, hi3⟩ := l01Below_some S i2 s2 (3 * (1 + a)) hS hi2 (by omega)
    obtain ⟨c, i4, s4, e4, c0, c1, hi4⟩ := l01Below_some S i3 s3 60 hS hi3 (by omega)
    simp only [e3, e4, Option.bind_some]
    rw [w64 (n := 1 + b) (by omega) (by omega), w64 (n := 1 + c) (by omega) (by omega)]
    exact ⟨_, _, _, rfl, decide_eq_true (by unfold OrderOkP; omega), hi4⟩
  · rw [if_neg h1]
    by_cases h2 : v = 2
    · rw [if_pos h2]
      obtain ⟨a, i2, s2, e2, a0, a1, hi2⟩ := l01Below_some S i1 s1 40 hS hi1 (by omega)
      simp only [e2, Option.bind_some]
      rw [w64 (n := 1 + a) (by omega) (by omega)]
      exact ⟨_, _, _, rfl, decide_eq_true (by unfold OrderOkP; omega), hi2⟩
    · rw [if_neg h2]
      exact ⟨_, _, _, rfl, decide_eq_true (by unfold OrderOkP; omega), hi1⟩
/- spec_l01Pick -/
theorem l01Pick_some (S : List Int) (i s : Int) (L : List ByteArray) (hS : S.length ≤ 1048576) (hi : 0 ≤ i) (hL : 0 < L.length) : ∃ v i' s', g_spec_l01Pick ((S, i, s), L) = some (v, ((), i', s')) ∧ v ∈ L ∧ 0 ≤ i' := by
  unfold g_spec_l01Pick spec_l01Pick_
  obtain ⟨n, i1, s1, e, h0, h1, h2⟩ := l01Below_some S i s (L.length : Int) hS hi (by omega)
  simp only [e, Option.bind_some]
  rw [if_pos h0, if_pos h1]
  have hn : n.toNat < L.length := by omega
  refine ⟨_, _, _, rfl, ?_, h2⟩
  have : L.getD n.toNat ⟨#[]⟩ = L[n.toNat] := by simp [List.getD_eq_getElem?_getD, hn]
  rw [this]
  exact List.getElem_mem hn
/- spec_l17Keys -/
theorem l17Keys_some (S : List Int) (i s : Int) (hS : S.length ≤ 1048576) (hi : 0 ≤ i) : ∃ v i' s', g_spec_l17Keys (S, i, s) = some (v, ((), i', s')) ∧ v.size ≤ 16 ∧ 0 ≤ i' := by
  have key : ∀ (d n : Nat), n + d = 2 → ∀ (i s : Int) (v : ByteArray), 0 ≤ i → v.size ≤ 8 * n →
      ∃ v' i' s', Ev (fun k => spec_l17Keys_L3 (fun _ => g_spec_l01Below) (fun _ => g_spec_l01Pick) k (v, (n : Int), i, s, S, ())) (v', ((), i', s')) ∧ v'.size ≤ 16 ∧ 0 ≤ i' := by
    intro d
    induction d with
    | zero =>
      intro n hn i s v hi hv
      obtain ⟨x, i1, s1, e, h0, h1, h2⟩ := l01Below_some S i s 3 hS hi (by omega)
      refine ⟨v, i1, s1, Ev.step (fun w => by rw [spec_l17Keys_L3]) ?_, by omega, h2⟩
      refine ev_bind e ?_
      exact ev_neg (show ¬ (n : Int) < x by omega) ev_some
    | succ d ih =>
      intro n hn i s v hi hv
      obtain ⟨x, i1, s1, e, h0, h1, h2⟩ := l01Below_some S i s 3 hS hi (by omega)
      by_cases hx : (n : Int) < x
      · obtain ⟨p, i2, s2, e2, hp, hi2⟩ := l01Pick_some S i1 s1 [(⟨#[98, 50, 10, 53, 10, 50, 48, 10]⟩ : ByteArray), (⟨#[111, 57, 10]⟩ : ByteArray), (⟨#[112]⟩ : ByteArray), (⟨#[103]⟩ : ByteArray), (⟨#[115]⟩ : ByteArray), (⟨#[120]⟩ : ByteArray), (⟨#[98, 51, 10, 49, 10]⟩ : ByteArray), (⟨#[52, 48, 10]⟩ : ByteArray), (⟨#[99]⟩ : ByteArray), (⟨#[113]⟩ : ByteArray), (⟨#[98, 48, 10]⟩ : ByteArray)] hS h2 (by decide)
        have hp8 : p.size ≤ 8 := by
          have hall : ∀ q ∈ [(⟨#[98, 50, 10, 53, 10, 50, 48, 10]⟩ : ByteArray), (⟨#[111, 57, 10]⟩ : ByteArray), (⟨#[112]⟩ : ByteArray), (⟨#[103]⟩ : ByteArray), (⟨#[115]⟩ : ByteArray), (⟨#[120]⟩ : ByteArray), (⟨#[98, 51, 10, 49, 10]⟩ : ByteArray), (⟨#[52, 48, 10]⟩ : ByteArray), (⟨#[99]⟩ : ByteArray), (⟨#[113]⟩ : ByteArray), (⟨#[98, 48, 10]⟩ : ByteArray)], q.size ≤ 8 := by decide
          exact hall p hp
        obtain ⟨v', i', s', h3, h4⟩ := ih (n + 1) (by omega) i2 s2 (v ++ p) hi2 (by rw [size_append]; omega)
        refine ⟨v', i', s', Ev.step (fun w => by rw [spec_l17Keys_L3]) ?_, h4⟩
        refine ev_bind e ?_
        refine ev_pos hx ?_
        refine ev_bind e2 ?_
        refine ev_pos (show ((v.size + p.size : Nat) : Int) ≤ 9223372036854775807 by omega) ?_
        rw [w64_succ (by omega)]
        exact h3
      · refine ⟨v, i1, s1, Ev.step (fun w => by rw [spec_l17Keys_L3]) ?_, by omega, h2⟩
        refine ev_bind e ?_
        exact ev_neg hx ev_some
  obtain ⟨v, i', s', h1, h2, h3⟩ := key 2 0 rfl i s ⟨#[]⟩ hi (Nat.zero_le _)
  exact ⟨v, i', s', evG_eq h1, h2, h3⟩
/- spec_l18In -/
theorem l18_link (S : List Int) (b : Int) (K : ByteArray) (i s : Int) (hS : S.length ≤ 1048576) (hi : 0 ≤ i) (hb : senseOk b = true) (hK : K.size ≤ 20) : ∃ (x : In) (i' s' : Int), ((g_spec_l01Once ((S, (i, s)), 6)).bind fun v14 =>
    if v14.1 = true then
     (g_spec_l14Order (S, v14.2.2)).bind fun v15 =>
     (g_spec_OrderText v15.1).bind fun v16 =>
     (g_spec_l01Once ((S, v15.2.2), 6)).bind fun v17 =>
     if v17.1 = true then
      (g_spec_l02Spoilt ((S, v17.2.2), v16.1)).bind fun v18 =>
      if 40 < ((ByteArray.size v18.1 : Nat) : Int) then
       some ((b, (K, (⟨#[120]⟩ : ByteArray))), ((), v18.2.2))
      else
       some ((b, (K, v18.1)), ((), v18.2.2))
     else
      if 40 < ((ByteArray.size v16.1 : Nat) : Int) then
       some ((b, (K, (⟨#[120]⟩ : ByteArray))), ((), v17.2.2))
      else
       some ((b, (K, v16.1)), ((), v17.2.2))
    else
     some ((b, (K, (⟨#[]⟩ : ByteArray))), ((), v14.2.2))) = some (x, ((), i', s')) ∧ inOk x = true ∧ 0 ≤ i' := by
  have ok : ∀ L : ByteArray, L.size ≤ 40 → inOk (b, K, L) = true := by
    intro L hL
    unfold inOk
    show (senseOk b && (decide (K.size ≤ 20) && decide (L.size ≤ 40))) = true
    rw [hb, decide_eq_true hK, decide_eq_true hL]; rfl
  obtain ⟨c1, i1, s1, e1, hi1⟩ := l01Once_some S i s 6 hS hi (by omega)
  simp only [e1, Option.bind_some]
  cases c1 with
  | false =>
    rw [if_neg (by simp)]
    exact ⟨_, _, _, rfl, ok _ (by rw [size_empty]; omega), hi1⟩
  | true =>
    rw [if_pos rfl]
    obtain ⟨o, i2, s2, e2, ho, hi2⟩ := l14Order_some S i1 s1 hS hi1
    obtain ⟨_, hz, _⟩ := readO_order ho
    obtain ⟨c2, i3, s3, e3, hi3⟩ := l01Once_some S i2 s2 6 hS hi2 (by omega)
    simp only [e2, e3, spec_OrderText_eq, Option.bind_some]
    cases c2 with
    | false =>
      rw [if_neg (by simp), if_neg (by omega)]
      exact ⟨_, _, _, rfl, ok _ (by omega), hi3⟩
    | true =>
      rw [if_pos rfl]
      obtain ⟨v, i4, s4, e4, hv, hi4⟩ := l02Spoilt_some S i3 s3 (orderT o).1 hS hi3 (by omega)
      simp only [e4, Option.bind_some]
      rw [if_neg (by omega)]
      exact ⟨_, _, _, rfl, ok _ (by omega), hi4⟩
theorem l18In_some (S : List Int) (i s : Int) (hS : S.length ≤ 1048576) (hi : 0 ≤ i) : ∃ (x : In) (i' s' : Int), g_spec_l18In (S, i, s) = some (x, ((), i', s')) ∧ inOk x = true ∧ 0 ≤ i' := by
  obtain ⟨c0, i1, s1, e1, hi1⟩ := l01Once_some S i s 8 hS hi (by omega)
  unfold g_spec_l18In spec_l18In_
  simp only [e1, Option.bind_some]
  cases c0 with
  | true =>
    rw [if_pos rfl]
    obtain ⟨b, i2, s2, e2, hb, hi2⟩ := l01PickInt_some S i1 s1 [1, 2, 4, 8, 5, 15] hS hi1 (by decide)
    have hb2 : senseOk b = true := by
      unfold senseOk
      have : 0 ≤ b ∧ b ≤ 15 := by simp at hb; omega
      rw [decide_eq_true this]
    obtain ⟨c1, i3, s3, e3, hi3⟩ := l01Once_some S i2 s2 3 hS hi2 (by omega)
    simp only [e2, e3, Option.bind_some]
    cases c1 with
    | true =>
      rw [if_pos rfl]
      obtain ⟨v, i4, s4, e4, hv, hi4⟩ := l17Keys_some S i3 s3 hS hi3
      simp only [e4, Option.bind_some]
      rw [if_neg (by omega)]
      exact l18_link S b v i4 s4 hS hi4 hb2 (by omega)
    | false =>
      rw [if_neg (by simp)]
      exact l18_link S b ⟨#[]⟩ i3 s3 hS hi3 hb2 (by rw [size_empty]; omega)
  | false =>
    rw [if_neg (by simp)]
    obtain ⟨c1, i3, s3, e3, hi3⟩ := l01Once_some S i1 s1 3 hS hi1 (by omega)
    simp only [e3, Option.bind_some]
    cases c1 with
    | true =>
      rw [if_pos rfl]
      obtain ⟨v, i4, s4, e4, hv, hi4⟩ := l17Keys_some S i3 s3 hS hi3
      simp only [e4, Option.bind_some]
      rw [if_neg (by omega)]
      exact l18_link S 0 v i4 s4 hS hi4 rfl (by omega)
    | false =>
      rw [if_neg (by simp)]
      exact l18_link S 0 ⟨#[]⟩ i3 s3 hS hi3 rfl (by rw [size_empty]; omega)
/- spec_l18Ins -/
theorem l18Ins_some (S : List Int) (i s : Int) (C : List Int) (hS : S.length ≤ 1048576) (hi : 0 ≤ i) (hC : C.length ≤ 1048576) : ∃ (l : List In) (i' s' : Int), g_spec_l18Ins ((S, i, s), C) = some (l, ((), i', s')) ∧ l.all inOk = true ∧ 10 ≤ l.length ∧ l.length ≤ 120 ∧ 0 ≤ i' := by
  have key : ∀ (n : Nat), 10 ≤ n → n ≤ 120 → ∀ (d j : Nat), j + d = n → ∀ (i s : Int) (l : List In), 0 ≤ i → l.length = j → l.all inOk = true →
      ∃ (l' : List In) (i' s' : Int), Ev (fun k => spec_l18Ins_L6 (fun _ => g_spec_l18In) k ((n : Int), (j : Int), i, s, S, l, ())) (l', ((), i', s')) ∧ l'.all inOk = true ∧ l'.length = n ∧ 0 ≤ i' := by
    intro n hn0 hn1 d
    induction d with
    | zero =>
      intro j hj i s l hi hl hok
      cases l with
      | nil => simp at hl; omega
      | cons x r =>
        rw [List.all_cons, Bool.and_eq_true] at hok
        have hx := inOk_den hok.1
        have hx2 : inOk (x.1, ((⟨#[98, 50, 10, 49, 10, 54, 48, 10]⟩ : ByteArray), x.2.2)) = true := by
          unfold inOk
          show (senseOk x.1 && (decide ((⟨#[98, 50, 10, 49, 10, 54, 48, 10]⟩ : ByteArray).size ≤ 20) && decide (x.2.2.size ≤ 40))) = true
          rw [hx.1, decide_eq_true hx.2.2]; rfl
        refine ⟨(x.1, ((⟨#[98, 50, 10, 49, 10, 54, 48, 10]⟩ : ByteArray), x.2.2)) :: r, i, s, Ev.step (fun q => by rw [spec_l18Ins_L6]) ?_, ?_, ?_, hi⟩
        · exact ev_neg (by omega) (ev_pos (by simp only [List.length_cons]; omega) (ev_pos (Nat.le_refl 0) (ev_pos (by simp only [List.length_cons]; omega) (ev_eq rfl))))
        · rw [List.all_cons, hx2, hok.2]; rfl
        · simp only [List.length_cons] at hl ⊢; omega
    | succ d ih =>
      intro j hj i s l hi hl hok
      obtain ⟨x, i1, s1, e1, hx, hi1⟩ := l18In_some S i s hS hi
      obtain ⟨l', i', s', h1, h2⟩ := ih (j + 1) (by omega) i1 s1 (l ++ [x]) hi1 (by rw [List.length_append, List.length_singleton]; omega) (by rw [List.all_append, hok]; simp [hx])
      refine ⟨l', i', s', Ev.step (fun q => by rw [spec_l18Ins_L6]) ?_, h2⟩
      refine ev_pos (by omega) (ev_bind e1 (ev_pos (by simp only [List.length_singleton]; omega) ?_))
      rw [w64_succ (by omega)]
      exact h1
  have e3 : Int.tdiv ((C.length : Nat) : Int) 3 = ((C.length / 3 : Nat) : Int) := by
    rw [Int.tdiv_eq_ediv_of_nonneg (by omega)]; omega
  have e4 : wrap64 (10 + (wrap64 (Int.tdiv ((List.length C : Nat) : Int) 3))) = ((10 + C.length / 3 : Nat) : Int) := by
    rw [e3, w64 (n := ((C.length / 3 : Nat) : Int)) (by omega) (by omega), w64 (by omega) (by omega)]; omega
  by_cases h : 120 < 10 + C.length / 3
  · obtain ⟨l, i', s', h1, h2, h3, h4⟩ := key 120 (by omega) (by omega) 120 0 (by omega) i s [] hi rfl rfl
    refine ⟨l, i', s', evG_eq ?_, h2, by omega, by omega, h4⟩
    unfold spec_l18Ins_
    simp only []
    rw [e4]
    exact ev_neg (by omega) (ev_pos (by omega) h1)
  · obtain ⟨l, i', s', h1, h2, h3, h4⟩ := key (10 + C.length / 3) (by omega) (by omega) (10 + C.length / 3) 0 (by omega) i s [] hi rfl rfl
    refine ⟨l, i', s', evG_eq ?_, h2, by omega, by omega, h4⟩
    unfold spec_l18Ins_
    simp only []
    rw [e4]
    exact ev_neg (by omega) (ev_neg (by omega) h1)
/- spec_l01New -/
theorem l01New_ev (l : List Int) (hl : l.length ≤ 1048576) : ∃ x, g_spec_l01New l = some ((), 0, x) := by
  have key : ∀ (d : Nat) (i : Nat), l.length = i + d → ∀ x, ∃ y, Ev (fun k => spec_l01New_L3 k (x, (i : Int), l, ())) ((), (0 : Int), y) := by
    intro d
    induction d with
    | zero =>
      intro i hi x
      exact ⟨x, Ev.step (fun q => by rw [spec_l01New_L3]) (ev_neg (by omega) ev_some)⟩
    | succ d ih =>
      intro i hi x
      by_cases h4 : (i : Int) < 4000
      · obtain ⟨y, hy⟩ := ih (i + 1) (by omega) _
        refine ⟨y, Ev.step (fun q => by rw [spec_l01New_L3]) (ev_pos (by omega) (ev_pos h4 (ev_pos (by omega) (ev_pos (by omega) ?_))))⟩
        rw [w64_succ (by omega)]
        exact hy
      · exact ⟨x, Ev.step (fun q => by rw [spec_l01New_L3]) (ev_pos (by omega) (ev_neg h4 ev_some))⟩
  obtain ⟨y, hy⟩ := key l.length 0 (by omega) _
  exact ⟨y, evG_eq hy⟩
/- spec_DrawIns -/
theorem spec_DrawIns_some (S : List Int) (hS : S.length ≤ 1048576) : ∃ l : List In, g_spec_DrawIns S = some l ∧ l.all inOk = true ∧ 10 ≤ l.length ∧ l.length ≤ 120 := by
  obtain ⟨x, hx⟩ := l01New_ev S hS
  obtain ⟨l, i, s, h, h1, h2, h3, _⟩ := l18Ins_some S 0 x S hS (by omega) hS
  refine ⟨l, ?_, h1, h2, h3⟩
  unfold g_spec_DrawIns spec_DrawIns_
  simp only [hx, h, Option.bind_some]
/- spec_l17Menu -/
theorem l17Menu_some (S : List Int) (i s : Int) (hS : S.length ≤ 1048576) (hi : 0 ≤ i) : ∃ (m : Menu) (i' s' : Int), g_spec_l17Menu (S, i, s) = some (m, ((), i', s')) ∧ m.2.2.2.2.size ≤ 1048580 ∧ 0 ≤ i' := by
  obtain ⟨v, i1, s1, e1, h1, hi1⟩ := l17Keys_some S i s hS hi
  obtain ⟨p, i2, s2, e2, hp, hi2⟩ := l01Pick_some S i1 s1 [(⟨#[]⟩ : ByteArray), (⟨#[98, 49]⟩ : ByteArray), (⟨#[98, 49, 50, 10, 51]⟩ : ByteArray), (⟨#[111, 55]⟩ : ByteArray)] hS hi1 (by decide)
  have hp8 : p.size ≤ 8 := by
    have hall : ∀ q ∈ [(⟨#[]⟩ : ByteArray), (⟨#[98, 49]⟩ : ByteArray), (⟨#[98, 49, 50, 10, 51]⟩ : ByteArray), (⟨#[111, 55]⟩ : ByteArray)], q.size ≤ 8 := by decide
    exact hall p hp
  obtain ⟨x, i3, s3, e3, _, _, hi3⟩ := l01Below_some S i2 s2 16 hS hi2 (by omega)
  have hm := (menuOk_den (s := (pressAll menuNew (v ++ p)).1.2.2.2.2) (pressAll_ok menuNew_ok (v ++ p)).1).2.2.2.2.1
  have e4 := spec_PressAll_eq menuNew (v ++ p) (Nat.zero_le _) (by rw [size_append]; omega)
  generalize hq : pressAll menuNew (v ++ p) = q at hm e4
  unfold g_spec_l17Menu spec_l17Menu_
  simp only [spec_MenuNew_eq, e1, e2, Option.bind_some]
  rw [if_pos (by omega)]
  simp only [e4, e3, Option.bind_some]
  by_cases c0 : x = 0
  · obtain ⟨y, i4, s4, e5, _, _, hi4⟩ := l01Below_some S i3 s3 6 hS hi3 (by omega)
    rw [if_pos c0]
    simp only [e5, Option.bind_some]
    exact ⟨_, _, _, rfl, by show q.1.2.2.2.2.size ≤ _; omega, hi4⟩
  · rw [if_neg c0]
    by_cases c1 : x = 1
    · obtain ⟨y, i4, s4, e5, hy, hi4⟩ := l01Pick_some S i3 s3 [(⟨#[49, 50, 51, 52, 53]⟩ : ByteArray), (⟨#[97]⟩ : ByteArray), (⟨#[49]⟩ : ByteArray)] hS hi3 (by decide)
      have hy8 : y.size ≤ 8 := by
        have hall : ∀ q ∈ [(⟨#[49, 50, 51, 52, 53]⟩ : ByteArray), (⟨#[97]⟩ : ByteArray), (⟨#[49]⟩ : ByteArray)], q.size ≤ 8 := by decide
        exact hall y hy
      rw [if_pos c1]
      simp only [e5, Option.bind_some]
      exact ⟨_, _, _, rfl, by show y.size ≤ _; omega, hi4⟩
    · rw [if_neg c1]
      by_cases c2 : x = 2
      · obtain ⟨y, i4, s4, e5, hy, hi4⟩ := l01PickInt_some S i3 s3 [(-1), 9999, 10000] hS hi3 (by decide)
        rw [if_pos c2]
        simp only [e5, Option.bind_some]
        exact ⟨_, _, _, rfl, by show q.1.2.2.2.2.size ≤ _; omega, hi4⟩
      · rw [if_neg c2]
        exact ⟨_, _, _, rfl, by omega, hi3⟩
/- spec_l16Copy -/
theorem spec_l16Copy_eq (l : List Int) (a : Int) (hl : l.length ≤ 17592186044416) : g_spec_l16Copy (l, a) = some (l, a) := by
  unfold g_spec_l16Copy spec_l16Copy_
  simp only [List.length_nil, Nat.zero_add, List.nil_append]
  rw [if_pos (by omega)]
/- spec_Feel -/
theorem spec_Feel_eq (l : List Int) (a s : Int) (b : Bool) (hl : l.length ≤ 17592186044416) : g_spec_Feel ((l, a), (s, b)) = some (l, feel l a s b) := by
  unfold g_spec_Feel spec_Feel_ feel
  simp only [spec_l16Copy_eq l a hl, spec_GuardOk_eq l a (by omega), spec_SenseOk_eq, Option.bind_some]
  cases hg : guardOk l a with
  | false => simp
  | true =>
    cases hs : senseOk s with
    | false => simp
    | true =>
      have h1 := (guardOk_den hg).2.2.2
      unfold senseOk at h1 hs
      rw [spec_l13Both_eq a s (of_decide_eq_true h1) (of_decide_eq_true hs)]
      cases b <;> simp
/- spec_l15Less -/
theorem spec_l15Less_eq (a b : Int) : g_spec_l15Less (a, b) = some (min a b) := by
  show (if a < b then some a else some b) = _
  split <;> (congr 1; omega)
/- spec_RoomOf -/
theorem spec_RoomOf_eq (l : List Int) (a : Int) (hl : l.length ≤ 9223372036854775806) : g_spec_RoomOf (l, a) = some (wrap64 (30 - l.sum)) := by
  unfold g_spec_RoomOf spec_RoomOf_
  simp only [spec_l16Sum_eq l hl, Option.bind_some, wrap64_sub']
/- spec_Pass -/
theorem spec_Pass_eq (l : List Int) (a n : Int) (hl : l.length ≤ 17592186044416) : g_spec_Pass ((l, a), n) = some (pass l a n, a) := by
  unfold g_spec_Pass spec_Pass_ pass
  simp only [spec_l16Copy_eq l a hl, spec_GuardOk_eq l a (by omega), spec_RoomOf_eq l a (by omega), spec_l15Less_eq, Option.bind_some, List.singleton_append, List.length_singleton, List.nil_append, List.length_nil, Nat.zero_add]
  by_cases h : guardOk l a = true
  · have hs := guardOk_sum h
    have h9 := (guardOk_den h).1
    simp only [h, if_true]
    rw [w64 (by omega) (by omega)]
    have key : ∀ x : Int, x = min (max n 0) (30 - l.sum) → (if ((1 + l.length : Nat) : Int) * ((8 : Nat) : Int) ≤ 140737488355328 then
        if 9 < ((List.length (x :: l) : Nat) : Int) then
          if (0 : Int) ≤ 9 then
            if 9 ≤ ((List.length (x :: l) : Nat) : Int) then
              if ((List.length (List.take (Int.toNat 9) (x :: l)) : Nat) : Int) * ((8 : Nat) : Int) ≤ 140737488355328 then some (List.take (Int.toNat 9) (x :: l), a) else none
            else none
          else none
        else some (x :: l, a)
      else none) = some (List.take 9 (min (max n 0) (30 - l.sum) :: l), a) := by
      intro x hx
      subst hx
      rw [if_pos (by omega)]
      split
      · rename_i h8
        rw [if_pos (by omega), if_pos (by omega), if_pos (by rw [List.length_take]; simp only [List.length_cons]; omega)]
        rfl
      · rename_i h8
        simp only [List.length_cons] at h8
        rw [List.take_of_length_le (by simp only [List.length_cons]; omega)]
    split
    · exact key _ (by omega)
    · exact key _ (by omega)
  · simp only [h, if_false, Bool.false_eq_true]
/- spec_l16Guard -/
theorem l16Guard_ev (S : List Int) (hS : S.length ≤ 1048576) (z : Int) (zl : List Int) : ∀ (d x : Nat), x + d = 14 → ∀ (i s : Int) (l : List Int) (a : Int), 0 ≤ i → guardOk l a = true →
    ∃ l' a' i' s', Ev (fun k => spec_l16Guard_L3 (fun _ => g_spec_Feel) (fun _ => g_spec_Pass) (fun _ => g_spec_l01Below) (fun _ => g_spec_l01Once) k ((x : Int), i, s, S, z, a, zl, l, ())) ((l', a'), ((), i', s')) ∧ guardOk l' a' = true ∧ 0 ≤ i' := by
  have done : ∀ (x : Int) (v i1 s1 : Int) (i s : Int) (l : List Int) (a : Int), g_spec_l01Below ((S, i, s), 14) = some (v, ((), i1, s1)) → ¬ x < v → 0 ≤ i1 → guardOk l a = true →
      ∃ l' a' i' s', Ev (fun k => spec_l16Guard_L3 (fun _ => g_spec_Feel) (fun _ => g_spec_Pass) (fun _ => g_spec_l01Below) (fun _ => g_spec_l01Once) k (x, i, s, S, z, a, zl, l, ())) ((l', a'), ((), i', s')) ∧ guardOk l' a' = true ∧ 0 ≤ i' := by
    intro x v i1 s1 i s l a e1 hv hi1 hg
    obtain ⟨b, i2, s2, e2, hi2⟩ := l01Once_some S i1 s1 2 hS hi1 (by omega)
    obtain ⟨h1, h2, h3, h4⟩ := guardOk_den hg
    cases b with
    | true =>
      refine ⟨l, 0, i2, s2, Ev.step (fun q => by rw [spec_l16Guard_L3]) ?_, guardOk_mk h1 h2 h3 (by decide), hi2⟩
      refine ev_bind e1 ?_
      refine ev_neg hv ?_
      refine ev_bind e2 ?_
      exact ev_pos rfl ev_some
    | false =>
      refine ⟨l, a, i2, s2, Ev.step (fun q => by rw [spec_l16Guard_L3]) ?_, hg, hi2⟩
      refine ev_bind e1 ?_
      refine ev_neg hv ?_
      refine ev_bind e2 ?_
      exact ev_neg Bool.false_ne_true ev_some
  intro d
  induction d with
  | zero =>
    intro x hx i s l a hi hg
    obtain ⟨v, i1, s1, e1, _, v2, hi1⟩ := l01Below_some S i s 14 hS hi (by omega)
    exact done x v i1 s1 i s l a e1 (by omega) hi1 hg
  | succ d ih =>
    intro x hx i s l a hi hg
    obtain ⟨v, i1, s1, e1, _, v2, hi1⟩ := l01Below_some S i s 14 hS hi (by omega)
    by_cases hv : (x : Int) < v
    · obtain ⟨p, i2, s2, e2, _, _, hi2⟩ := l01Below_some S i1 s1 8 hS hi1 (by omega)
      obtain ⟨b, i3, s3, e3, hi3⟩ := l01Once_some S i2 s2 6 hS hi2 (by omega)
      have hp := guardOk_pass p hg
      have hP := spec_Pass_eq l a p (by have := (guardOk_den hg).1; omega)
      cases b with
      | true =>
        obtain ⟨m, i4, s4, e4, _, _, hi4⟩ := l01Below_some S i3 s3 16 hS hi3 (by omega)
        obtain ⟨c, i5, s5, e5, hi5⟩ := l01Once_some S i4 s4 2 hS hi4 (by omega)
        obtain ⟨l', a', i', s', hE, hG, hI⟩ := ih (x + 1) (by omega) i5 s5 (pass l a p) (feel (pass l a p) a m c) hi5 (guardOk_feel m c hp)
        refine ⟨l', a', i', s', ?_, hG, hI⟩
        refine Ev.step (fun q => by rw [spec_l16Guard_L3]) (ev_bind e1 (ev_pos hv (ev_bind e2 (ev_bind hP (ev_bind e3 (ev_pos rfl (ev_bind e4 (ev_bind e5 (ev_bind (spec_Feel_eq (pass l a p) a m c (by have := (guardOk_den hp).1; omega)) ?_)))))))))
        rw [w64_succ (by omega)]
        exact hE
      | false =>
        obtain ⟨l', a', i', s', hE, hG, hI⟩ := ih (x + 1) (by omega) i3 s3 (pass l a p) a hi3 hp
        refine ⟨l', a', i', s', ?_, hG, hI⟩
        refine Ev.step (fun q => by rw [spec_l16Guard_L3]) (ev_bind e1 (ev_pos hv (ev_bind e2 (ev_bind hP (ev_bind e3 (ev_neg Bool.false_ne_true ?_))))))
        rw [w64_succ (by omega)]
        exact hE
    · exact done x v i1 s1 i s l a e1 hv hi1 hg
/- spec_l16Any -/
theorem l16_room (l : List Int) (y : Int) (h : l.length ≤ 9) : (((List.length l + List.length [y] : Nat) : Int) * ((8 : Nat) : Int)) ≤ 140737488355328 := by
  simp only [List.length_singleton]; omega
theorem l16_len (l : List Int) (y : Int) (h : l.length ≤ 9) : (l ++ [y]).length ≤ 1000 := by
  simp only [List.length_append, List.length_singleton]; omega
theorem l16_guard (S : List Int) (i s : Int) (hS : S.length ≤ 1048576) (hi : 0 ≤ i) : ∃ (l : List Int) (a i' s' : Int), g_spec_l16Guard (S, i, s) = some ((l, a), ((), i', s')) ∧ l.length ≤ 9 ∧ 0 ≤ i' := by
  obtain ⟨l, a, i1, s1, h, hg, hi1⟩ := l16Guard_ev S hS 0 [] 14 0 rfl i s [] 0 hi (by decide)
  have e0 : g_spec_l16Guard (S, i, s) = some ((l, a), ((), i1, s1)) := evG_eq h
  exact ⟨_, _, _, _, e0, (guardOk_den hg).1, hi1⟩
theorem l16_copy (l : List Int) (a : Int) (hl : l.length ≤ 9) : g_spec_l16Copy (l, a) = some (l, a) := spec_l16Copy_eq l a (Nat.le_trans hl (by decide))
theorem l16Any_ex (S : List Int) (i s : Int) (hS : S.length ≤ 1048576) (hi : 0 ≤ i) : ∃ r : (List Int × Int) × (Unit × Int × Int), g_spec_l16Any (S, i, s) = some r ∧ (r.1.1.length ≤ 1000 ∧ 0 ≤ r.2.2.1) := by
  obtain ⟨l, a, i1, s1, e0, hl, hi1⟩ := l16_guard S i s hS hi
  have hl2 : l.length ≤ 1000 := Nat.le_trans hl (by decide)
  obtain ⟨x, i2, s2, e2, _, _, hi2⟩ := l01Below_some S i1 s1 12 hS hi1 (by decide)
  obtain ⟨y0, j0, t0, f0, _, g0⟩ := l01PickInt_some S i2 s2 [(-1), 0, 30, 31] hS hi2 (by decide)
  obtain ⟨y1, j1, t1, f1, _, g1⟩ := l01PickInt_some S i2 s2 [(-1), 15, 16] hS hi2 (by decide)
  unfold g_spec_l16Any spec_l16Any_
  refine ex_bind e0 (ex_bind (l16_copy l a hl) (ex_bind e2 ?_))
  by_cases c0 : x = 0
  · exact ex_pos c0 (ex_bind f0 (ex_pos (l16_room l y0 hl) ⟨_, rfl, l16_len l y0 hl, g0⟩))
  by_cases c1 : x = 1
  · exact ex_neg c0 (ex_pos c1 (ex_bind f1 ⟨_, rfl, hl2, g1⟩))
  · exact ex_neg c0 (ex_neg c1 ⟨_, rfl, hl2, hi2⟩)
theorem l16Any_some (S : List Int) (i s : Int) (hS : S.length ≤ 1048576) (hi : 0 ≤ i) : ∃ (l : List Int) (a i' s' : Int), g_spec_l16Any (S, i, s) = some ((l, a), ((), i', s')) ∧ l.length ≤ 1000 ∧ 0 ≤ i' := by
  obtain ⟨⟨⟨l, a⟩, u, i', s'⟩, h, h1, h2⟩ := l16Any_ex S i s hS hi
  exact ⟨l, a, i', s', h, h1, h2⟩
/- spec_l03Rate -/
theorem l03Rate_some (S : List Int) (i s : Int) (hS : S.length ≤ 1048576) (hi : 0 ≤ i) : ∃ (r : Int × Int × Int) (i' s' : Int), g_spec_l03Rate (S, i, s) = some (r, ((), i', s')) ∧ 0 ≤ i' := by
  obtain ⟨a, i1, s1, e1, _, _, hi1⟩ := l01Below_some S i s 60 hS hi (by omega)
  obtain ⟨b, i2, s2, e2, b0, b1, hi2⟩ := l01Below_some S i1 s1 40 hS hi1 (by omega)
  have w1 : wrap64 (1 + b) = 1 + b := w64 (by omega) (by omega)
  obtain ⟨c, i3, s3, e3, _, _, hi3⟩ := l01Below_some S i2 s2 (1 + b) hS hi2 (by omega)
  obtain ⟨x, i4, s4, e4, _, _, hi4⟩ := l01Below_some S i3 s3 16 hS hi3 (by omega)
  obtain ⟨y0, j0, t0, f0, _, g0⟩ := l01PickInt_some S i4 s4 [(-1), 1000000, 1000001] hS hi4 (by decide)
  obtain ⟨y1, j1, t1, f1, _, g1⟩ := l01PickInt_some S i4 s4 [0, 1, 1000000, 1000001] hS hi4 (by decide)
  obtain ⟨y2, j2, t2, f2, _, g2⟩ := l01PickInt_some S i4 s4 [(-1), 1 + b] hS hi4 (by simp)
  unfold g_spec_l03Rate spec_l03Rate_
  simp only [e1, e2, w1, e3, e4, f0, f1, f2, Option.bind_some]
  by_cases c0 : x = 0
  · rw [if_pos c0]; exact ⟨_, _, _, rfl, g0⟩
  · rw [if_neg c0]
    by_cases c1 : x = 1
    · rw [if_pos c1]; exact ⟨_, _, _, rfl, g1⟩
    · rw [if_neg c1]
      by_cases c2 : x = 2
      · rw [if_pos c2]; exact ⟨_, _, _, rfl, g2⟩
      · rw [if_neg c2]; exact ⟨_, _, _, rfl, hi4⟩
/- spec_StepRate -/
theorem spec_StepRate_eq (n d r : Int) : g_spec_StepRate (n, d, r) = some ((n, d, stepRest n d r), stepGives n d r) := by
  unfold g_spec_StepRate spec_StepRate_ stepRest stepGives
  simp only [spec_RateOk_eq, Option.bind_some]
  by_cases h : rateOk n d r = true
  · have h' := rateOk_den h
    obtain ⟨e1, e2⟩ := step_plain h
    simp only [h, if_true]
    rw [if_neg (by omega), if_neg (by omega), e1, e2]
  · simp only [h, if_false]; rfl
/- spec_Wants -/
theorem spec_Wants_eq (p : Pump) : g_spec_Wants p = some (wants p) := by
  obtain ⟨s, n, d, r, l, b, g, k⟩ := p
  unfold g_spec_Wants spec_Wants_
  simp only [spec_PumpOk_eq, spec_StepRate_eq, Option.bind_some, spec_l15Less_eq]
  by_cases h : pumpOk (s, n, d, r, l, b, g, k) = true
  · obtain ⟨_, a2, a3, _, _, a6, _, a8, _⟩ := pumpOk_den h
    have hg := stepGives_range (decide_eq_true a2) a3
    unfold wants runs
    simp only [h, if_true, Bool.true_and, decide_eq_true_eq]
    repeat' split
    all_goals first
      | (exfalso; omega)
      | rfl
      | (rw [w64 (by omega) (by omega)])
  · unfold wants runs
    simp only [h, if_false, Bool.false_and, Bool.false_eq_true]
/- spec_Give -/
theorem spec_Give_eq (p : Pump) (m : Int) : g_spec_Give (p, m) = some (give p m) := by
  obtain ⟨s, n, d, r, l, b, g, k⟩ := p
  unfold g_spec_Give spec_Give_
  simp only [spec_PumpOk_eq, spec_StepRate_eq, spec_Wants_eq, Option.bind_some, spec_l15Less_eq]
  have hw := wants_range (s, n, d, r, l, b, g, k)
  by_cases h : pumpOk (s, n, d, r, l, b, g, k) = true
  · obtain ⟨_, a2, a3, _, _, a6, _, a8, a9⟩ := pumpOk_den h
    unfold give runs giveB giveN
    simp only [h, if_true, Bool.true_and, decide_eq_true_eq]
    generalize hW : wants (s, n, d, r, l, b, g, k) = W at hw
    have key : ∀ N, N = min (max m 0) W → ∀ B, B = min N (min b 3) → wrap64 (b - B) = b - B ∧ wrap64 (g + N) = g + N ∧ wrap64 (N - B) = N - B ∧ wrap64 (l - (N - B)) = l - (N - B) := by
      intro N hN B hB
      have hN' : 0 ≤ N ∧ N ≤ 6 := by omega
      have hB' : 0 ≤ B ∧ B ≤ 3 ∧ B ≤ N := by omega
      exact ⟨w64 (by omega) (by omega), w64 (by omega) (by omega), w64 (by omega) (by omega), w64 (by omega) (by omega)⟩
    by_cases hm : min m W < 0
    · simp only [hm, if_true]
      have e : (0 : Int) = min (max m 0) W := by omega
      obtain ⟨k1, k2, k3, k4⟩ := key 0 e _ rfl
      rw [k1, k2, k3, k4, ← e]
      repeat' split
      all_goals first
        | rfl
        | (exfalso; omega)
        | (rename_i h0; rw [h0.2])
        | (rename_i h0; rw [h0])
        | (rename_i h0 _; rw [h0])
    · simp only [hm, if_false]
      have e : min m W = min (max m 0) W := by omega
      rw [e]
      obtain ⟨k1, k2, k3, k4⟩ := key _ rfl _ rfl
      rw [k1, k2, k3, k4]
      repeat' split
      all_goals first
        | rfl
        | (exfalso; omega)
        | (rename_i h0; rw [h0.2])
        | (rename_i h0; rw [h0])
        | (rename_i h0 _; rw [h0])
  · unfold give runs
    simp only [h, if_false, Bool.false_and, Bool.false_eq_true]
/- spec_Take -/
theorem spec_Take_eq (p : Pump) (o : Order) : g_spec_Take (p, o) = some (take p o) := by
  obtain ⟨s, n, d, r, l, b, g, k⟩ := p
  obtain ⟨a, c, e, x⟩ := o
  unfold g_spec_Take spec_Take_ take takeR
  simp only [spec_PumpOk_eq, spec_OrderOk_eq, Option.bind_some]
  by_cases h : pumpOk (s, n, d, r, l, b, g, k) = true
  · by_cases h' : orderOk (a, c, e, x) = true
    · obtain ⟨h1, _, _, _, _, _, _, h8, _⟩ := pumpOk_den h
      simp only [h, h', if_true, and_self]
      repeat' split
      all_goals first
        | rfl
        | (exfalso; omega)
        | (simp_all; done)
        | (simp_all; omega)
    · simp only [h, h', if_true, if_false, and_false, Bool.false_eq_true]
  · simp only [h, if_false, false_and, Bool.false_eq_true]
/- spec_PumpNew -/
theorem spec_PumpNew_eq : g_spec_PumpNew () = some (0, 0, 1, 0, 0, 0, 0, 0) := rfl
/- spec_l15Pump -/
theorem l15Pump_some (S : List Int) (i s : Int) (hS : S.length ≤ 1048576) (hi : 0 ≤ i) : ∃ (p : Pump) (i' s' : Int), g_spec_l15Pump (S, i, s) = some (p, ((), i', s')) ∧ pumpOk p = true ∧ 0 ≤ i' := by
  have key : ∀ (d n : Nat), n + d = 14 → ∀ (i s : Int) (p : Pump), 0 ≤ i → pumpOk p = true →
      ∃ (p' : Pump) (i' s' : Int), Ev (fun k => spec_l15Pump_L3 (fun _ => g_spec_Give) (fun _ => g_spec_PumpNew) (fun _ => g_spec_Take) (fun _ => g_spec_l01Below) (fun _ => g_spec_l01Once) (fun _ => g_spec_l14Order) k ((n : Int), i, s, S, 0, 0, 0, 0, 0, 0, 0, 0, p.1, p.2.1, p.2.2.1, p.2.2.2.1, p.2.2.2.2.1, p.2.2.2.2.2.1, p.2.2.2.2.2.2.1, p.2.2.2.2.2.2.2, ())) (p', ((), i', s')) ∧ pumpOk p' = true ∧ 0 ≤ i' := by
    intro d
    induction d with
    | zero =>
      intro n hn i s p hi hp
      obtain ⟨x, i1, s1, e, h0, h1, h2⟩ := l01Below_some S i s 14 hS hi (by omega)
      refine ⟨p, i1, s1, Ev.step (fun w => by rw [spec_l15Pump_L3]) ?_, hp, h2⟩
      refine ev_bind e ?_
      exact ev_neg (show ¬ (n : Int) < x by omega) ev_some
    | succ d ih =>
      intro n hn i s p hi hp
      obtain ⟨x, i1, s1, e, h0, h1, h2⟩ := l01Below_some S i s 14 hS hi (by omega)
      by_cases hx : (n : Int) < x
      · obtain ⟨b, i2, s2, e2, hi2⟩ := l01Once_some S i1 s1 3 hS h2 (by omega)
        cases b with
        | true =>
          obtain ⟨o, i3, s3, e3, _, hi3⟩ := l14Order_some S i2 s2 hS hi2
          obtain ⟨p', i', s', h3, h4⟩ := ih (n + 1) (by omega) i3 s3 (take p o).1 hi3 (take_ok o hp)
          refine ⟨p', i', s', Ev.step (fun w => by rw [spec_l15Pump_L3]) ?_, h4⟩
          refine ev_bind e ?_
          refine ev_pos hx ?_
          refine ev_bind e2 ?_
          refine ev_pos rfl ?_
          refine ev_bind e3 ?_
          refine ev_bind (spec_Take_eq _ _) ?_
          rw [w64_succ (by omega)]
          exact h3
        | false =>
          obtain ⟨m, i3, s3, e3, _, _, hi3⟩ := l01Below_some S i2 s2 8 hS hi2 (by omega)
          obtain ⟨p', i', s', h3, h4⟩ := ih (n + 1) (by omega) i3 s3 (give p m) hi3 (give_ok m hp)
          refine ⟨p', i', s', Ev.step (fun w => by rw [spec_l15Pump_L3]) ?_, h4⟩
          refine ev_bind e ?_
          refine ev_pos hx ?_
          refine ev_bind e2 ?_
          refine ev_neg Bool.false_ne_true ?_
          refine ev_bind e3 ?_
          refine ev_bind (spec_Give_eq _ _) ?_
          rw [w64_succ (by omega)]
          exact h3
      · refine ⟨p, i1, s1, Ev.step (fun w => by rw [spec_l15Pump_L3]) ?_, hp, h2⟩
        refine ev_bind e ?_
        exact ev_neg hx ev_some
  obtain ⟨p', i', s', h1, h2⟩ := key 14 0 rfl i s (0, 0, 1, 0, 0, 0, 0, 0) hi pumpNew_ok
  refine ⟨p', i', s', evG_eq ?_, h2⟩
  unfold spec_l15Pump_
  refine ev_bind spec_PumpNew_eq ?_
  exact h1
/- spec_l15Any -/
theorem l15Any_some (S : List Int) (i s : Int) (hS : S.length ≤ 1048576) (hi : 0 ≤ i) : ∃ (p : Pump) (i' s' : Int), g_spec_l15Any (S, i, s) = some (p, ((), i', s')) ∧ 0 ≤ i' := by
  obtain ⟨p, i1, s1, e1, _, hi1⟩ := l15Pump_some S i s hS hi
  obtain ⟨x, i2, s2, e2, _, _, hi2⟩ := l01Below_some S i1 s1 16 hS hi1 (by omega)
  obtain ⟨y0, j0, t0, f0, _, _, g0⟩ := l01Below_some S i2 s2 5 hS hi2 (by omega)
  obtain ⟨y1, j1, t1, f1, _, g1⟩ := l01PickInt_some S i2 s2 [(-1), 0, 1, 5000, 5001] hS hi2 (by decide)
  obtain ⟨y2, j2, t2, f2, _, g2⟩ := l01PickInt_some S i2 s2 [(-1), 0, 100, 101] hS hi2 (by decide)
  obtain ⟨y3, j3, t3, f3, _, g3⟩ := l01PickInt_some S i2 s2 [(-1), 999999999999, 1000000000000, 1000000000001] hS hi2 (by decide)
  obtain ⟨y5, j5, t5, f5, g5⟩ := l03Rate_some S i2 s2 hS hi2
  unfold g_spec_l15Any spec_l15Any_
  simp only [e1, e2, f0, f1, f2, f3, f5, Option.bind_some]
  by_cases c0 : x = 0
  · rw [if_pos c0]; exact ⟨_, _, _, rfl, g0⟩
  · rw [if_neg c0]
    by_cases c1 : x = 1
    · rw [if_pos c1]; exact ⟨_, _, _, rfl, g1⟩
    · rw [if_neg c1]
      by_cases c2 : x = 2
      · rw [if_pos c2]; exact ⟨_, _, _, rfl, g2⟩
      · rw [if_neg c2]
        by_cases c3 : x = 3
        · rw [if_pos c3]; exact ⟨_, _, _, rfl, g3⟩
        · rw [if_neg c3]
          by_cases c4 : x = 4
          · rw [if_pos c4]; exact ⟨_, _, _, rfl, g0⟩
          · rw [if_neg c4]
            by_cases c5 : x = 5
            · rw [if_pos c5]; exact ⟨_, _, _, rfl, g5⟩
            · rw [if_neg c5]; exact ⟨_, _, _, rfl, hi2⟩
/- spec_l18Copy -/
theorem spec_l18Copy_eq (p : Pump) (past : List Int) (alarm : Int) (m : Menu) (ts : List Tick) (ref : Int) (h1 : past.length ≤ 1048580) (h2 : ts.length ≤ 1048580) : g_spec_l18Copy (dev p past alarm m ts ref) = some (dev p past alarm m ts ref) := by
  have e := spec_l16Copy_eq past alarm (by omega)
  unfold g_spec_l18Copy spec_l18Copy_ dev
  simp only [e, Option.bind_some, List.nil_append, List.length_nil]
  have c : (((0 + ts.length : Nat) : Int) * ((24 : Nat) : Int)) ≤ 140737488355328 := by omega
  rw [if_pos c]
/- spec_Allow -/
theorem spec_Allow_eq (l : List Int) (a m : Int) (hl : l.length ≤ 9223372036854775806) : g_spec_Allow ((l, a), m) = some (allow l a m) := by
  unfold g_spec_Allow spec_Allow_ allow
  simp only [spec_GuardOk_eq l a hl, spec_RoomOf_eq l a hl, spec_l15Less_eq, Option.bind_some]
  by_cases h : guardOk l a = true
  · have hs := guardOk_sum h
    by_cases h0 : a = 0
    · by_cases hm : m < 0
      · rw [if_pos h, if_pos h0, if_pos hm, if_pos ⟨h, h0⟩]
        congr 1
        omega
      · rw [if_pos h, if_pos h0, if_neg hm, if_pos ⟨h, h0⟩, w64 (by omega) (by omega)]
        congr 1
        omega
    · simp only [h, h0, if_true, if_false, and_false]
  · simp only [h, if_false, false_and, Bool.false_eq_true]
/- spec_InOk -/
theorem spec_InOk_eq (i : In) : g_spec_InOk i = some (inOk i) := by
  obtain ⟨a, s, t⟩ := i
  unfold g_spec_InOk spec_InOk_ inOk
  simp only [spec_SenseOk_eq, Option.bind_some]
  by_cases h : senseOk a = true
  · rw [if_pos h, h, Bool.true_and]
    by_cases h1 : s.size ≤ 20
    · rw [if_pos (by omega), decide_eq_true h1, Bool.true_and]
      congr 1
      by_cases h2 : t.size ≤ 40
      · rw [decide_eq_true h2, decide_eq_true (by omega)]
      · rw [decide_eq_false h2, decide_eq_false (by omega)]
    · rw [if_neg (by omega), decide_eq_false h1, Bool.false_and]
  · rw [if_neg h, Bool.eq_false_iff.2 h, Bool.false_and]
end Go.Sx.T
