/- Functions of the program as functions of Lean, and that the program keeps to them. -/
import Derived.Test.YthimkepabblloaaFnExactSoundDeviceA0
set_option maxRecDepth 100000
set_option linter.unusedVariables false
set_option linter.unusedSimpArgs false
namespace Go.Proofs
end Go.Proofs
namespace Go.Sx.T
open Go Go.Sx Go.Proofs Go.RowKit
/- laws_eqTick -/
theorem laws_eqTick_refl (p : Int × Int × Int) : g_laws_eqTick (p, p) = some true := by
  obtain ⟨a, b, c⟩ := p
  unfold g_laws_eqTick laws_eqTick_
  simp
/- laws_eqTickS -/
theorem laws_eqTickS_refl (l : List Tick) (hl : l.length ≤ 9223372036854775806) : g_laws_eqTickS (l, l) = some true := by
  refine evG_eq ?_
  unfold laws_eqTickS_
  refine ev_pos rfl ?_
  refine list_loop l (fun k (_ : Unit) i => laws_eqTickS_L4 (fun _ => g_laws_eqTick) k (i, l, l, ())) (fun _ _ => true) (fun _ => ?_) (fun i _ x rest hx hi h => ?_) 0 (by omega) ()
  · refine Ev.step (fun q => by rw [laws_eqTickS_L4]) ?_
    exact ev_neg (by omega) ev_some
  · refine Ev.step (fun q => by rw [laws_eqTickS_L4]) ?_
    refine ev_pos (by omega) (ev_pos (by omega) (ev_pos (by omega) (ev_pos (by omega) (ev_pos (by omega) (ev_bind (laws_eqTick_refl _) (ev_pos rfl ?_))))))
    rw [w64_succ (by omega)]
    exact h ()
/- laws_eqMenu -/
theorem laws_eqMenu_refl (m : Menu) : g_laws_eqMenu (m, m) = some true := by
  obtain ⟨a, b, n, d, s⟩ := m
  unfold g_laws_eqMenu laws_eqMenu_
  simp
/- laws_eqIntS -/
theorem laws_eqIntS_refl (l : List Int) (hl : l.length ≤ 9223372036854775806) : g_laws_eqIntS (l, l) = some true := by
  refine evG_eq ?_
  unfold laws_eqIntS_
  refine ev_pos rfl ?_
  refine list_loop l (fun k (_ : Unit) i => laws_eqIntS_L4 k (i, l, l, ())) (fun _ _ => true) (fun _ => ?_) (fun i _ x rest hx hi h => ?_) 0 (by omega) ()
  · refine Ev.step (fun q => by rw [laws_eqIntS_L4]) ?_
    exact ev_neg (by omega) ev_some
  · refine Ev.step (fun q => by rw [laws_eqIntS_L4]) ?_
    refine ev_pos (by omega) (ev_pos (by omega) (ev_pos (by omega) (ev_pos (by omega) (ev_pos (by omega) (ev_pos rfl ?_)))))
    rw [w64_succ (by omega)]
    exact h ()
/- laws_eqGuard -/
theorem laws_eqGuard_refl (l : List Int) (a : Int) (hl : l.length ≤ 9223372036854775806) : g_laws_eqGuard ((l, a), (l, a)) = some true := by
  unfold g_laws_eqGuard laws_eqGuard_
  simp [laws_eqIntS_refl l hl]
/- laws_eqRate -/
theorem laws_eqRate_refl (p : Int × Int × Int) : g_laws_eqRate (p, p) = some true := by
  obtain ⟨a, b, c⟩ := p
  unfold g_laws_eqRate laws_eqRate_
  simp
/- laws_eqPump -/
theorem laws_eqPump_refl (p : Pump) : g_laws_eqPump (p, p) = some true := by
  obtain ⟨s, n, d, r, l, b, g, k⟩ := p
  unfold g_laws_eqPump laws_eqPump_
  simp [laws_eqRate_refl]
/- laws_eqDevice -/
theorem laws_eqDevice_refl (d : Device) (h1 : d.2.2.2.2.2.2.2.2.1.length ≤ 9223372036854775806) (h2 : d.2.2.2.2.2.2.2.2.2.2.2.2.2.2.2.1.length ≤ 9223372036854775806) : g_laws_eqDevice (d, d) = some true := by
  obtain ⟨s, n, e, r, l, b, g, k, past, alarm, a, bo, nu, de, di, ts, ref⟩ := d
  unfold g_laws_eqDevice laws_eqDevice_
  simp only [laws_eqPump_refl, laws_eqGuard_refl past alarm h1, laws_eqMenu_refl, laws_eqTickS_refl ts h2, Option.bind_some, if_true]
/- impl_MenuNew -/
theorem impl_MenuNew_eq : g_impl_MenuNew () = some menuNew := rfl
/- impl_within -/
theorem impl_within_eq (a b c : Int) : g_impl_within (a, b, c) = some (decide (b ≤ a ∧ a ≤ c)) := by
  show (if b ≤ a then some (decide (a ≤ c)) else some false) = _
  split
  · rename_i h; refine eq_dec ?_; rw [decide_eq_true_iff]; omega
  · rename_i h; exact dec_no (by omega)
/- spec_l01In -/
theorem spec_l01In_eq (a b c : Int) : g_spec_l01In (a, b, c) = some (decide (b ≤ a ∧ a ≤ c)) := by
  show (if b ≤ a then some (decide (a ≤ c)) else some false) = _
  split
  · rename_i h; refine eq_dec ?_; rw [decide_eq_true_iff]; omega
  · rename_i h; exact dec_no (by omega)
/- impl_MenuOk -/
theorem impl_MenuOk_eq (a : Int) (b : Bool) (n d : Int) (s : ByteArray) (hs : s.size ≤ 1048580) : g_impl_MenuOk (a, b, n, d, s) = some (menuOk (a, b, n, d, s)) := by
  refine evG_eq ?_
  unfold impl_MenuOk_
  refine Ev.cast (bytes_loop s (fun k (_ : Unit) i => impl_MenuOk_L2 (fun _ => g_impl_MenuNew) (fun _ => g_impl_within) k ((s.size : Int), i, a, b, n, d, s, ())) (fun r _ => digitsOk r && (if a = 1 then decide (s.size = 0 ∧ b = false ∧ n = 0 ∧ d = 0) else decide ((2 ≤ a ∧ a ≤ 4) ∧ (0 ≤ n ∧ n ≤ 9999) ∧ (0 ≤ d ∧ d ≤ 9999) ∧ s.size ≤ 4))) (fun _ => ?_) (fun i _ x rest hx hi h => ?_) ()) ?_
  · refine Ev.step (fun q => by rw [impl_MenuOk_L2]) ?_
    refine ev_neg (by omega) ?_
    by_cases h1 : a = 1
    · refine ev_pos h1 (ev_bind impl_MenuNew_eq (Ev.cast ev_some ?_))
      rw [if_pos h1]
      show (decide (a = 1) && ((b == false) && (decide (n = 0) && (decide (d = 0) && decide (s = ⟨#[]⟩))))) = (digitsOk [] && decide (s.size = 0 ∧ b = false ∧ n = 0 ∧ d = 0))
      rw [Bool.eq_iff_iff]
      simp only [Bool.and_eq_true, decide_eq_true_iff, beq_iff_eq, eq_empty]
      constructor
      · rintro ⟨_, h2, h3, h4, h5⟩; exact ⟨rfl, h5, h2, h3, h4⟩
      · rintro ⟨_, h5, h2, h3, h4⟩; exact ⟨h1, h2, h3, h4, h5⟩
    · refine ev_neg h1 ?_
      simp only [impl_within_eq, Option.bind_some, decide_eq_true_eq, if_neg h1]
      refine ev_eq ?_
      show _ = some (digitsOk [] && _)
      rw [show digitsOk [] = true from rfl, Bool.true_and]
      repeat' refine ite_r (fun _ => ?_) (fun _ => ?_)
      all_goals first
        | exact dec_no (by omega)
        | (refine eq_dec ?_; rw [decide_eq_true_iff]; omega)
  · refine Ev.step (fun q => by rw [impl_MenuOk_L2]) ?_
    refine ev_pos (by omega) (ev_pos (by omega) (ev_pos (by omega) ?_))
    have := u8_range x
    rw [byt_drop hx, w64_succ (by omega), w64 (by omega) (by omega)]
    refine ev_bind (impl_within_eq _ _ _) ?_
    by_cases h1 : 48 ≤ (x.toNat : Int) ∧ (x.toNat : Int) ≤ 57
    · refine ev_pos (decide_eq_true h1) (Ev.cast (h ()) ?_)
      rw [digitsOk_cons, decide_eq_true h1, Bool.true_and]
    · refine ev_neg (by simpa using h1) (Ev.cast ev_some ?_)
      rw [digitsOk_cons, decide_eq_false h1]; rfl
  · show _ = decide (MenuOkP a b n d s)
    rw [Bool.eq_iff_iff]
    refine Iff.trans ?_ decide_eq_true_iff.symm
    rw [Bool.and_eq_true]
    unfold MenuOkP
    by_cases h1 : a = 1
    · rw [if_pos h1, decide_eq_true_iff]
      constructor
      · rintro ⟨h2, h3, h4, h5, h6⟩; exact ⟨h2, by omega, by omega, by omega, by omega, fun _ => ⟨h3, h4, h5, h6⟩⟩
      · rintro ⟨h2, _, _, _, _, h3⟩; exact ⟨h2, h3 h1⟩
    · rw [if_neg h1, decide_eq_true_iff]
      constructor
      · rintro ⟨h2, h3, h4, h5, h6⟩; exact ⟨h2, by omega, h4, h5, h6, fun q => absurd q h1⟩
      · rintro ⟨h2, h3, h4, h5, h6, _⟩; exact ⟨h2, by omega, h4, h5, h6⟩
/- laws_toMenu -/
theorem laws_toMenu_eq (m : Menu) : g_laws_toMenu m = some m := rfl
/- spec_MenuOk -/
theorem spec_MenuOk_eq (a : Int) (b : Bool) (n d : Int) (s : ByteArray) (hs : s.size ≤ 1048580) : g_spec_MenuOk (a, b, n, d, s) = some (menuOk (a, b, n, d, s)) := by
  refine evG_eq ?_
  show Ev _ (decide (MenuOkP a b n d s))
  unfold spec_MenuOk_
  have hloop : Ev (fun k => spec_MenuOk_L4 (fun _ => g_spec_l01In) k (0, a, b, n, d, s, ())) (digitsOk (bl s) && decide (a = 1 → s.size = 0 ∧ b = false ∧ n = 0 ∧ d = 0)) := by
    refine bytes_loop s (fun k (_ : Unit) i => spec_MenuOk_L4 (fun _ => g_spec_l01In) k (i, a, b, n, d, s, ())) (fun r _ => digitsOk r && decide (a = 1 → s.size = 0 ∧ b = false ∧ n = 0 ∧ d = 0)) (fun _ => ?_) (fun i _ x rest hx hi h => ?_) ()
    · refine Ev.step (fun q => by rw [spec_MenuOk_L4]) ?_
      refine ev_neg (by omega) (ev_eq ?_)
      show _ = some (digitsOk [] && _)
      rw [show digitsOk [] = true from rfl, Bool.true_and]
      simp only [eq_empty]
      cases b with
      | false =>
        repeat' refine ite_r (fun _ => ?_) (fun _ => ?_)
        all_goals first
          | exact absurd (by assumption) Bool.false_ne_true
          | exact dec_yes (fun q => by first | (exfalso; omega) | exact ⟨by omega, rfl, by omega, by omega⟩)
          | exact dec_no (fun q => by have := q (by omega); omega)
          | (refine eq_dec ?_; rw [decide_eq_true_iff]; exact ⟨fun h q => ⟨by omega, rfl, by omega, h⟩, fun q => (q (by omega)).2.2.2⟩)
      | true =>
        repeat' refine ite_r (fun _ => ?_) (fun _ => ?_)
        all_goals first
          | exact absurd rfl (by assumption)
          | exact dec_yes (fun q => by exfalso; omega)
          | exact dec_no (fun q => by have := (q (by omega)).2.1; cases this)
    · refine Ev.step (fun q => by rw [spec_MenuOk_L4]) ?_
      refine ev_pos (by omega) (ev_pos (by omega) (ev_pos (by omega) ?_))
      rw [byt_drop hx, w64_succ (by omega)]
      by_cases h1 : (x.toNat : Int) < 48
      · refine ev_pos h1 (Ev.cast ev_some ?_)
        rw [digitsOk_cons, decide_eq_false (p := 48 ≤ (x.toNat : Int) ∧ (x.toNat : Int) ≤ 57) (by omega)]; rfl
      · refine ev_neg h1 (ev_pos (by omega) (ev_pos (by omega) ?_))
        by_cases h2 : 57 < (x.toNat : Int)
        · refine ev_pos h2 (Ev.cast ev_some ?_)
          rw [digitsOk_cons, decide_eq_false (p := 48 ≤ (x.toNat : Int) ∧ (x.toNat : Int) ≤ 57) (by omega)]; rfl
        · refine ev_neg h2 (Ev.cast (h ()) ?_)
          rw [digitsOk_cons, decide_eq_true (p := 48 ≤ (x.toNat : Int) ∧ (x.toNat : Int) ≤ 57) (by omega), Bool.true_and]
  have no : ¬ ((1 ≤ a ∧ a ≤ 4) ∧ (0 ≤ n ∧ n ≤ 9999) ∧ (0 ≤ d ∧ d ≤ 9999) ∧ s.size ≤ 4) → false = decide (MenuOkP a b n d s) := fun h => by
    rw [decide_eq_false]
    unfold MenuOkP
    exact fun q => h ⟨q.2.1, q.2.2.1, q.2.2.2.1, q.2.2.2.2.1⟩
  refine ev_bind (spec_l01In_eq _ _ _) (ev_dom (fun h1 => ?_) (fun h1 => Ev.cast ev_some (no fun q => h1 (decide_eq_true q.1))))
  refine ev_bind (spec_l01In_eq _ _ _) (ev_dom (fun h2 => ?_) (fun h2 => Ev.cast ev_some (no fun q => h2 (decide_eq_true q.2.1))))
  refine ev_bind (spec_l01In_eq _ _ _) (ev_dom (fun h3 => ?_) (fun h3 => Ev.cast ev_some (no fun q => h3 (decide_eq_true q.2.2.1))))
  refine ev_dom (fun h4 => Ev.cast ev_some (no fun q => by omega)) (fun h4 => Ev.cast hloop ?_)
  rw [decide_eq_true_iff] at h1 h2 h3
  rw [Bool.eq_iff_iff]
  refine Iff.trans ?_ decide_eq_true_iff.symm
  rw [Bool.and_eq_true, decide_eq_true_iff]
  unfold MenuOkP
  constructor
  · rintro ⟨q1, q2⟩; exact ⟨q1, h1, h2, h3, by omega, q2⟩
  · rintro ⟨q1, _, _, _, _, q2⟩; exact ⟨q1, q2⟩
/- laws_szMenu -/
theorem laws_szMenu_eq (m : Menu) (z : Int) (hs : m.2.2.2.2.size ≤ maxLen) (hz : 0 ≤ z ∧ z ≤ 1048576) : g_laws_szMenu (m, z) = some (if (m.2.2.2.2.size : Int) ≤ z then z - (m.2.2.2.2.size : Int) else -1) := by
  obtain ⟨a, b, n, d, s⟩ := m
  rw [maxLen_eq] at hs
  unfold g_laws_szMenu laws_szMenu_
  simp only [] at hs ⊢
  rw [w64 (by omega) (by omega)]
  by_cases h : (s.size : Int) ≤ z
  · rw [if_neg (by omega), if_pos h]
  · rw [if_pos (by omega), if_neg h]
/- impl_RateOk -/
theorem impl_RateOk_eq (n d r : Int) : g_impl_RateOk (n, d, r) = some (rateOk n d r) := by
  unfold g_impl_RateOk impl_RateOk_ rateOk
  simp only [impl_within_eq, Option.bind_some, decide_eq_true_eq]
  by_cases h1 : 0 ≤ n ∧ n ≤ 1000000
  · by_cases h2 : 1 ≤ d ∧ d ≤ 1000000
    · rw [if_pos h1, if_pos h2, w64 (by omega) (by omega)]
      refine eq_dec ?_
      rw [decide_eq_true_iff]; unfold RateOkP; omega
    · rw [if_pos h1, if_neg h2]; exact dec_no (by unfold RateOkP; omega)
  · rw [if_neg h1]; exact dec_no (by unfold RateOkP; omega)
/- impl_PumpOk -/
theorem impl_PumpOk_eq (p : Pump) : g_impl_PumpOk p = some (pumpOk p) := by
  obtain ⟨s, n, d, r, l, b, g, k⟩ := p
  show _ = some (decide (PumpOkP s n d r l b g k))
  unfold g_impl_PumpOk impl_PumpOk_
  simp only [impl_within_eq, impl_RateOk_eq, Option.bind_some, decide_eq_true_eq, rateOk, beq_iff_eq, Bool.true_eq, Bool.false_eq, decide_eq_false_iff_not, decide_eq_decide]
  by_cases h : RateOkP n d r
  · have hw : wrap64 (3 * d) = 3 * d := by unfold RateOkP at h; exact w64 (by omega) (by omega)
    rw [hw]
    have h0 := h
    unfold RateOkP at h
    repeat' refine ite_r (fun _ => ?_) (fun _ => ?_)
    all_goals first
      | exact absurd h0 (by assumption)
      | exact dec_no (by unfold PumpOkP RateOkP; omega)
      | exact dec_yes (by unfold PumpOkP RateOkP; omega)
      | (refine eq_dec ?_; rw [decide_eq_true_iff]; unfold PumpOkP RateOkP; omega)
  · simp only [h, if_false]
    repeat' refine ite_r (fun _ => ?_) (fun _ => ?_)
    all_goals exact dec_no (by unfold PumpOkP; exact fun q => h q.2.1)
/- spec_RateOk -/
theorem spec_RateOk_eq (n d r : Int) : g_spec_RateOk (n, d, r) = some (rateOk n d r) := by
  unfold g_spec_RateOk spec_RateOk_ rateOk
  simp only [spec_l01In_eq, Option.bind_some, decide_eq_true_eq]
  by_cases h1 : 0 ≤ n ∧ n ≤ 1000000
  · by_cases h2 : 1 ≤ d ∧ d ≤ 1000000
    · rw [if_pos h1, if_pos h2, w64 (by omega) (by omega)]
      refine eq_dec ?_
      rw [decide_eq_true_iff]; unfold RateOkP; omega
    · rw [if_pos h1, if_neg h2]; exact dec_no (by unfold RateOkP; omega)
  · rw [if_neg h1]; exact dec_no (by unfold RateOkP; omega)
/- spec_PumpOk -/
theorem spec_PumpOk_eq (p : Pump) : g_spec_PumpOk p = some (pumpOk p) := by
  obtain ⟨s, n, d, r, l, b, g, k⟩ := p
  show _ = some (decide (PumpOkP s n d r l b g k))
  unfold g_spec_PumpOk spec_PumpOk_
  simp only [spec_l01In_eq, spec_RateOk_eq, Option.bind_some, decide_eq_true_eq, rateOk, beq_iff_eq, Bool.true_eq, Bool.false_eq, decide_eq_false_iff_not, decide_eq_decide]
  by_cases h : RateOkP n d r
  · have hw : wrap64 (3 * d) = 3 * d := by unfold RateOkP at h; exact w64 (by omega) (by omega)
    rw [hw]
    have h0 := h
    unfold RateOkP at h
    repeat' refine ite_r (fun _ => ?_) (fun _ => ?_)
    all_goals first
      | exact absurd h0 (by assumption)
      | exact dec_no (by unfold PumpOkP RateOkP; omega)
      | exact dec_yes (by unfold PumpOkP RateOkP; omega)
      | (refine eq_dec ?_; rw [decide_eq_true_iff]; unfold PumpOkP RateOkP; omega)
  · simp only [h, if_false]
    repeat' refine ite_r (fun _ => ?_) (fun _ => ?_)
    all_goals exact dec_no (by unfold PumpOkP; exact fun q => h q.2.1)
/- laws_toTick -/
theorem laws_toTick_eq (p : Int × Int × Int) : g_laws_toTick p = some p := rfl
/- laws_toTickS -/
theorem laws_toTickS_eq (l : List Tick) (hl : l.length ≤ 1048576) : g_laws_toTickS l = some l := by
  refine evG_eq ?_
  unfold laws_toTickS_
  refine ev_pos rfl (ev_pos (by omega) (ev_pos (by omega) ?_))
  rw [Int.toNat_natCast]
  refine map_loop (0, (0, 0)) l (fun k out i => laws_toTickS_L3 (fun _ => g_laws_toTick) k (i, l, out, ())) (fun out => ?_) (fun i x out r hx hi ho h => ?_)
  · refine Ev.step (fun q => by rw [laws_toTickS_L3]) ?_
    exact ev_neg (by omega) ev_some
  · refine Ev.step (fun q => by rw [laws_toTickS_L3]) ?_
    refine ev_pos (by omega) (ev_pos (by omega) (ev_pos (by omega) (ev_bind (laws_toTick_eq _) (ev_pos (by omega) (ev_pos (by omega) ?_)))))
    rw [getD_at hx, w64_succ (by omega), Int.toNat_natCast]
    exact h
/- laws_toIntS -/
theorem laws_toIntS_eq (l : List Int) (hl : l.length ≤ 1048576) : g_laws_toIntS l = some l := by
  refine evG_eq ?_
  unfold laws_toIntS_
  refine ev_pos rfl (ev_pos (by omega) (ev_pos (by omega) ?_))
  rw [Int.toNat_natCast]
  refine map_loop 0 l (fun k out i => laws_toIntS_L3 k (i, l, out, ())) (fun out => ?_) (fun i x out r hx hi ho h => ?_)
  · refine Ev.step (fun q => by rw [laws_toIntS_L3]) ?_
    exact ev_neg (by omega) ev_some
  · refine Ev.step (fun q => by rw [laws_toIntS_L3]) ?_
    refine ev_pos (by omega) (ev_pos (by omega) (ev_pos (by omega) (ev_pos (by omega) (ev_pos (by omega) ?_))))
    rw [getD_at hx, w64_succ (by omega), Int.toNat_natCast]
    exact h
/- laws_toGuard -/
theorem laws_toGuard_eq (l : List Int) (a : Int) (hl : l.length ≤ 1048576) : g_laws_toGuard (l, a) = some (l, a) := by
  unfold g_laws_toGuard laws_toGuard_
  simp only [laws_toIntS_eq l hl, Option.bind_some]
/- laws_toRate -/
theorem laws_toRate_eq (p : Int × Int × Int) : g_laws_toRate p = some p := rfl
/- laws_toPump -/
theorem laws_toPump_eq (p : Pump) : g_laws_toPump p = some p := rfl
/- laws_toDevice -/
theorem laws_toDevice_eq (d : Device) (h : Short d) : g_laws_toDevice d = some d := by
  obtain ⟨s, n, e, r, l, b, g, k, past, alarm, a, bo, nu, de, di, ts, ref⟩ := d
  unfold g_laws_toDevice laws_toDevice_
  simp only [laws_toPump_eq, laws_toGuard_eq past alarm h.1, laws_toMenu_eq, laws_toTickS_eq ts h.2.2, Option.bind_some]
/- impl_SenseOk -/
theorem impl_SenseOk_eq (a : Int) : g_impl_SenseOk a = some (senseOk a) := by
  unfold g_impl_SenseOk impl_SenseOk_
  simp only [impl_within_eq, Option.bind_some]; rfl
/- impl_RoomOf -/
theorem impl_RoomOf_eq (l : List Int) (a : Int) (hl : l.length ≤ 9223372036854775806) : g_impl_RoomOf (l, a) = some (wrap64 (30 - l.sum)) := by
  refine evG_eq ?_
  unfold impl_RoomOf_
  refine Ev.congr (g := fun k => impl_RoomOf_L3 k (wrap64 30, (l.length : Int), ((0 : Nat) : Int), l, ())) (fun k => by rw [w64 (n := 30) (by omega) (by omega)]; rfl) ?_
  refine Ev.cast (list_loop l (fun k s i => impl_RoomOf_L3 k (wrap64 s, (l.length : Int), i, l, ())) (fun r s => wrap64 (s - r.sum)) (fun s => ?_) (fun i s x rest hx hi h => ?_) 0 (by omega) 30) (by simp)
  · refine Ev.step (fun q => by rw [impl_RoomOf_L3]) ?_
    exact ev_neg (by omega) (Ev.cast ev_some (by simp))
  · refine Ev.step (fun q => by rw [impl_RoomOf_L3]) ?_
    refine ev_pos (by omega) (ev_pos (by omega) (ev_pos (by omega) ?_))
    rw [getD_drop hx, w64_succ (by omega), wrap64_sub]
    refine Ev.cast (h (s - x)) ?_
    congr 1
    simp only [List.sum_cons]; omega
/- impl_GuardOk -/
theorem impl_GuardOk_eq (l : List Int) (a : Int) (hl : l.length ≤ 9223372036854775806) : g_impl_GuardOk (l, a) = some (guardOk l a) := by
  refine evG_eq ?_
  unfold impl_GuardOk_
  have hend : Ev (fun k => impl_GuardOk_L2 (fun _ => g_impl_RoomOf) (fun _ => g_impl_SenseOk) (fun _ => g_impl_within) k ((l.length : Int), (l.length : Int), l, a, ())) (if pastOk l = true then guardOk l a else decide (l.length ≤ 9) && decide (0 ≤ wrap64 (30 - l.sum)) && senseOk a) := by
    refine Ev.step (fun q => by rw [impl_GuardOk_L2]) ?_
    refine ev_neg (by omega) ?_
    by_cases h9 : (l.length : Int) ≤ 9
    · refine ev_pos h9 (ev_bind (impl_RoomOf_eq l a hl) ?_)
      simp only [impl_SenseOk_eq, Option.bind_some]
      have h9' : l.length ≤ 9 := by omega
      by_cases hp : pastOk l = true
      · have hs := pastOk_sum hp
        rw [w64 (by omega) (by omega), if_pos hp]
        unfold guardOk
        rw [hp]
        by_cases h30 : l.sum ≤ 30
        · refine ev_pos (by omega) (Ev.cast ev_some ?_)
          simp [h9', h30]
        · refine ev_neg (by omega) (Ev.cast ev_some ?_)
          simp [h30]
      · rw [if_neg hp]
        by_cases h30 : 0 ≤ wrap64 (30 - l.sum)
        · refine ev_pos h30 (Ev.cast ev_some ?_)
          simp [h9', h30]
        · refine ev_neg h30 (Ev.cast ev_some ?_)
          simp [h30]
    · refine ev_neg h9 (Ev.cast ev_some ?_)
      have h9' : ¬ l.length ≤ 9 := by omega
      unfold guardOk
      split <;> simp [h9']
  refine Ev.cast (list_loop l (fun k (_ : Unit) i => impl_GuardOk_L2 (fun _ => g_impl_RoomOf) (fun _ => g_impl_SenseOk) (fun _ => g_impl_within) k ((l.length : Int), i, l, a, ())) (fun r _ => pastOk r && (if pastOk l = true then guardOk l a else decide (l.length ≤ 9) && decide (0 ≤ wrap64 (30 - l.sum)) && senseOk a)) (fun _ => Ev.cast hend (by simp [pastOk])) (fun i _ x rest hx hi h => ?_) 0 (by omega) ()) ?_
  · refine Ev.step (fun q => by rw [impl_GuardOk_L2]) ?_
    refine ev_pos (by omega) (ev_pos (by omega) (ev_pos (by omega) ?_))
    rw [getD_drop hx, impl_within_eq, w64_succ (by omega)]
    simp only [Option.bind_some, decide_eq_true_eq]
    by_cases hx2 : 0 ≤ x ∧ x ≤ 30
    · refine ev_pos hx2 (Ev.cast (h ()) ?_)
      rw [pastOk_cons]; simp [hx2]
    · refine ev_neg hx2 (Ev.cast ev_some ?_)
      rw [pastOk_cons]; simp [hx2]
  · simp only [List.drop_zero]
    cases hp : pastOk l with
    | true => simp
    | false => unfold guardOk; rw [hp]; simp
/- impl_DeviceOk -/
theorem impl_DeviceOk_eq (p : Pump) (past : List Int) (alarm : Int) (m : Menu) (ts : List Tick) (ref : Int) (h1 : past.length ≤ 9223372036854775806) (h2 : m.2.2.2.2.size ≤ 1048580) : g_impl_DeviceOk (dev p past alarm m ts ref) = some (deviceOk p past alarm m ts ref) := by
  obtain ⟨s, n, e, r, l, b, g, k⟩ := p
  obtain ⟨a, bo, nu, de, di⟩ := m
  unfold g_impl_DeviceOk impl_DeviceOk_ dev deviceOk g_impl_isNumber impl_isNumber_
  simp only [impl_PumpOk_eq, impl_GuardOk_eq past alarm h1, impl_MenuOk_eq a bo nu de di h2, impl_within_eq, Option.bind_some]
  cases pumpOk (s, n, e, r, l, b, g, k) with
  | false => simp
  | true =>
    cases guardOk past alarm with
    | false => simp
    | true =>
      cases menuOk (a, bo, nu, de, di) with
      | false => simp
      | true =>
        simp only [if_true, Bool.true_and]
        by_cases h : (ts.length : Int) ≤ 200
        · rw [if_pos h, decide_eq_true (show ts.length ≤ 200 by omega), Bool.true_and]
        · rw [if_neg h, decide_eq_false (show ¬ ts.length ≤ 200 by omega), Bool.false_and]
/- spec_l16Sum -/
theorem spec_l16Sum_eq (l : List Int) (hl : l.length ≤ 9223372036854775806) : g_spec_l16Sum l = some (wrap64 l.sum) := by
  refine evG_eq ?_
  unfold spec_l16Sum_
  refine Ev.congr (g := fun k => spec_l16Sum_L3 k (wrap64 0, ((0 : Nat) : Int), l, ())) (fun k => by rw [w64 (n := 0) (by omega) (by omega)]; rfl) ?_
  refine Ev.cast (list_loop l (fun k s i => spec_l16Sum_L3 k (wrap64 s, i, l, ())) (fun r s => wrap64 (s + r.sum)) (fun s => ?_) (fun i s x rest hx hi h => ?_) 0 (by omega) 0) (by simp)
  · refine Ev.step (fun q => by rw [spec_l16Sum_L3]) ?_
    exact ev_neg (by omega) (Ev.cast ev_some (by simp))
  · refine Ev.step (fun q => by rw [spec_l16Sum_L3]) ?_
    refine ev_pos (by omega) (ev_pos (by omega) (ev_pos (by omega) ?_))
    rw [getD_drop hx, w64_succ (by omega), wrap64_add]
    refine Ev.cast (h (s + x)) ?_
    simp [Int.add_assoc]
/- spec_SenseOk -/
theorem spec_SenseOk_eq (a : Int) : g_spec_SenseOk a = some (senseOk a) := by
  unfold g_spec_SenseOk spec_SenseOk_
  simp only [spec_l01In_eq, Option.bind_some]; rfl
/- spec_GuardOk -/
theorem spec_GuardOk_eq (l : List Int) (a : Int) (hl : l.length ≤ 9223372036854775806) : g_spec_GuardOk (l, a) = some (guardOk l a) := by
  refine evG_eq ?_
  have hloop : l.length ≤ 9 → Ev (fun k => spec_GuardOk_L4 (fun _ => g_spec_SenseOk) (fun _ => g_spec_l01In) (fun _ => g_spec_l16Sum) k (0, l, a, ())) (pastOk l && decide (l.sum ≤ 30)) := by
    intro h9
    have hend : Ev (fun k => spec_GuardOk_L4 (fun _ => g_spec_SenseOk) (fun _ => g_spec_l01In) (fun _ => g_spec_l16Sum) k ((l.length : Int), l, a, ())) (decide (wrap64 l.sum ≤ 30)) := by
      refine Ev.step (fun q => by rw [spec_GuardOk_L4]) ?_
      exact ev_neg (by omega) (ev_bind (spec_l16Sum_eq l hl) ev_some)
    refine Ev.cast (list_loop l (fun k (_ : Unit) i => spec_GuardOk_L4 (fun _ => g_spec_SenseOk) (fun _ => g_spec_l01In) (fun _ => g_spec_l16Sum) k (i, l, a, ())) (fun r _ => pastOk r && decide (wrap64 l.sum ≤ 30)) (fun _ => Ev.cast hend (by simp [pastOk])) (fun i _ x rest hx hi h => ?_) 0 (by omega) ()) ?_
    · refine Ev.step (fun q => by rw [spec_GuardOk_L4]) ?_
      refine ev_pos (by omega) (ev_pos (by omega) (ev_pos (by omega) ?_))
      rw [getD_drop hx, spec_l01In_eq, w64_succ (by omega)]
      simp only [Option.bind_some, decide_eq_true_eq]
      by_cases hx2 : 0 ≤ x ∧ x ≤ 30
      · refine ev_pos hx2 (Ev.cast (h ()) ?_)
        rw [pastOk_cons]; simp [hx2]
      · refine ev_neg hx2 (Ev.cast ev_some ?_)
        rw [pastOk_cons]; simp [hx2]
    · simp only [List.drop_zero]
      cases hp : pastOk l with
      | true =>
        have hs := pastOk_sum hp
        rw [w64 (by omega) (by omega)]
      | false => rfl
  unfold spec_GuardOk_
  by_cases h9 : 9 < (l.length : Int)
  · refine ev_pos h9 (Ev.cast ev_some ?_)
    have h9' : ¬ l.length ≤ 9 := by omega
    simp [guardOk, h9']
  · refine ev_neg h9 (ev_bind (spec_SenseOk_eq a) ?_)
    have h9' : l.length ≤ 9 := by omega
    cases hs : senseOk a with
    | false => exact ev_neg Bool.false_ne_true (Ev.cast ev_some (by simp [guardOk, hs]))
    | true =>
      refine ev_pos rfl (Ev.cast (hloop h9') ?_)
      simp [guardOk, hs, h9']
/- spec_DeviceOk -/
theorem spec_DeviceOk_eq (p : Pump) (past : List Int) (alarm : Int) (m : Menu) (ts : List Tick) (ref : Int) (h1 : past.length ≤ 9223372036854775806) (h2 : m.2.2.2.2.size ≤ 1048580) : g_spec_DeviceOk (dev p past alarm m ts ref) = some (deviceOk p past alarm m ts ref) := by
  obtain ⟨s, n, e, r, l, b, g, k⟩ := p
  obtain ⟨a, bo, nu, de, di⟩ := m
  unfold g_spec_DeviceOk spec_DeviceOk_ dev deviceOk
  simp only [spec_PumpOk_eq, spec_GuardOk_eq past alarm h1, spec_MenuOk_eq a bo nu de di h2, spec_l01In_eq, Option.bind_some]
  cases pumpOk (s, n, e, r, l, b, g, k) with
  | false => simp
  | true =>
    cases guardOk past alarm with
    | false => simp
    | true =>
      cases menuOk (a, bo, nu, de, di) with
      | false => simp
      | true =>
        simp only [if_true, Bool.true_and]
        by_cases h : (ts.length : Int) ≤ 200
        · rw [if_pos h, decide_eq_true (show ts.length ≤ 200 by omega), Bool.true_and]
        · rw [if_neg h, decide_eq_false (show ¬ ts.length ≤ 200 by omega), Bool.false_and]
/- laws_szTickS -/
theorem laws_szTickS_eq (l : List Tick) (hl : l.length ≤ maxLen) (a : Int) (ha : 0 ≤ a ∧ a ≤ 1048576) : g_laws_szTickS (l, a) = some (if (l.length : Int) ≤ a then a - (l.length : Int) else -1) := by
  rw [maxLen_eq] at hl
  unfold g_laws_szTickS laws_szTickS_
  simp only []
  rw [w64 (by omega) (by omega)]
  by_cases h : (l.length : Int) ≤ a
  · rw [if_neg (by omega), if_pos h]
  · rw [if_pos (by omega), if_neg h]
/- laws_szIntS -/
theorem laws_szIntS_eq (l : List Int) (hl : l.length ≤ maxLen) (a : Int) (ha : 0 ≤ a ∧ a ≤ 1048576) : g_laws_szIntS (l, a) = some (if (l.length : Int) ≤ a then a - (l.length : Int) else -1) := by
  rw [maxLen_eq] at hl
  unfold g_laws_szIntS laws_szIntS_
  simp only []
  rw [w64 (by omega) (by omega)]
  by_cases h : (l.length : Int) ≤ a
  · rw [if_neg (by omega), if_pos h]
  · rw [if_pos (by omega), if_neg h]
/- laws_szGuard -/
theorem laws_szGuard_eq (l : List Int) (b : Int) (hl : l.length ≤ maxLen) (a : Int) (ha : 0 ≤ a ∧ a ≤ 1048576) : g_laws_szGuard ((l, b), a) = some (if (l.length : Int) ≤ a then a - (l.length : Int) else -1) := by
  unfold g_laws_szGuard laws_szGuard_
  simp only [laws_szIntS_eq l hl a ha, Option.bind_some]
  by_cases h : (l.length : Int) ≤ a
  · rw [if_pos h, if_neg (by omega)]
  · rw [if_neg h, if_pos (by omega)]
/- laws_szDevice -/
theorem laws_szDevice_eq (d : Device) (h1 : d.2.2.2.2.2.2.2.2.1.length ≤ maxLen) (h2 : d.2.2.2.2.2.2.2.2.2.2.2.2.2.2.1.size ≤ maxLen) (h3 : d.2.2.2.2.2.2.2.2.2.2.2.2.2.2.2.1.length ≤ maxLen) :
    ∃ q, g_laws_szDevice (d, 1048576) = some q ∧ (q < 0 ∨ (Short d ∧ 0 ≤ q ∧ q ≤ 1048576)) := by
  obtain ⟨s, n, e, r, l, b, g, k, past, alarm, a, bo, nu, de, di, ts, ref⟩ := d
  unfold g_laws_szDevice laws_szDevice_
  simp only [laws_szGuard_eq past alarm h1 1048576 (by omega), Option.bind_some]
  simp only [] at h1 h2 h3
  by_cases c1 : (past.length : Int) ≤ 1048576
  · rw [if_pos c1, if_neg (by omega)]
    simp only [laws_szMenu_eq (a, bo, nu, de, di) (1048576 - (past.length : Int)) h2 (by omega), Option.bind_some]
    by_cases c2 : (di.size : Int) ≤ 1048576 - (past.length : Int)
    · rw [if_pos c2, if_neg (by omega)]
      simp only [laws_szTickS_eq ts h3 (1048576 - (past.length : Int) - (di.size : Int)) (by omega), Option.bind_some]
      by_cases c3 : (ts.length : Int) ≤ 1048576 - (past.length : Int) - (di.size : Int)
      · rw [if_pos c3, if_neg (by omega)]
        exact ⟨_, rfl, .inr ⟨⟨by show past.length ≤ _; omega, by show di.size ≤ _; omega, by show ts.length ≤ _; omega⟩, by omega, by omega⟩⟩
      · rw [if_neg c3, if_pos (by omega)]
        exact ⟨_, rfl, .inl (by omega)⟩
    · rw [if_neg c2, if_pos (by omega)]
      exact ⟨_, rfl, .inl (by omega)⟩
  · rw [if_neg c1, if_pos (by omega)]
    exact ⟨_, rfl, .inl (by omega)⟩
/- impl_AddSat -/
theorem impl_AddSat_eq (a b : Int) : g_impl_AddSat (a, b) = some (addSat a b) := by
  have e : ∀ n, g_impl_bounded n = some (bnd n) := fun n => by
    unfold g_impl_bounded impl_bounded_ bnd
    simp only [mn_eq, mx_eq]
  unfold g_impl_AddSat impl_AddSat_ addSat
  simp only [e, Option.bind_some, w64_bnd]
/- impl_TotalOf -/
theorem impl_TotalOf_eq (l : List Tick) (hl : l.length ≤ 1048580) : g_impl_TotalOf l = some (totalF l 0) := by
  refine evG_eq ?_
  refine list_loop l (fun k s i => impl_TotalOf_L3 (fun _ => g_impl_AddSat) k (s, (l.length : Int), i, l, ())) totalF (fun s => ?_) (fun i s x rest hx hi h => ?_) 0 (by omega) 0
  · refine Ev.step (fun q => by rw [impl_TotalOf_L3]) ?_
    exact ev_neg (by omega) ev_some
  · refine Ev.step (fun q => by rw [impl_TotalOf_L3]) ?_
    refine ev_pos (by omega) (ev_pos (by omega) (ev_pos (by omega) ?_))
    rw [getD_drop hx, w64_succ (by omega)]
    exact ev_bind (impl_AddSat_eq _ _) (h _)
/- impl_StopsOnAlarm -/
theorem impl_StopsOnAlarm_eq (l : List Tick) (hl : l.length ≤ 1048580) : g_impl_StopsOnAlarm l = some (stops l) := by
  refine evG_eq ?_
  refine list_loop l (fun k (_ : Unit) i => impl_StopsOnAlarm_L2 k ((l.length : Int), i, l, ())) (fun r _ => stops r) (fun s => ?_) (fun i s x rest hx hi h => ?_) 0 (by omega) ()
  · refine Ev.step (fun q => by rw [impl_StopsOnAlarm_L2]) ?_
    exact ev_neg (by omega) ev_some
  · refine Ev.step (fun q => by rw [impl_StopsOnAlarm_L2]) ?_
    refine ev_pos (by omega) (ev_pos (by omega) (ev_pos (by omega) ?_))
    rw [getD_drop hx, w64_succ (by omega), stops_cons]
    refine ev_dom (fun h1 => ?_) (fun h1 => ev_dom (fun h2 => ?_) (fun h2 => ?_))
    · rw [decide_eq_true (Or.inl h1), Bool.true_and]; exact h ()
    · rw [decide_eq_true (Or.inr h2), Bool.true_and]; exact h ()
    · rw [decide_eq_false (fun q => q.elim h1 h2), Bool.false_and]; exact ev_some
/- impl_WithinLimits -/
theorem impl_WithinLimits_eq (l : List Tick) (hl : l.length ≤ 1048580) : g_impl_WithinLimits l = some (limF l) := by
  refine evG_eq ?_
  have inner : ∀ (i : Nat) (r : Bool), i < l.length → Ev (fun k => impl_WithinLimits_L2 (fun _ => g_impl_AddSat) k ((l.length : Int), (i : Int) + 1, l, ())) r → ∀ (w : List Tick), w.length ≤ 1048580 → ∀ s : Int, Ev (fun k => impl_WithinLimits_L6 (fun _ => g_impl_AddSat) k (s, (l.length : Int), (i : Int), (w.length : Int), 0, l, w, ())) (winF w s && r) := by
    intro i r hi hr w hw s
    refine list_loop w (fun k s j => impl_WithinLimits_L6 (fun _ => g_impl_AddSat) k (s, (l.length : Int), (i : Int), (w.length : Int), j, l, w, ())) (fun q s => winF q s && r) (fun s => ?_) (fun j s x rest hx hj h => ?_) 0 (by omega) s
    · refine Ev.step (fun q => by rw [impl_WithinLimits_L6]) ?_
      rw [w64_succ (i := i) (by omega)]
      refine ev_neg (by omega) (Ev.cast hr ?_)
      simp [winF]
    · refine Ev.step (fun q => by rw [impl_WithinLimits_L6]) ?_
      refine ev_pos (by omega) (ev_pos (by omega) (ev_pos (by omega) ?_))
      rw [getD_drop hx, w64_succ (i := j) (by omega)]
      refine ev_bind (impl_AddSat_eq _ _) ?_
      unfold winF
      refine ev_dom (fun h1 => ?_) (fun h1 => ?_)
      · rw [if_pos h1, Bool.false_and]; exact ev_some
      · rw [if_neg h1]; exact h _
  refine list_loop l (fun k (_ : Unit) i => impl_WithinLimits_L2 (fun _ => g_impl_AddSat) k ((l.length : Int), i, l, ())) (fun r _ => limF r) (fun s => ?_) (fun i s x rest hx hi h => ?_) 0 (by omega) ()
  · refine Ev.step (fun q => by rw [impl_WithinLimits_L2]) ?_
    exact ev_neg (by omega) ev_some
  · refine Ev.step (fun q => by rw [impl_WithinLimits_L2]) ?_
    have e1 : wrap64 ((i : Int) + 10) = (i : Int) + 10 := w64 (by omega) (by omega)
    rw [e1, mn_eq]
    have e2 : (min ((i : Int) + 10) (l.length : Int)).toNat = min (i + 10) l.length := by omega
    rw [e2, Int.toNat_natCast]
    refine ev_pos (by omega) (ev_pos (by omega) (ev_pos (by omega) (ev_pos (by omega) (ev_pos (by omega) ?_))))
    have e3 : (l.take (min (i + 10) l.length)).drop i = (x :: rest).take 10 := by
      rw [List.drop_take, hx]
      have : (x :: rest).length = l.length - i := by rw [← hx, List.length_drop]
      by_cases hc : i + 10 ≤ l.length
      · rw [Nat.min_eq_left hc, Nat.add_sub_cancel_left]
      · rw [Nat.min_eq_right (by omega), List.take_of_length_le (by omega), List.take_of_length_le (by omega)]
    rw [e3]
    unfold limF
    exact inner i (limF rest) hi (h ()) ((x :: rest).take 10) (by rw [List.length_take]; omega) 0
/- impl_SoundDevice -/
theorem impl_SoundDevice_eq (p : Pump) (past : List Int) (alarm : Int) (m : Menu) (ts : List Tick) (ref : Int) (h1 : past.length ≤ 9223372036854775806) (h2 : m.2.2.2.2.size ≤ 1048580) (h3 : ts.length ≤ 1048580) : g_impl_SoundDevice (dev p past alarm m ts ref) = some (sound p past alarm m ts ref) := by
  have e1 := impl_DeviceOk_eq p past alarm m ts ref h1 h2
  have e2 := impl_WithinLimits_eq ts h3
  have e3 := impl_StopsOnAlarm_eq ts h3
  have e4 := impl_TotalOf_eq ts h3
  show (g_impl_DeviceOk (dev p past alarm m ts ref)).bind (fun v0 => if v0 = true then (g_impl_WithinLimits ts).bind fun v1 => if v1 = true then (g_impl_StopsOnAlarm ts).bind fun v2 => if v2 = true then (g_impl_TotalOf ts).bind fun v3 => some (decide (p.2.2.2.2.2.2.1 = v3)) else some false else some false else some false) = _
  simp only [e1, e2, e3, e4, Option.bind_some]
  unfold sound
  cases deviceOk p past alarm m ts ref <;> cases limF ts <;> cases stops ts <;> simp
/- spec_AddSat -/
theorem spec_AddSat_eq (a b : Int) : g_spec_AddSat (a, b) = some (addSat a b) := by
  have e : ∀ n, g_spec_l03Into n = some (bnd n) := fun n => by
    show (if 1000000000000 < n then some 1000000000000 else if n < -1000000000000 then some (-1000000000000) else some n) = _
    unfold bnd
    repeat' split
    all_goals (congr 1; omega)
  unfold g_spec_AddSat spec_AddSat_ addSat
  simp only [e, Option.bind_some, w64_bnd]
/- spec_TotalOf -/
theorem spec_TotalOf_eq (l : List Tick) (hl : l.length ≤ 1048580) : g_spec_TotalOf l = some (totalF l 0) := by
  refine evG_eq ?_
  refine list_loop l (fun k s i => spec_TotalOf_L3 (fun _ => g_spec_AddSat) k (s, i, l, ())) totalF (fun s => ?_) (fun i s x rest hx hi h => ?_) 0 (by omega) 0
  · refine Ev.step (fun q => by rw [spec_TotalOf_L3]) ?_
    exact ev_neg (by omega) ev_some
  · refine Ev.step (fun q => by rw [spec_TotalOf_L3]) ?_
    refine ev_pos (by omega) (ev_pos (by omega) (ev_pos (by omega) ?_))
    rw [getD_drop hx, w64_succ (by omega)]
    exact ev_bind (spec_AddSat_eq _ _) (h _)
/- spec_StopsOnAlarm -/
theorem spec_StopsOnAlarm_eq (l : List Tick) (hl : l.length ≤ 1048580) : g_spec_StopsOnAlarm l = some (stops l) := by
  refine evG_eq ?_
  refine list_loop l (fun k (_ : Unit) i => spec_StopsOnAlarm_L2 k (i, l, ())) (fun r _ => stops r) (fun s => ?_) (fun i s x rest hx hi h => ?_) 0 (by omega) ()
  · refine Ev.step (fun q => by rw [spec_StopsOnAlarm_L2]) ?_
    exact ev_neg (by omega) ev_some
  · refine Ev.step (fun q => by rw [spec_StopsOnAlarm_L2]) ?_
    refine ev_pos (by omega) (ev_pos (by omega) (ev_pos (by omega) ?_))
    rw [getD_drop hx, w64_succ (by omega), stops_cons]
    refine ev_dom (fun h1 => ?_) (fun h1 => ev_pos (by omega) (ev_pos (by omega) (ev_dom (fun h2 => ?_) (fun h2 => ?_))))
    · rw [decide_eq_true (Or.inl h1), Bool.true_and]; exact h ()
    · rw [decide_eq_true (Or.inr h2), Bool.true_and]; exact h ()
    · rw [decide_eq_false (fun q => q.elim h1 h2), Bool.false_and]; exact ev_some
/- spec_WithinLimits -/
theorem spec_WithinLimits_eq (l : List Tick) (hl : l.length ≤ 1048580) : g_spec_WithinLimits l = some (limF l) := by
  refine evG_eq ?_
  have inner : ∀ (i : Nat) (r : Bool), i < l.length → Ev (fun k => spec_WithinLimits_L2 (fun _ => g_spec_AddSat) k ((i : Int) + 1, l, ())) r → ∀ (d j : Nat), j + d = 10 → ∀ s : Int, Ev (fun k => spec_WithinLimits_L6 (fun _ => g_spec_AddSat) k ((i : Int), s, ((i + j : Nat) : Int), l, ())) (winF ((l.drop (i + j)).take d) s && r) := by
    intro i r hi hr d
    have e1 : wrap64 ((i : Int) + 10) = (i : Int) + 10 := w64 (by omega) (by omega)
    induction d with
    | zero =>
      intro j hj s
      refine Ev.step (fun q => by rw [spec_WithinLimits_L6]) ?_
      rw [w64_succ (i := i) (by omega), e1]
      rw [List.take_zero]
      refine ev_dom (fun h1 => ev_neg (by omega) (Ev.cast hr ?_)) (fun h1 => Ev.cast hr ?_)
      all_goals simp [winF]
    | succ d ih =>
      intro j hj s
      refine Ev.step (fun q => by rw [spec_WithinLimits_L6]) ?_
      rw [w64_succ (i := i) (by omega), e1]
      by_cases hlt : i + j < l.length
      · have hc : l.drop (i + j) = l[i + j] :: l.drop (i + j + 1) := List.drop_eq_getElem_cons hlt
        refine ev_pos (by omega) (ev_pos (by omega) (ev_pos (by omega) (ev_pos (by omega) ?_)))
        rw [getD_drop hc, w64_succ (i := i + j) (by omega), hc, List.take_succ_cons]
        refine ev_bind (spec_AddSat_eq _ _) ?_
        unfold winF
        refine ev_dom (fun h1 => ?_) (fun h1 => ?_)
        · rw [if_pos h1, Bool.false_and]; exact ev_some
        · rw [if_neg h1]; exact ih (j + 1) (by omega) _
      · refine ev_neg (by omega) (Ev.cast hr ?_)
        rw [List.drop_of_length_le (by omega)]
        simp [winF]
  refine list_loop l (fun k (_ : Unit) i => spec_WithinLimits_L2 (fun _ => g_spec_AddSat) k (i, l, ())) (fun r _ => limF r) (fun s => ?_) (fun i s x rest hx hi h => ?_) 0 (by omega) ()
  · refine Ev.step (fun q => by rw [spec_WithinLimits_L2]) ?_
    exact ev_neg (by omega) ev_some
  · refine Ev.step (fun q => by rw [spec_WithinLimits_L2]) ?_
    refine ev_pos (by omega) ?_
    unfold limF
    have := inner i (limF rest) hi (h ()) 10 0 rfl 0
    rw [Nat.add_zero, hx] at this
    exact this
/- spec_SoundDevice -/
theorem spec_SoundDevice_eq (p : Pump) (past : List Int) (alarm : Int) (m : Menu) (ts : List Tick) (ref : Int) (h1 : past.length ≤ 9223372036854775806) (h2 : m.2.2.2.2.size ≤ 1048580) (h3 : ts.length ≤ 1048580) : g_spec_SoundDevice (dev p past alarm m ts ref) = some (sound p past alarm m ts ref) := by
  have e1 := spec_DeviceOk_eq p past alarm m ts ref h1 h2
  have e2 := spec_WithinLimits_eq ts h3
  have e3 := spec_StopsOnAlarm_eq ts h3
  have e4 := spec_TotalOf_eq ts h3
  show (g_spec_DeviceOk (dev p past alarm m ts ref)).bind (fun v0 => if v0 = true then (g_spec_WithinLimits ts).bind fun v1 => if v1 = true then (g_spec_StopsOnAlarm ts).bind fun v2 => if v2 = true then (g_spec_TotalOf ts).bind fun v3 => some (decide (p.2.2.2.2.2.2.1 = v3)) else some false else some false else some false) = _
  simp only [e1, e2, e3, e4, Option.bind_some]
  unfold sound
  cases deviceOk p past alarm m ts ref <;> cases limF ts <;> cases stops ts <;> simp
/- laws_FnExactSoundDevice -/
-- @hx
theorem t_FnExactSoundDevice (x : Device) (hx : AKs.good [.agg [.int .i64, .int .i64, .int .i64, .int .i64, .int .i64, .int .i64, .int .i64, .int .i64, .sl (.int .i64), .int .i64, .int .i64, .bool, .int .i64, .int .i64, .str, .sl (.pair (.int .i64) (.pair (.int .i64) (.int .i64))), .int .i64]] x) : g_laws_FnExactSoundDevice x = some true := by
  have q1 : x.2.2.2.2.2.2.2.2.1.length ≤ maxLen := hx.2.2.2.2.2.2.2.2.1.1
  have q2 : x.2.2.2.2.2.2.2.2.2.2.2.2.2.2.1.size ≤ maxLen := hx.2.2.2.2.2.2.2.2.2.2.2.2.2.2.1
  have q3 : x.2.2.2.2.2.2.2.2.2.2.2.2.2.2.2.1.length ≤ maxLen := hx.2.2.2.2.2.2.2.2.2.2.2.2.2.2.2.1.1
  obtain ⟨q, hq, h⟩ := laws_szDevice_eq x q1 q2 q3
  obtain ⟨p, past, alarm, m, ts, ref, rfl⟩ := dev_eta x
  unfold g_laws_FnExactSoundDevice laws_FnExactSoundDevice_
  show ((g_laws_szDevice (dev p past alarm m ts ref, 1048576)).bind fun v0 => if v0 < 0 then some true else
   (g_laws_toDevice (dev p past alarm m ts ref)).bind fun v1 => (g_spec_SoundDevice v1).bind fun v2 => (g_laws_toDevice (dev p past alarm m ts ref)).bind fun v3 => (g_impl_SoundDevice v3).bind fun v4 =>
   if (v4 == v2) = true then (g_laws_toDevice (dev p past alarm m ts ref)).bind fun v5 => (g_laws_eqDevice (v3, v5)).bind fun v6 => if v6 = true then some true else some false else some false) = some true
  rw [hq, Option.bind_some]
  rcases h with h | ⟨hs, h0, _⟩
  · rw [if_pos h]
  · rw [if_neg (by omega)]
    obtain ⟨s1, s2, s3⟩ := hs
    have e1 := laws_toDevice_eq (dev p past alarm m ts ref) ⟨s1, s2, s3⟩
    have b1 : past.length ≤ 1048576 := s1
    have b2 : m.2.2.2.2.size ≤ 1048576 := s2
    have b3 : ts.length ≤ 1048576 := s3
    have e2 := spec_SoundDevice_eq p past alarm m ts ref (by omega) (by omega) (by omega)
    have e3 := impl_SoundDevice_eq p past alarm m ts ref (by omega) (by omega) (by omega)
    have e4 := laws_eqDevice_refl (dev p past alarm m ts ref) (by show past.length ≤ _; omega) (by show ts.length ≤ _; omega)
    simp only [e1, e2, e3, e4, Option.bind_some, beq_self_eq_true, if_true]
end Go.Sx.T
