/- Functions of the program as functions of Lean, and that the program keeps to them. -/
import Derived.Test.YthimkepabblloaaFnMenusA0
set_option maxRecDepth 100000
set_option linter.unusedVariables false
set_option linter.unusedSimpArgs false
namespace Go.Proofs
end Go.Proofs
namespace Go.Sx.T
open Go Go.Sx Go.Proofs Go.RowKit
/- impl_MenuNew -/
theorem impl_MenuNew_eq : g_impl_MenuNew () = some menuNew := rfl
/- spec_MenuNew -/
theorem spec_MenuNew_eq : g_spec_MenuNew () = some menuNew := rfl
/- impl_within -/
theorem impl_within_eq (a b c : Int) : g_impl_within (a, b, c) = some (decide (b ≤ a ∧ a ≤ c)) := by
  show (if b ≤ a then some (decide (a ≤ c)) else some false) = _
  split
  · rename_i h; refine eq_dec ?_; rw [decide_eq_true_iff]; omega
  · rename_i h; exact dec_no (by omega)
/- impl_OrderOk -/
theorem impl_OrderOk_eq (o : Order) : g_impl_OrderOk o = some (orderOk o) := by
  obtain ⟨a, b, c, x⟩ := o
  show _ = some (decide (OrderOkP a b c x))
  unfold g_impl_OrderOk impl_OrderOk_
  simp only [impl_within_eq, Option.bind_some, decide_eq_true_eq, mn_eq]
  by_cases h : 1 ≤ c ∧ c ≤ 1000
  · have hw : wrap64 (3 * c) = 3 * c := w64 (by omega) (by omega)
    rw [hw]
    repeat' refine ite_r (fun _ => ?_) (fun _ => ?_)
    all_goals first
      | exact dec_no (by unfold OrderOkP; omega)
      | exact dec_yes (by unfold OrderOkP; omega)
      | (exfalso; omega)
      | (exfalso; simp_all; done)
      | (refine eq_dec ?_; simp only [Bool.and_eq_true, decide_eq_true_eq, decide_true, true_and]; unfold OrderOkP; omega)
  · simp only [h, if_false]
    repeat' refine ite_r (fun _ => ?_) (fun _ => ?_)
    all_goals first
      | exact dec_no (by unfold OrderOkP; omega)
      | exact dec_yes (by unfold OrderOkP; omega)
      | (exfalso; omega)
      | (exfalso; simp_all; done)
      | (refine eq_dec ?_; simp only [Bool.and_eq_true, decide_eq_true_eq, decide_true, true_and]; unfold OrderOkP; omega)
/- spec_l01In -/
theorem spec_l01In_eq (a b c : Int) : g_spec_l01In (a, b, c) = some (decide (b ≤ a ∧ a ≤ c)) := by
  show (if b ≤ a then some (decide (a ≤ c)) else some false) = _
  split
  · rename_i h; refine eq_dec ?_; rw [decide_eq_true_iff]; omega
  · rename_i h; exact dec_no (by omega)
/- spec_OrderOk -/
theorem spec_OrderOk_eq (o : Order) : g_spec_OrderOk o = some (orderOk o) := by
  obtain ⟨a, b, c, x⟩ := o
  show _ = some (decide (OrderOkP a b c x))
  unfold g_spec_OrderOk spec_OrderOk_
  simp only [spec_l01In_eq, Option.bind_some, decide_eq_true_eq, mn_eq]
  by_cases h : 1 ≤ c ∧ c ≤ 1000
  · have hw : wrap64 (3 * c) = 3 * c := w64 (by omega) (by omega)
    rw [hw]
    repeat' refine ite_r (fun _ => ?_) (fun _ => ?_)
    all_goals first
      | exact dec_no (by unfold OrderOkP; omega)
      | exact dec_yes (by unfold OrderOkP; omega)
      | (exfalso; omega)
      | (exfalso; simp_all; done)
      | (refine eq_dec ?_; simp only [Bool.and_eq_true, decide_eq_true_eq, decide_true, true_and]; unfold OrderOkP; omega)
  · simp only [h, if_false]
    repeat' refine ite_r (fun _ => ?_) (fun _ => ?_)
    all_goals first
      | exact dec_no (by unfold OrderOkP; omega)
      | exact dec_yes (by unfold OrderOkP; omega)
      | (exfalso; omega)
      | (exfalso; simp_all; done)
      | (refine eq_dec ?_; simp only [Bool.and_eq_true, decide_eq_true_eq, decide_true, true_and]; unfold OrderOkP; omega)
/- impl_typed -/
theorem impl_typed_eq (s : ByteArray) (hs : s.size ≤ 1048580) : g_impl_typed s = some (num s) := by
  refine evG_eq ?_
  unfold impl_typed_ num
  refine bytes_loop s (fun k z i => impl_typed_L3 k (s, z, (s.size : Int), i, ())) numF (fun z => ?_) (fun i z x rest hx hi h => ?_) 0
  · refine Ev.step (fun q => by rw [impl_typed_L3]) ?_
    exact ev_neg (by omega) ev_some
  · refine Ev.step (fun q => by rw [impl_typed_L3]) ?_
    refine ev_pos (by omega) (ev_pos (by omega) (ev_pos (by omega) ?_))
    have e : wrap64 (wr .u8 ((x.toNat : Int) - 48)) = ((x.toNat : Int) - 48) % 256 := by rw [wr8]; exact w64 (by omega) (by omega)
    rw [byt_drop hx, w64_succ (by omega), e]
    exact h _
/- impl_Menu__enter -/
theorem impl_Menu__enter_eq (a : Int) (b : Bool) (n d : Int) (s : ByteArray) (hs : s.size ≤ 1048580) : g_impl_Menu__enter (a, b, n, d, s) = some (if a = 2 then ((3, b, num s, d, ⟨#[]⟩), (0, 0, 0, 0), false)
        else if a = 3 then ((4, b, n, num s, ⟨#[]⟩), (0, 0, 0, 0), false)
        else if b = true then sent 2 0 0 (num s)
        else sent 1 n d (num s)) := by
  unfold g_impl_Menu__enter impl_Menu__enter_ sent
  simp only [impl_typed_eq s hs, impl_OrderOk_eq, impl_MenuNew_eq, Option.bind_some]
  repeat' split
  all_goals rfl
/- impl_MenuOk -/
theorem impl_MenuOk_eq (a : Int) (b : Bool) (n d : Int) (s : ByteArray) (hs : s.size ≤ 1048580) : g_impl_MenuOk (a, b, n, d, s) = some (menuOk (a, b, n, d, s)) := by
  refine evG_eq ?_
  unfold impl_MenuOk_
  refine Ev.cast (bytes_loop s (fun k (_ : Unit) i => impl_MenuOk_L2 (fun _ => g_impl_MenuNew) (fun _ => g_impl_within) k ((s.size : Int), i, a, b, n, d, s, ())) (fun r _ => digitsOk r && (if a = 1 then decide (s.size = 0 ∧ b = false ∧ n = 0 ∧ d = 0) else decide ((2 ≤ a ∧ a ≤ 4) ∧ (0 ≤ n ∧ n ≤ 9999) ∧ (0 ≤ d ∧ d ≤ 9999) ∧ s.size ≤ 4))) (fun _ => ?_) (fun i _ x rest hx hi h => ?_) ()) ?_
  · refine Ev.step (fun q => by rw [impl_MenuOk_L2]) ?_
    refine ev_neg (by omega) ?_
    by_cases h1 : a = 1
    · refine ev_pos h1 (ev_bind impl_MenuNew_eq (Ev.cast ev_some ?_))
      rw [if_pos h1]
      show (decide (a = 1) && ((b == false) && (decide (n = 0) && (decide (d = 0) && decide (s = ⟨#[]⟩))))) = (digitsOk [] && decide (s.size = 0 ∧ b = false ∧ n = 0 ∧ d = 0))
      rw [Bool.eq_iff_iff]
      simp only [Bool.and_eq_true, decide_eq_true_iff, beq_iff_eq, eq_empty]
      constructor
      · rintro ⟨_, h2, h3, h4, h5⟩; exact ⟨rfl, h5, h2, h3, h4⟩
      · rintro ⟨_, h5, h2, h3, h4⟩; exact ⟨h1, h2, h3, h4, h5⟩
    · refine ev_neg h1 ?_
      simp only [impl_within_eq, Option.bind_some, decide_eq_true_eq, if_neg h1]
      refine ev_eq ?_
      show _ = some (digitsOk [] && _)
      rw [show digitsOk [] = true from rfl, Bool.true_and]
      repeat' refine ite_r (fun _ => ?_) (fun _ => ?_)
      all_goals first
        | exact dec_no (by omega)
        | (refine eq_dec ?_; rw [decide_eq_true_iff]; omega)
  · refine Ev.step (fun q => by rw [impl_MenuOk_L2]) ?_
    refine ev_pos (by omega) (ev_pos (by omega) (ev_pos (by omega) ?_))
    have := u8_range x
    rw [byt_drop hx, w64_succ (by omega), w64 (by omega) (by omega)]
    refine ev_bind (impl_within_eq _ _ _) ?_
    by_cases h1 : 48 ≤ (x.toNat : Int) ∧ (x.toNat : Int) ≤ 57
    · refine ev_pos (decide_eq_true h1) (Ev.cast (h ()) ?_)
      rw [digitsOk_cons, decide_eq_true h1, Bool.true_and]
    · refine ev_neg (by simpa using h1) (Ev.cast ev_some ?_)
      rw [digitsOk_cons, decide_eq_false h1]; rfl
  · show _ = decide (MenuOkP a b n d s)
    rw [Bool.eq_iff_iff]
    refine Iff.trans ?_ decide_eq_true_iff.symm
    rw [Bool.and_eq_true]
    unfold MenuOkP
    by_cases h1 : a = 1
    · rw [if_pos h1, decide_eq_true_iff]
      constructor
      · rintro ⟨h2, h3, h4, h5, h6⟩; exact ⟨h2, by omega, by omega, by omega, by omega, fun _ => ⟨h3, h4, h5, h6⟩⟩
      · rintro ⟨h2, _, _, _, _, h3⟩; exact ⟨h2, h3 h1⟩
    · rw [if_neg h1, decide_eq_true_iff]
      constructor
      · rintro ⟨h2, h3, h4, h5, h6⟩; exact ⟨h2, by omega, h4, h5, h6, fun q => absurd q h1⟩
      · rintro ⟨h2, h3, h4, h5, h6, _⟩; exact ⟨h2, by omega, h4, h5, h6⟩
/- impl_Press -/
theorem impl_Press_eq (a : Int) (b : Bool) (n d : Int) (s : ByteArray) (c : Int) (hs : s.size ≤ 1048580) : g_impl_Press ((a, b, n, d, s), c) = some (press (a, b, n, d, s) c) := by
  unfold g_impl_Press impl_Press_ press
  simp only [impl_MenuOk_eq a b n d s hs, impl_Menu__enter_eq a b n d s hs, impl_MenuNew_eq, impl_within_eq, Option.bind_some, decide_eq_true_eq, wr8, size_bstr]
  refine ite_r (fun h => ?_) (fun h => ?_)
  · rw [if_pos h]
    refine ite_r (fun h1 => ?_) (fun h1 => ?_)
    · rw [if_pos h1]
      unfold g_impl_Menu__top impl_Menu__top_
      simp only []
      repeat' split
      all_goals rfl
    · rw [if_neg h1]
      refine ite_r (fun h2 => by rw [if_pos h2]) (fun h2 => ?_)
      rw [if_neg h2]
      refine ite_r (fun h3 => by rw [if_pos h3]) (fun h3 => ?_)
      rw [if_neg h3]
      refine ite_r (fun h4 => ?_) (fun h4 => ?_)
      · refine ite_r (fun h5 => ?_) (fun h5 => ?_)
        · rw [if_pos (show ((s.size + List.length [c % 256] : Nat) : Int) ≤ 9223372036854775807 by simp only [List.length_singleton]; omega), if_pos (show (48 ≤ c ∧ c ≤ 57) ∧ s.size < 4 from ⟨h4, by omega⟩)]
        · rw [if_neg (show ¬ ((48 ≤ c ∧ c ≤ 57) ∧ s.size < 4) from fun q => h5 (by omega))]
      · rw [if_neg (show ¬ ((48 ≤ c ∧ c ≤ 57) ∧ s.size < 4) from fun q => h4 q.1)]
  · rw [if_neg h]
/- spec_l17Number -/
theorem spec_l17Number_eq (s : ByteArray) (hs : s.size ≤ 1048580) : g_spec_l17Number s = some (num s) := by
  refine evG_eq ?_
  unfold spec_l17Number_ num
  refine bytes_loop s (fun k z i => spec_l17Number_L3 k (s, z, i, ())) numF (fun z => ?_) (fun i z x rest hx hi h => ?_) 0
  · refine Ev.step (fun q => by rw [spec_l17Number_L3]) ?_
    exact ev_neg (by omega) ev_some
  · refine Ev.step (fun q => by rw [spec_l17Number_L3]) ?_
    refine ev_pos (by omega) (ev_pos (by omega) (ev_pos (by omega) ?_))
    have e : wrap64 (wr .u8 ((x.toNat : Int) - 48)) = ((x.toNat : Int) - 48) % 256 := by rw [wr8]; exact w64 (by omega) (by omega)
    rw [byt_drop hx, w64_succ (by omega), e]
    exact h _
/- spec_MenuOk -/
theorem spec_MenuOk_eq (a : Int) (b : Bool) (n d : Int) (s : ByteArray) (hs : s.size ≤ 1048580) : g_spec_MenuOk (a, b, n, d, s) = some (menuOk (a, b, n, d, s)) := by
  refine evG_eq ?_
  show Ev _ (decide (MenuOkP a b n d s))
  unfold spec_MenuOk_
  have hloop : Ev (fun k => spec_MenuOk_L4 (fun _ => g_spec_l01In) k (0, a, b, n, d, s, ())) (digitsOk (bl s) && decide (a = 1 → s.size = 0 ∧ b = false ∧ n = 0 ∧ d = 0)) := by
    refine bytes_loop s (fun k (_ : Unit) i => spec_MenuOk_L4 (fun _ => g_spec_l01In) k (i, a, b, n, d, s, ())) (fun r _ => digitsOk r && decide (a = 1 → s.size = 0 ∧ b = false ∧ n = 0 ∧ d = 0)) (fun _ => ?_) (fun i _ x rest hx hi h => ?_) ()
    · refine Ev.step (fun q => by rw [spec_MenuOk_L4]) ?_
      refine ev_neg (by omega) (ev_eq ?_)
      show _ = some (digitsOk [] && _)
      rw [show digitsOk [] = true from rfl, Bool.true_and]
      simp only [eq_empty]
      cases b with
      | false =>
        repeat' refine ite_r (fun _ => ?_) (fun _ => ?_)
        all_goals first
          | exact absurd (by assumption) Bool.false_ne_true
          | exact dec_yes (fun q => by first | (exfalso; omega) | exact ⟨by omega, rfl, by omega, by omega⟩)
          | exact dec_no (fun q => by have := q (by omega); omega)
          | (refine eq_dec ?_; rw [decide_eq_true_iff]; exact ⟨fun h q => ⟨by omega, rfl, by omega, h⟩, fun q => (q (by omega)).2.2.2⟩)
      | true =>
        repeat' refine ite_r (fun _ => ?_) (fun _ => ?_)
        all_goals first
          | exact absurd rfl (by assumption)
          | exact dec_yes (fun q => by exfalso; omega)
          | exact dec_no (fun q => by have := (q (by omega)).2.1; cases this)
    · refine Ev.step (fun q => by rw [spec_MenuOk_L4]) ?_
      refine ev_pos (by omega) (ev_pos (by omega) (ev_pos (by omega) ?_))
      rw [byt_drop hx, w64_succ (by omega)]
      by_cases h1 : (x.toNat : Int) < 48
      · refine ev_pos h1 (Ev.cast ev_some ?_)
        rw [digitsOk_cons, decide_eq_false (p := 48 ≤ (x.toNat : Int) ∧ (x.toNat : Int) ≤ 57) (by omega)]; rfl
      · refine ev_neg h1 (ev_pos (by omega) (ev_pos (by omega) ?_))
        by_cases h2 : 57 < (x.toNat : Int)
        · refine ev_pos h2 (Ev.cast ev_some ?_)
          rw [digitsOk_cons, decide_eq_false (p := 48 ≤ (x.toNat : Int) ∧ (x.toNat : Int) ≤ 57) (by omega)]; rfl
        · refine ev_neg h2 (Ev.cast (h ()) ?_)
          rw [digitsOk_cons, decide_eq_true (p := 48 ≤ (x.toNat : Int) ∧ (x.toNat : Int) ≤ 57) (by omega), Bool.true_and]
  have no : ¬ ((1 ≤ a ∧ a ≤ 4) ∧ (0 ≤ n ∧ n ≤ 9999) ∧ (0 ≤ d ∧ d ≤ 9999) ∧ s.size ≤ 4) → false = decide (MenuOkP a b n d s) := fun h => by
    rw [decide_eq_false]
    unfold MenuOkP
    exact fun q => h ⟨q.2.1, q.2.2.1, q.2.2.2.1, q.2.2.2.2.1⟩
  refine ev_bind (spec_l01In_eq _ _ _) (ev_dom (fun h1 => ?_) (fun h1 => Ev.cast ev_some (no fun q => h1 (decide_eq_true q.1))))
  refine ev_bind (spec_l01In_eq _ _ _) (ev_dom (fun h2 => ?_) (fun h2 => Ev.cast ev_some (no fun q => h2 (decide_eq_true q.2.1))))
  refine ev_bind (spec_l01In_eq _ _ _) (ev_dom (fun h3 => ?_) (fun h3 => Ev.cast ev_some (no fun q => h3 (decide_eq_true q.2.2.1))))
  refine ev_dom (fun h4 => Ev.cast ev_some (no fun q => by omega)) (fun h4 => Ev.cast hloop ?_)
  rw [decide_eq_true_iff] at h1 h2 h3
  rw [Bool.eq_iff_iff]
  refine Iff.trans ?_ decide_eq_true_iff.symm
  rw [Bool.and_eq_true, decide_eq_true_iff]
  unfold MenuOkP
  constructor
  · rintro ⟨q1, q2⟩; exact ⟨q1, h1, h2, h3, by omega, q2⟩
  · rintro ⟨q1, _, _, _, _, q2⟩; exact ⟨q1, q2⟩
/- spec_Press -/
theorem spec_Press_eq (a : Int) (b : Bool) (n d : Int) (s : ByteArray) (c : Int) (hs : s.size ≤ 1048580) : g_spec_Press ((a, b, n, d, s), c) = some (press (a, b, n, d, s) c) := by
  unfold g_spec_Press spec_Press_ press
  simp only [spec_MenuOk_eq a b n d s hs, spec_l17Number_eq s hs, spec_OrderOk_eq, spec_MenuNew_eq, Option.bind_some, wr8, size_bstr]
  have enter : (if a = 2 then some (((3, b, num s, d, ⟨#[]⟩) : Menu), ((0, 0, 0, 0) : Order), false)
        else if a = 3 then some ((4, b, n, num s, ⟨#[]⟩), (0, 0, 0, 0), false)
        else if b = true then (if orderOk (2, 0, 0, num s) = true then some (menuNew, (2, 0, 0, num s), true) else some (menuNew, (0, 0, 0, 0), false))
        else (if orderOk (1, n, d, num s) = true then some (menuNew, (1, n, d, num s), true) else some (menuNew, (0, 0, 0, 0), false))) = some (if a = 2 then ((3, b, num s, d, ⟨#[]⟩), (0, 0, 0, 0), false)
        else if a = 3 then ((4, b, n, num s, ⟨#[]⟩), (0, 0, 0, 0), false)
        else if b = true then sent 2 0 0 (num s)
        else sent 1 n d (num s)) := by
    unfold sent
    repeat' split
    all_goals rfl
  refine ite_r (fun h => ?_) (fun h => ?_)
  · rw [if_pos h]
    refine ite_r (fun h1 => ?_) (fun h1 => ?_)
    · rw [if_pos h1]
      unfold g_spec_l17Top spec_l17Top_
      simp only []
      repeat' split
      all_goals rfl
    · rw [if_neg h1]
      refine ite_r (fun h48 => ?_) (fun h48 => ?_)
      · refine ite_r (fun h57 => ?_) (fun h57 => ?_)
        · rw [if_neg (show ¬ c = 10 by omega), if_neg (show ¬ c = 99 by omega)]
          refine ite_r (fun h5 => ?_) (fun h5 => ?_)
          · rw [if_pos (show ((s.size + List.length [c % 256] : Nat) : Int) ≤ 9223372036854775807 by simp only [List.length_singleton]; omega), if_pos (show (48 ≤ c ∧ c ≤ 57) ∧ s.size < 4 from ⟨⟨h48, h57⟩, by omega⟩)]
          · rw [if_neg (show ¬ ((48 ≤ c ∧ c ≤ 57) ∧ s.size < 4) from fun q => h5 (by omega))]
        · refine ite_r (fun h99 => ?_) (fun h99 => ?_)
          · rw [if_neg (show ¬ c = 10 by omega), if_pos h99]
          · refine ite_r (fun h10 => ?_) (fun h10 => ?_)
            · omega
            · rw [if_neg h10, if_neg h99, if_neg (show ¬ ((48 ≤ c ∧ c ≤ 57) ∧ s.size < 4) from fun q => h57 q.1.2)]
      · refine ite_r (fun h99 => ?_) (fun h99 => ?_)
        · omega
        · refine ite_r (fun h10 => ?_) (fun h10 => ?_)
          · rw [if_pos h10]
            exact enter
          · rw [if_neg h10, if_neg h99, if_neg (show ¬ ((48 ≤ c ∧ c ≤ 57) ∧ s.size < 4) from fun q => h48 q.1.1)]
  · rw [if_neg h]
/- impl_PressAll -/
theorem impl_PressAll_eq (m : Menu) (s : ByteArray) (hm : m.2.2.2.2.size ≤ 1048580) (hs : s.size ≤ 1048580) : g_impl_PressAll (m, s) = some (pressAll m s) := by
  refine evG_eq ?_
  have key : ∀ (z8 : Int) (z9 : Bool) (z10 z11 : Int) (z12 : ByteArray) (i : Nat), i ≤ (bl s).length → ∀ q : Menu × List Order, q.1.2.2.2.2.size ≤ 1048580 → q.2.length ≤ i →
      Ev (fun k => impl_PressAll_L3 (fun _ => g_impl_Press) k (s, (s.size : Int), (i : Int), q.1.1, q.1.2.1, q.1.2.2.1, q.1.2.2.2.1, q.1.2.2.2.2, z8, z9, z10, z11, z12, q.2, ())) (pressL ((bl s).drop i) q.1 q.2) := by
    intro z8 z9 z10 z11 z12 i hi
    obtain ⟨d, hd⟩ : ∃ d, d = (bl s).length - i := ⟨_, rfl⟩
    have hbl := bl_len s
    induction d generalizing i with
    | zero =>
      intro q _ _
      have e : i = (bl s).length := by omega
      rw [List.drop_of_length_le (by omega)]
      refine Ev.step (fun w => by rw [impl_PressAll_L3]) ?_
      exact ev_neg (by omega) ev_some
    | succ d ih =>
      intro q h1 h2
      have hlt : i < (bl s).length := by omega
      have hc : (bl s).drop i = (bl s)[i] :: (bl s).drop (i + 1) := List.drop_eq_getElem_cons hlt
      have hx := u8_range ((bl s)[i])
      rw [hc]
      refine Ev.step (fun q => by rw [impl_PressAll_L3]) ?_
      refine ev_pos (by omega) (ev_pos (by omega) (ev_pos (by omega) ?_))
      rw [byt_drop hc, w64 (n := (((bl s)[i]).toNat : Int)) (by omega) (by omega), w64_succ (by omega)]
      refine ev_bind (impl_Press_eq _ _ _ _ _ _ h1) ?_
      have hp := press_digits q.1 (((bl s)[i]).toNat : Int) h1
      unfold pressL
      refine ev_dom (fun h => ?_) (fun h => ?_)
      · rw [if_pos h]
        refine ev_pos (by simp only [List.length_singleton]; omega) ?_
        exact ih (i + 1) (by omega) (by omega) ((press q.1 (((bl s)[i]).toNat : Int)).1, q.2 ++ [(press q.1 (((bl s)[i]).toNat : Int)).2.1]) hp (by simp only [List.length_append, List.length_singleton]; omega)
      · rw [if_neg h]
        exact ih (i + 1) (by omega) (by omega) ((press q.1 (((bl s)[i]).toNat : Int)).1, q.2) hp (by show q.2.length ≤ i + 1; omega)
  obtain ⟨a, b, n, d, t⟩ := m
  exact key 0 false 0 0 ⟨#[]⟩ 0 (by omega) ((a, b, n, d, t), []) hm (Nat.le_refl _)
/- spec_l01Byte -/
theorem and255 (x : Int) : 0 ≤ iand .i64 x 255 ∧ iand .i64 x 255 ≤ 255 := by
  have e : iand .i64 x 255 = IntKind.i64.wrap (((BitVec.ofInt 64 x &&& BitVec.ofInt 64 255).toNat : Nat) : Int) := rfl
  have h : (BitVec.ofInt 64 x &&& BitVec.ofInt 64 255).toNat ≤ 255 := by
    rw [BitVec.toNat_and]
    exact Nat.le_trans Nat.and_le_right (by decide)
  rw [e, IntKind.wrap_i64]
  omega
theorem l01Byte_some (l : List Int) (i s : Int) (hl : l.length ≤ 1048576) (hi : 0 ≤ i) : ∃ b i' s', g_spec_l01Byte (l, i, s) = some (b, ((), i', s')) ∧ 0 ≤ b ∧ b ≤ 255 ∧ 0 ≤ i' := by
  unfold g_spec_l01Byte spec_l01Byte_
  simp only []
  rw [if_pos (by omega), if_pos (by omega)]
  by_cases h : i < (l.length : Int)
  · rw [if_pos h, if_pos hi, if_pos h, w64 (n := i + 1) (by omega) (by omega)]
    exact ⟨_, _, _, rfl, (and255 _).1, (and255 _).2, by omega⟩
  · rw [if_neg h]
    exact ⟨_, _, _, rfl, (and255 _).1, (and255 _).2, hi⟩
/- spec_l01Below -/
theorem l01Below_some (l : List Int) (i s n : Int) (hl : l.length ≤ 1048576) (hi : 0 ≤ i) (hn : 0 < n) : ∃ v i' s', g_spec_l01Below ((l, i, s), n) = some (v, ((), i', s')) ∧ 0 ≤ v ∧ v < n ∧ 0 ≤ i' := by
  unfold g_spec_l01Below spec_l01Below_
  simp only []
  rw [if_neg (by omega)]
  by_cases h : n ≤ 256
  · rw [if_pos h]
    obtain ⟨b, i1, s1, e, h1, h2, h3⟩ := l01Byte_some l i s hl hi
    rw [e, Option.bind_some, if_neg (by omega)]
    exact ⟨_, _, _, rfl, Int.tmod_nonneg _ h1, Int.tmod_lt_of_pos _ hn, h3⟩
  · rw [if_neg h]
    obtain ⟨b1, i1, s1, e1, h11, h12, h13⟩ := l01Byte_some l i s hl hi
    obtain ⟨b2, i2, s2, e2, h21, h22, h23⟩ := l01Byte_some l i1 s1 hl h13
    obtain ⟨b3, i3, s3, e3, h31, h32, h33⟩ := l01Byte_some l i2 s2 hl h23
    obtain ⟨b4, i4, s4, e4, h41, h42, h43⟩ := l01Byte_some l i3 s3 hl h33
    simp only [e1, e2, e3, e4, Option.bind_some]
    rw [if_neg (by omega)]
    refine ⟨_, _, _, rfl, Int.tmod_nonneg _ ?_, Int.tmod_lt_of_pos _ hn, h43⟩
    show 0 ≤ wrap64 ((wrap64 ((wrap64 ((wrap64 (b1 * 16777216)) + (wrap64 (b2 * 65536)))) + (wrap64 (b3 * 256)))) + b4)
    unfold wrap64; omega
/- spec_l01New -/
theorem l01New_ev (l : List Int) (hl : l.length ≤ 1048576) : ∃ x, g_spec_l01New l = some ((), 0, x) := by
  have key : ∀ (d : Nat) (i : Nat), l.length = i + d → ∀ x, ∃ y, Ev (fun k => spec_l01New_L3 k (x, (i : Int), l, ())) ((), (0 : Int), y) := by
    intro d
    induction d with
    | zero =>
      intro i hi x
      exact ⟨x, Ev.step (fun q => by rw [spec_l01New_L3]) (ev_neg (by omega) ev_some)⟩
    | succ d ih =>
      intro i hi x
      by_cases h4 : (i : Int) < 4000
      · obtain ⟨y, hy⟩ := ih (i + 1) (by omega) _
        refine ⟨y, Ev.step (fun q => by rw [spec_l01New_L3]) (ev_pos (by omega) (ev_pos h4 (ev_pos (by omega) (ev_pos (by omega) ?_))))⟩
        rw [w64_succ (by omega)]
        exact hy
      · exact ⟨x, Ev.step (fun q => by rw [spec_l01New_L3]) (ev_pos (by omega) (ev_neg h4 ev_some))⟩
  obtain ⟨y, hy⟩ := key l.length 0 (by omega) _
  exact ⟨y, evG_eq hy⟩
/- spec_DrawPlaces -/
theorem spec_DrawPlaces_some (code : List Int) (hl : code.length ≤ 1048576) : ∃ q, g_spec_DrawPlaces code = some q ∧ q.length = 12 ∧ ∀ x ∈ q, 0 ≤ x ∧ x < 10000 := by
  have key : ∀ (d n : Nat), n + d = 12 → ∀ (i h : Int) (q : List Int), 0 ≤ i → q.length = n → (∀ x ∈ q, 0 ≤ x ∧ x < 10000) →
      ∃ q', Ev (fun k => spec_DrawPlaces_L5 (fun _ => g_spec_l01Below) (fun _ => g_spec_l01Byte) (fun _ => g_spec_l01New) k ((n : Int), code, i, h, q, ())) q' ∧ q'.length = 12 ∧ ∀ x ∈ q', 0 ≤ x ∧ x < 10000 := by
    intro d
    induction d with
    | zero =>
      intro n hn i h q hi hq hx
      exact ⟨q, Ev.step (fun q => by rw [spec_DrawPlaces_L5]) (ev_neg (by omega) ev_some), by omega, hx⟩
    | succ d ih =>
      intro n hn i h q hi hq hx
      obtain ⟨v, i', s', e, h1, h2, h3⟩ := l01Below_some code i h 10000 hl hi (by omega)
      obtain ⟨q', h4, h5⟩ := ih (n + 1) (by omega) i' s' (q ++ [v]) h3 (by simp [hq]) (fun x hx' => by
        rcases List.mem_append.1 hx' with hx' | hx'
        · exact hx x hx'
        · simp at hx'; subst hx'; exact ⟨h1, h2⟩)
      refine ⟨q', Ev.step (fun q => by rw [spec_DrawPlaces_L5]) (ev_pos (by omega) (ev_bind e (ev_pos ?_ ?_))), h5⟩
      · simp only [List.length_singleton, hq]; omega
      · rw [w64_succ (by omega)]
        exact h4
  obtain ⟨x, hn⟩ := l01New_ev code hl
  obtain ⟨b, i', s', e, _, _, h3⟩ := l01Byte_some code 0 x hl (by omega)
  obtain ⟨q, h4, h5⟩ := key 12 0 rfl i' s' [] h3 rfl (fun x hx => by cases hx)
  refine ⟨q, evG_eq ?_, h5⟩
  unfold spec_DrawPlaces_
  exact ev_bind hn (ev_bind e h4)
/- spec_PressAll -/
theorem spec_PressAll_eq (m : Menu) (s : ByteArray) (hm : m.2.2.2.2.size ≤ 1048580) (hs : s.size ≤ 1048580) : g_spec_PressAll (m, s) = some (pressAll m s) := by
  refine evG_eq ?_
  have key : ∀ (z8 : Int) (z9 : Bool) (z10 z11 : Int) (z12 : ByteArray) (i : Nat), i ≤ (bl s).length → ∀ q : Menu × List Order, q.1.2.2.2.2.size ≤ 1048580 → q.2.length ≤ i →
      Ev (fun k => spec_PressAll_L3 (fun _ => g_spec_Press) k (s, (i : Int), q.1.1, q.1.2.1, q.1.2.2.1, q.1.2.2.2.1, q.1.2.2.2.2, z8, z9, z10, z11, z12, q.2, ())) (pressL ((bl s).drop i) q.1 q.2) := by
    intro z8 z9 z10 z11 z12 i hi
    obtain ⟨d, hd⟩ : ∃ d, d = (bl s).length - i := ⟨_, rfl⟩
    have hbl := bl_len s
    induction d generalizing i with
    | zero =>
      intro q _ _
      have e : i = (bl s).length := by omega
      rw [List.drop_of_length_le (by omega)]
      refine Ev.step (fun w => by rw [spec_PressAll_L3]) ?_
      exact ev_neg (by omega) ev_some
    | succ d ih =>
      intro q h1 h2
      have hlt : i < (bl s).length := by omega
      have hc : (bl s).drop i = (bl s)[i] :: (bl s).drop (i + 1) := List.drop_eq_getElem_cons hlt
      have hx := u8_range ((bl s)[i])
      rw [hc]
      refine Ev.step (fun q => by rw [spec_PressAll_L3]) ?_
      refine ev_pos (by omega) (ev_pos (by omega) (ev_pos (by omega) ?_))
      rw [byt_drop hc, w64 (n := (((bl s)[i]).toNat : Int)) (by omega) (by omega), w64_succ (by omega)]
      refine ev_bind (spec_Press_eq _ _ _ _ _ _ h1) ?_
      have hp := press_digits q.1 (((bl s)[i]).toNat : Int) h1
      unfold pressL
      refine ev_dom (fun h => ?_) (fun h => ?_)
      · rw [if_pos h]
        refine ev_pos (by simp only [List.length_singleton]; omega) ?_
        exact ih (i + 1) (by omega) (by omega) ((press q.1 (((bl s)[i]).toNat : Int)).1, q.2 ++ [(press q.1 (((bl s)[i]).toNat : Int)).2.1]) hp (by simp only [List.length_append, List.length_singleton]; omega)
      · rw [if_neg h]
        exact ih (i + 1) (by omega) (by omega) ((press q.1 (((bl s)[i]).toNat : Int)).1, q.2) hp (by show q.2.length ≤ i + 1; omega)
  obtain ⟨a, b, n, d, t⟩ := m
  exact key 0 false 0 0 ⟨#[]⟩ 0 (by omega) ((a, b, n, d, t), []) hm (Nat.le_refl _)
/- spec_l01Pick -/
theorem l01Pick_some (S : List Int) (i s : Int) (L : List ByteArray) (hS : S.length ≤ 1048576) (hi : 0 ≤ i) (hL : 0 < L.length) : ∃ v i' s', g_spec_l01Pick ((S, i, s), L) = some (v, ((), i', s')) ∧ v ∈ L ∧ 0 ≤ i' := by
  unfold g_spec_l01Pick spec_l01Pick_
  obtain ⟨n, i1, s1, e, h0, h1, h2⟩ := l01Below_some S i s (L.length : Int) hS hi (by omega)
  simp only [e, Option.bind_some]
  rw [if_pos h0, if_pos h1]
  have hn : n.toNat < L.length := by omega
  refine ⟨_, _, _, rfl, ?_, h2⟩
  have : L.getD n.toNat ⟨#[]⟩ = L[n.toNat] := by simp [List.getD_eq_getElem?_getD, hn]
  rw [this]
  exact List.getElem_mem hn
/- spec_l17Keys -/
theorem l17Keys_some (S : List Int) (i s : Int) (hS : S.length ≤ 1048576) (hi : 0 ≤ i) : ∃ v i' s', g_spec_l17Keys (S, i, s) = some (v, ((), i', s')) ∧ v.size ≤ 16 ∧ 0 ≤ i' := by
  have key : ∀ (d n : Nat), n + d = 2 → ∀ (i s : Int) (v : ByteArray), 0 ≤ i → v.size ≤ 8 * n →
      ∃ v' i' s', Ev (fun k => spec_l17Keys_L3 (fun _ => g_spec_l01Below) (fun _ => g_spec_l01Pick) k (v, (n : Int), i, s, S, ())) (v', ((), i', s')) ∧ v'.size ≤ 16 ∧ 0 ≤ i' := by
    intro d
    induction d with
    | zero =>
      intro n hn i s v hi hv
      obtain ⟨x, i1, s1, e, h0, h1, h2⟩ := l01Below_some S i s 3 hS hi (by omega)
      refine ⟨v, i1, s1, Ev.step (fun w => by rw [spec_l17Keys_L3]) ?_, by omega, h2⟩
      refine ev_bind e ?_
      exact ev_neg (show ¬ (n : Int) < x by omega) ev_some
    | succ d ih =>
      intro n hn i s v hi hv
      obtain ⟨x, i1, s1, e, h0, h1, h2⟩ := l01Below_some S i s 3 hS hi (by omega)
      by_cases hx : (n : Int) < x
      · obtain ⟨p, i2, s2, e2, hp, hi2⟩ := l01Pick_some S i1 s1 [(⟨#[98, 50, 10, 53, 10, 50, 48, 10]⟩ : ByteArray), (⟨#[111, 57, 10]⟩ : ByteArray), (⟨#[112]⟩ : ByteArray), (⟨#[103]⟩ : ByteArray), (⟨#[115]⟩ : ByteArray), (⟨#[120]⟩ : ByteArray), (⟨#[98, 51, 10, 49, 10]⟩ : ByteArray), (⟨#[52, 48, 10]⟩ : ByteArray), (⟨#[99]⟩ : ByteArray), (⟨#[113]⟩ : ByteArray), (⟨#[98, 48, 10]⟩ : ByteArray)] hS h2 (by decide)
        have hp8 : p.size ≤ 8 := by
          have hall : ∀ q ∈ [(⟨#[98, 50, 10, 53, 10, 50, 48, 10]⟩ : ByteArray), (⟨#[111, 57, 10]⟩ : ByteArray), (⟨#[112]⟩ : ByteArray), (⟨#[103]⟩ : ByteArray), (⟨#[115]⟩ : ByteArray), (⟨#[120]⟩ : ByteArray), (⟨#[98, 51, 10, 49, 10]⟩ : ByteArray), (⟨#[52, 48, 10]⟩ : ByteArray), (⟨#[99]⟩ : ByteArray), (⟨#[113]⟩ : ByteArray), (⟨#[98, 48, 10]⟩ : ByteArray)], q.size ≤ 8 := by decide
          exact hall p hp
        obtain ⟨v', i', s', h3, h4⟩ := ih (n + 1) (by omega) i2 s2 (v ++ p) hi2 (by rw [size_append]; omega)
        refine ⟨v', i', s', Ev.step (fun w => by rw [spec_l17Keys_L3]) ?_, h4⟩
        refine ev_bind e ?_
        refine ev_pos hx ?_
        refine ev_bind e2 ?_
        refine ev_pos (show ((v.size + p.size : Nat) : Int) ≤ 9223372036854775807 by omega) ?_
        rw [w64_succ (by omega)]
        exact h3
      · refine ⟨v, i1, s1, Ev.step (fun w => by rw [spec_l17Keys_L3]) ?_, by omega, h2⟩
        refine ev_bind e ?_
        exact ev_neg hx ev_some
  obtain ⟨v, i', s', h1, h2, h3⟩ := key 2 0 rfl i s ⟨#[]⟩ hi (Nat.zero_le _)
  exact ⟨v, i', s', evG_eq h1, h2, h3⟩
/- spec_DrawKeys -/
theorem spec_DrawKeys_some (S : List Int) (hS : S.length ≤ 1048576) : ∃ v : ByteArray, g_spec_DrawKeys S = some v ∧ v.size ≤ 16 := by
  obtain ⟨x, hx⟩ := l01New_ev S hS
  obtain ⟨v, i1, s1, e1, h1, hi1⟩ := l17Keys_some S 0 x hS (by omega)
  refine ⟨v, ?_, h1⟩
  unfold g_spec_DrawKeys spec_DrawKeys_
  simp only [hx, e1, Option.bind_some]
/- laws_big -/
theorem laws_big_eq (l : List Int) : g_laws_big l = some (decide (1048576 < (l.length : Int))) := rfl
/- laws_FnMenus -/
set_option maxHeartbeats 1000000 in
theorem t_FnMenus (S : List Int) : g_laws_FnMenus S = some true := by
  refine evG_eq ?_
  unfold laws_FnMenus_
  refine ev_bind (laws_big_eq S) (ev_dom (fun _ => ev_some) (fun hb => ?_))
  have hS : S.length ≤ 1048576 := by
    rw [decide_eq_true_eq] at hb; omega
  obtain ⟨v, e1, hv⟩ := spec_DrawKeys_some S hS
  obtain ⟨q, hq, h12, hx⟩ := spec_DrawPlaces_some S hS
  have h0 : 0 ≤ q.getD (Int.toNat 0) 0 ∧ q.getD (Int.toNat 0) 0 < 10000 := by
    have : q.getD (Int.toNat 0) 0 = q[0]'(by omega) := getD_lt (i := 0) (by omega)
    rw [this]; exact hx _ (List.getElem_mem _)
  have hok := pressAll_ok menuNew_ok v
  have hlen := pressAll_len menuNew v
  have e2 := impl_PressAll_eq menuNew v (Nat.zero_le _) (by omega)
  have e3 := spec_PressAll_eq menuNew v (Nat.zero_le _) (by omega)
  refine ev_bind e1 (ev_bind impl_MenuNew_eq (ev_bind e2 (ev_bind spec_MenuNew_eq (ev_bind e3 (ev_bind hq (ev_pos (by omega) (ev_pos (by omega) ?_)))))))
  generalize q.getD (Int.toNat 0) 0 = x at h0
  rw [w64 (n := (v.size : Int) + 1) (by omega) (by omega)]
  refine ev_neg (by omega) ?_
  obtain ⟨i, hi, hiv⟩ : ∃ i : Nat, Int.tmod x ((v.size : Int) + 1) = (i : Int) ∧ i ≤ v.size := by
    have h1 := Int.tmod_nonneg (b := (v.size : Int) + 1) h0.1
    have h2 := Int.tmod_lt_of_pos x (b := (v.size : Int) + 1) (by omega)
    exact ⟨(Int.tmod x ((v.size : Int) + 1)).toNat, by omega, by omega⟩
  rw [hi]
  have t0 : Int.toNat 0 = 0 := rfl
  have ti : Int.toNat (i : Int) = i := Int.toNat_natCast i
  have tv : Int.toNat (v.size : Int) = v.size := Int.toNat_natCast _
  rw [t0, ti, tv]
  have hsp := pressAll_split menuNew v i
  have s1 : (v.extract 0 i).size ≤ 1048580 := by rw [size_bl, bl_extract, List.length_drop, List.length_take, bl_len]; omega
  have s2 : (v.extract i v.size).size ≤ 1048580 := by rw [size_bl, bl_extract, List.length_drop, List.length_take, bl_len]; omega
  have hok1 := pressAll_ok menuNew_ok (v.extract 0 i)
  have e4 := impl_PressAll_eq menuNew (v.extract 0 i) (Nat.zero_le _) s1
  have d1 : (pressAll menuNew (v.extract 0 i)).1.2.2.2.2.size ≤ 1048580 := by
    have := (menuOk_den (s := (pressAll menuNew (v.extract 0 i)).1.2.2.2.2) hok1.1).2.2.2.2.1
    omega
  have e5 := impl_PressAll_eq (pressAll menuNew (v.extract 0 i)).1 (v.extract i v.size) d1 s2
  refine ev_pos (by omega) (ev_pos (by omega) (ev_bind impl_MenuNew_eq (ev_bind e4 (ev_pos (by omega) (ev_pos (by omega) (ev_bind e5 ?_))))))
  generalize hA : pressAll menuNew (v.extract 0 i) = A at *
  generalize hB : pressAll A.1 (v.extract i v.size) = B at *
  generalize hM : pressAll menuNew v = M at *
  have hl2 : M.2.length = A.2.length + B.2.length := by rw [hsp]; exact List.length_append
  have hm2 : B.1 = M.1 := by rw [hsp]
  rw [hm2]
  refine ev_pos rfl (ev_pos (by simp) (ev_pos rfl (ev_pos rfl (ev_pos rfl (ev_pos rfl (ev_pos (by simp) (ev_pos rfl (ev_pos rfl (ev_pos rfl (ev_pos ?_ (ev_pos rfl ?_)))))))))))
  · rw [w64 (by omega) (by omega), hl2]; omega
  have key : ∀ (d n : Nat), n + d = M.2.length → Ev (fun k => laws_FnMenus_L12 (fun _ => g_impl_MenuNew) (fun _ => g_impl_MenuOk) (fun _ => g_impl_OrderOk) (fun _ => g_impl_PressAll) (fun _ => g_laws_big) (fun _ => g_spec_DrawKeys) (fun _ => g_spec_DrawPlaces) (fun _ => g_spec_MenuNew) (fun _ => g_spec_PressAll) k
      ((n : Int), M.1.1, M.1.2.1, M.1.2.2.1, M.1.2.2.2.1, M.1.2.2.2.2, M.2, M.2, A.1.1, A.1.2.1, A.1.2.2.1, A.1.2.2.2.1, A.1.2.2.2.2, ())) true := by
    intro d
    induction d with
    | zero =>
      intro n hn
      have m1 := impl_MenuOk_eq M.1.1 M.1.2.1 M.1.2.2.1 M.1.2.2.2.1 M.1.2.2.2.2 (by have := (menuOk_den (s := M.1.2.2.2.2) hok.1).2.2.2.2.1; omega)
      have m2 := impl_MenuOk_eq A.1.1 A.1.2.1 A.1.2.2.1 A.1.2.2.2.1 A.1.2.2.2.2 d1
      refine Ev.step (fun w => by rw [laws_FnMenus_L12]) ?_
      refine ev_neg (by omega) (ev_bind m1 (ev_pos hok.1 (ev_bind m2 (ev_pos hok1.1 (ev_bind impl_MenuNew_eq ?_)))))
      have m3 : g_impl_MenuOk menuNew = some (menuOk menuNew) := impl_MenuOk_eq 1 false 0 0 ⟨#[]⟩ (Nat.zero_le _)
      refine ev_bind m3 (ev_eq ?_)
      rw [menuNew_ok]
    | succ d ih =>
      intro n hn
      have hlt : n < M.2.length := by omega
      have hg : M.2.getD (Int.toNat (n : Int)) (0, (0, (0, 0))) = M.2[n] := getD_lt hlt
      refine Ev.step (fun w => by rw [laws_FnMenus_L12]) ?_
      rw [hg]
      refine ev_pos (by omega) (ev_pos (by omega) (ev_pos (by omega) (ev_pos (by omega) (ev_pos (by omega) (ev_pos rfl (ev_pos rfl (ev_pos rfl (ev_pos rfl (ev_pos (by omega) (ev_pos (by omega) (ev_bind (impl_OrderOk_eq _) (ev_pos (hok.2 _ (List.getElem_mem _)) ?_))))))))))))
      rw [w64_succ (by omega)]
      exact ih (n + 1) (by omega)
  exact key M.2.length 0 (by omega)
end Go.Sx.T
