/- Functions of the program as functions of Lean, and that the program keeps to them. -/
import Derived.Test.YthimkepabblloaaFnExactPressAllA0
set_option maxRecDepth 100000
set_option linter.unusedVariables false
set_option linter.unusedSimpArgs false
namespace Go.Proofs
end Go.Proofs
namespace Go.Sx.T
open Go Go.Sx Go.Proofs Go.RowKit
/- laws_eqMenu -/
theorem laws_eqMenu_refl (m : Menu) : g_laws_eqMenu (m, m) = some true := by
  obtain ⟨a, b, n, d, s⟩ := m
  unfold g_laws_eqMenu laws_eqMenu_
  simp
/- impl_MenuNew -/
theorem impl_MenuNew_eq : g_impl_MenuNew () = some menuNew := rfl
/- spec_MenuNew -/
theorem spec_MenuNew_eq : g_spec_MenuNew () = some menuNew := rfl
/- laws_eqOrder -/
theorem laws_eqOrder_refl (m : Order) : g_laws_eqOrder (m, m) = some true := by
  obtain ⟨a, b, n, d⟩ := m
  unfold g_laws_eqOrder laws_eqOrder_
  simp
/- impl_within -/
theorem impl_within_eq (a b c : Int) : g_impl_within (a, b, c) = some (decide (b ≤ a ∧ a ≤ c)) := by
  show (if b ≤ a then some (decide (a ≤ c)) else some false) = _
  split
  · rename_i h; refine eq_dec ?_; rw [decide_eq_true_iff]; omega
  · rename_i h; exact dec_no (by omega)
/- impl_OrderOk -/
theorem impl_OrderOk_eq (o : Order) : g_impl_OrderOk o = some (orderOk o) := by
  obtain ⟨a, b, c, x⟩ := o
  show _ = some (decide (OrderOkP a b c x))
  unfold g_impl_OrderOk impl_OrderOk_
  simp only [impl_within_eq, Option.bind_some, decide_eq_true_eq, mn_eq]
  by_cases h : 1 ≤ c ∧ c ≤ 1000
  · have hw : wrap64 (3 * c) = 3 * c := w64 (by omega) (by omega)
    rw [hw]
    repeat' refine ite_r (fun _ => ?_) (fun _ => ?_)
    all_goals first
      | exact dec_no (by unfold OrderOkP; omega)
      | exact dec_yes (by unfold OrderOkP; omega)
      | (exfalso; omega)
      | (exfalso; simp_all; done)
      | (refine eq_dec ?_; simp only [Bool.and_eq_true, decide_eq_true_eq, decide_true, true_and]; unfold OrderOkP; omega)
  · simp only [h, if_false]
    repeat' refine ite_r (fun _ => ?_) (fun _ => ?_)
    all_goals first
      | exact dec_no (by unfold OrderOkP; omega)
      | exact dec_yes (by unfold OrderOkP; omega)
      | (exfalso; omega)
      | (exfalso; simp_all; done)
      | (refine eq_dec ?_; simp only [Bool.and_eq_true, decide_eq_true_eq, decide_true, true_and]; unfold OrderOkP; omega)
/- spec_l01In -/
theorem spec_l01In_eq (a b c : Int) : g_spec_l01In (a, b, c) = some (decide (b ≤ a ∧ a ≤ c)) := by
  show (if b ≤ a then some (decide (a ≤ c)) else some false) = _
  split
  · rename_i h; refine eq_dec ?_; rw [decide_eq_true_iff]; omega
  · rename_i h; exact dec_no (by omega)
/- spec_OrderOk -/
theorem spec_OrderOk_eq (o : Order) : g_spec_OrderOk o = some (orderOk o) := by
  obtain ⟨a, b, c, x⟩ := o
  show _ = some (decide (OrderOkP a b c x))
  unfold g_spec_OrderOk spec_OrderOk_
  simp only [spec_l01In_eq, Option.bind_some, decide_eq_true_eq, mn_eq]
  by_cases h : 1 ≤ c ∧ c ≤ 1000
  · have hw : wrap64 (3 * c) = 3 * c := w64 (by omega) (by omega)
    rw [hw]
    repeat' refine ite_r (fun _ => ?_) (fun _ => ?_)
    all_goals first
      | exact dec_no (by unfold OrderOkP; omega)
      | exact dec_yes (by unfold OrderOkP; omega)
      | (exfalso; omega)
      | (exfalso; simp_all; done)
      | (refine eq_dec ?_; simp only [Bool.and_eq_true, decide_eq_true_eq, decide_true, true_and]; unfold OrderOkP; omega)
  · simp only [h, if_false]
    repeat' refine ite_r (fun _ => ?_) (fun _ => ?_)
    all_goals first
      | exact dec_no (by unfold OrderOkP; omega)
      | exact dec_yes (by unfold OrderOkP; omega)
      | (exfalso; omega)
      | (exfalso; simp_all; done)
      | (refine eq_dec ?_; simp only [Bool.and_eq_true, decide_eq_true_eq, decide_true, true_and]; unfold OrderOkP; omega)
/- impl_typed -/
theorem impl_typed_eq (s : ByteArray) (hs : s.size ≤ 1048580) : g_impl_typed s = some (num s) := by
  refine evG_eq ?_
  unfold impl_typed_ num
  refine bytes_loop s (fun k z i => impl_typed_L3 k (s, z, (s.size : Int), i, ())) numF (fun z => ?_) (fun i z x rest hx hi h => ?_) 0
  · refine Ev.step (fun q => by rw [impl_typed_L3]) ?_
    exact ev_neg (by omega) ev_some
  · refine Ev.step (fun q => by rw [impl_typed_L3]) ?_
    refine ev_pos (by omega) (ev_pos (by omega) (ev_pos (by omega) ?_))
    have e : wrap64 (wr .u8 ((x.toNat : Int) - 48)) = ((x.toNat : Int) - 48) % 256 := by rw [wr8]; exact w64 (by omega) (by omega)
    rw [byt_drop hx, w64_succ (by omega), e]
    exact h _
/- impl_Menu__enter -/
theorem impl_Menu__enter_eq (a : Int) (b : Bool) (n d : Int) (s : ByteArray) (hs : s.size ≤ 1048580) : g_impl_Menu__enter (a, b, n, d, s) = some (if a = 2 then ((3, b, num s, d, ⟨#[]⟩), (0, 0, 0, 0), false)
        else if a = 3 then ((4, b, n, num s, ⟨#[]⟩), (0, 0, 0, 0), false)
        else if b = true then sent 2 0 0 (num s)
        else sent 1 n d (num s)) := by
  unfold g_impl_Menu__enter impl_Menu__enter_ sent
  simp only [impl_typed_eq s hs, impl_OrderOk_eq, impl_MenuNew_eq, Option.bind_some]
  repeat' split
  all_goals rfl
/- impl_MenuOk -/
theorem impl_MenuOk_eq (a : Int) (b : Bool) (n d : Int) (s : ByteArray) (hs : s.size ≤ 1048580) : g_impl_MenuOk (a, b, n, d, s) = some (menuOk (a, b, n, d, s)) := by
  refine evG_eq ?_
  unfold impl_MenuOk_
  refine Ev.cast (bytes_loop s (fun k (_ : Unit) i => impl_MenuOk_L2 (fun _ => g_impl_MenuNew) (fun _ => g_impl_within) k ((s.size : Int), i, a, b, n, d, s, ())) (fun r _ => digitsOk r && (if a = 1 then decide (s.size = 0 ∧ b = false ∧ n = 0 ∧ d = 0) else decide ((2 ≤ a ∧ a ≤ 4) ∧ (0 ≤ n ∧ n ≤ 9999) ∧ (0 ≤ d ∧ d ≤ 9999) ∧ s.size ≤ 4))) (fun _ => ?_) (fun i _ x rest hx hi h => ?_) ()) ?_
  · refine Ev.step (fun q => by rw [impl_MenuOk_L2]) ?_
    refine ev_neg (by omega) ?_
    by_cases h1 : a = 1
    · refine ev_pos h1 (ev_bind impl_MenuNew_eq (Ev.cast ev_some ?_))
      rw [if_pos h1]
      show (decide (a = 1) && ((b == false) && (decide (n = 0) && (decide (d = 0) && decide (s = ⟨#[]⟩))))) = (digitsOk [] && decide (s.size = 0 ∧ b = false ∧ n = 0 ∧ d = 0))
      rw [Bool.eq_iff_iff]
      simp only [Bool.and_eq_true, decide_eq_true_iff, beq_iff_eq, eq_empty]
      constructor
      · rintro ⟨_, h2, h3, h4, h5⟩; exact ⟨rfl, h5, h2, h3, h4⟩
      · rintro ⟨_, h5, h2, h3, h4⟩; exact ⟨h1, h2, h3, h4, h5⟩
    · refine ev_neg h1 ?_
      simp only [impl_within_eq, Option.bind_some, decide_eq_true_eq, if_neg h1]
      refine ev_eq ?_
      show _ = some (digitsOk [] && _)
      rw [show digitsOk [] = true from rfl, Bool.true_and]
      repeat' refine ite_r (fun _ => ?_) (fun _ => ?_)
      all_goals first
        | exact dec_no (by omega)
        | (refine eq_dec ?_; rw [decide_eq_true_iff]; omega)
  · refine Ev.step (fun q => by rw [impl_MenuOk_L2]) ?_
    refine ev_pos (by omega) (ev_pos (by omega) (ev_pos (by omega) ?_))
    have := u8_range x
    rw [byt_drop hx, w64_succ (by omega), w64 (by omega) (by omega)]
    refine ev_bind (impl_within_eq _ _ _) ?_
    by_cases h1 : 48 ≤ (x.toNat : Int) ∧ (x.toNat : Int) ≤ 57
    · refine ev_pos (decide_eq_true h1) (Ev.cast (h ()) ?_)
      rw [digitsOk_cons, decide_eq_true h1, Bool.true_and]
    · refine ev_neg (by simpa using h1) (Ev.cast ev_some ?_)
      rw [digitsOk_cons, decide_eq_false h1]; rfl
  · show _ = decide (MenuOkP a b n d s)
    rw [Bool.eq_iff_iff]
    refine Iff.trans ?_ decide_eq_true_iff.symm
    rw [Bool.and_eq_true]
    unfold MenuOkP
    by_cases h1 : a = 1
    · rw [if_pos h1, decide_eq_true_iff]
      constructor
      · rintro ⟨h2, h3, h4, h5, h6⟩; exact ⟨h2, by omega, by omega, by omega, by omega, fun _ => ⟨h3, h4, h5, h6⟩⟩
      · rintro ⟨h2, _, _, _, _, h3⟩; exact ⟨h2, h3 h1⟩
    · rw [if_neg h1, decide_eq_true_iff]
      constructor
      · rintro ⟨h2, h3, h4, h5, h6⟩; exact ⟨h2, by omega, h4, h5, h6, fun q => absurd q h1⟩
      · rintro ⟨h2, h3, h4, h5, h6, _⟩; exact ⟨h2, by omega, h4, h5, h6⟩
/- impl_Press -/
theorem impl_Press_eq (a : Int) (b : Bool) (n d : Int) (s : ByteArray) (c : Int) (hs : s.size ≤ 1048580) : g_impl_Press ((a, b, n, d, s), c) = some (press (a, b, n, d, s) c) := by
  unfold g_impl_Press impl_Press_ press
  simp only [impl_MenuOk_eq a b n d s hs, impl_Menu__enter_eq a b n d s hs, impl_MenuNew_eq, impl_within_eq, Option.bind_some, decide_eq_true_eq, wr8, size_bstr]
  refine ite_r (fun h => ?_) (fun h => ?_)
  · rw [if_pos h]
    refine ite_r (fun h1 => ?_) (fun h1 => ?_)
    · rw [if_pos h1]
      unfold g_impl_Menu__top impl_Menu__top_
      simp only []
      repeat' split
      all_goals rfl
    · rw [if_neg h1]
      refine ite_r (fun h2 => by rw [if_pos h2]) (fun h2 => ?_)
      rw [if_neg h2]
      refine ite_r (fun h3 => by rw [if_pos h3]) (fun h3 => ?_)
      rw [if_neg h3]
      refine ite_r (fun h4 => ?_) (fun h4 => ?_)
      · refine ite_r (fun h5 => ?_) (fun h5 => ?_)
        · rw [if_pos (show ((s.size + List.length [c % 256] : Nat) : Int) ≤ 9223372036854775807 by simp only [List.length_singleton]; omega), if_pos (show (48 ≤ c ∧ c ≤ 57) ∧ s.size < 4 from ⟨h4, by omega⟩)]
        · rw [if_neg (show ¬ ((48 ≤ c ∧ c ≤ 57) ∧ s.size < 4) from fun q => h5 (by omega))]
      · rw [if_neg (show ¬ ((48 ≤ c ∧ c ≤ 57) ∧ s.size < 4) from fun q => h4 q.1)]
  · rw [if_neg h]
/- laws_toMenu -/
theorem laws_toMenu_eq (m : Menu) : g_laws_toMenu m = some m := rfl
/- spec_l17Number -/
theorem spec_l17Number_eq (s : ByteArray) (hs : s.size ≤ 1048580) : g_spec_l17Number s = some (num s) := by
  refine evG_eq ?_
  unfold spec_l17Number_ num
  refine bytes_loop s (fun k z i => spec_l17Number_L3 k (s, z, i, ())) numF (fun z => ?_) (fun i z x rest hx hi h => ?_) 0
  · refine Ev.step (fun q => by rw [spec_l17Number_L3]) ?_
    exact ev_neg (by omega) ev_some
  · refine Ev.step (fun q => by rw [spec_l17Number_L3]) ?_
    refine ev_pos (by omega) (ev_pos (by omega) (ev_pos (by omega) ?_))
    have e : wrap64 (wr .u8 ((x.toNat : Int) - 48)) = ((x.toNat : Int) - 48) % 256 := by rw [wr8]; exact w64 (by omega) (by omega)
    rw [byt_drop hx, w64_succ (by omega), e]
    exact h _
/- spec_MenuOk -/
theorem spec_MenuOk_eq (a : Int) (b : Bool) (n d : Int) (s : ByteArray) (hs : s.size ≤ 1048580) : g_spec_MenuOk (a, b, n, d, s) = some (menuOk (a, b, n, d, s)) := by
  refine evG_eq ?_
  show Ev _ (decide (MenuOkP a b n d s))
  unfold spec_MenuOk_
  have hloop : Ev (fun k => spec_MenuOk_L4 (fun _ => g_spec_l01In) k (0, a, b, n, d, s, ())) (digitsOk (bl s) && decide (a = 1 → s.size = 0 ∧ b = false ∧ n = 0 ∧ d = 0)) := by
    refine bytes_loop s (fun k (_ : Unit) i => spec_MenuOk_L4 (fun _ => g_spec_l01In) k (i, a, b, n, d, s, ())) (fun r _ => digitsOk r && decide (a = 1 → s.size = 0 ∧ b = false ∧ n = 0 ∧ d = 0)) (fun _ => ?_) (fun i _ x rest hx hi h => ?_) ()
    · refine Ev.step (fun q => by rw [spec_MenuOk_L4]) ?_
      refine ev_neg (by omega) (ev_eq ?_)
      show _ = some (digitsOk [] && _)
      rw [show digitsOk [] = true from rfl, Bool.true_and]
      simp only [eq_empty]
      cases b with
      | false =>
        repeat' refine ite_r (fun _ => ?_) (fun _ => ?_)
        all_goals first
          | exact absurd (by assumption) Bool.false_ne_true
          | exact dec_yes (fun q => by first | (exfalso; omega) | exact ⟨by omega, rfl, by omega, by omega⟩)
          | exact dec_no (fun q => by have := q (by omega); omega)
          | (refine eq_dec ?_; rw [decide_eq_true_iff]; exact ⟨fun h q => ⟨by omega, rfl, by omega, h⟩, fun q => (q (by omega)).2.2.2⟩)
      | true =>
        repeat' refine ite_r (fun _ => ?_) (fun _ => ?_)
        all_goals first
          | exact absurd rfl (by assumption)
          | exact dec_yes (fun q => by exfalso; omega)
          | exact dec_no (fun q => by have := (q (by omega)).2.1; cases this)
    · refine Ev.step (fun q => by rw [spec_MenuOk_L4]) ?_
      refine ev_pos (by omega) (ev_pos (by omega) (ev_pos (by omega) ?_))
      rw [byt_drop hx, w64_succ (by omega)]
      by_cases h1 : (x.toNat : Int) < 48
      · refine ev_pos h1 (Ev.cast ev_some ?_)
        rw [digitsOk_cons, decide_eq_false (p := 48 ≤ (x.toNat : Int) ∧ (x.toNat : Int) ≤ 57) (by omega)]; rfl
      · refine ev_neg h1 (ev_pos (by omega) (ev_pos (by omega) ?_))
        by_cases h2 : 57 < (x.toNat : Int)
        · refine ev_pos h2 (Ev.cast ev_some ?_)
          rw [digitsOk_cons, decide_eq_false (p := 48 ≤ (x.toNat : Int) ∧ (x.toNat : Int) ≤ 57) (by omega)]; rfl
        · refine ev_neg h2 (Ev.cast (h ()) ?_)
          rw [digitsOk_cons, decide_eq_true (p := 48 ≤ (x.toNat : Int) ∧ (x.toNat : Int) ≤ 57) (by omega), Bool.true_and]
  have no : ¬ ((1 ≤ a ∧ a ≤ 4) ∧ (0 ≤ n ∧ n ≤ 9999) ∧ (0 ≤ d ∧ d ≤ 9999) ∧ s.size ≤ 4) → false = decide (MenuOkP a b n d s) := fun h => by
    rw [decide_eq_false]
    unfold MenuOkP
    exact fun q => h ⟨q.2.1, q.2.2.1, q.2.2.2.1, q.2.2.2.2.1⟩
  refine ev_bind (spec_l01In_eq _ _ _) (ev_dom (fun h1 => ?_) (fun h1 => Ev.cast ev_some (no fun q => h1 (decide_eq_true q.1))))
  refine ev_bind (spec_l01In_eq _ _ _) (ev_dom (fun h2 => ?_) (fun h2 => Ev.cast ev_some (no fun q => h2 (decide_eq_true q.2.1))))
  refine ev_bind (spec_l01In_eq _ _ _) (ev_dom (fun h3 => ?_) (fun h3 => Ev.cast ev_some (no fun q => h3 (decide_eq_true q.2.2.1))))
  refine ev_dom (fun h4 => Ev.cast ev_some (no fun q => by omega)) (fun h4 => Ev.cast hloop ?_)
  rw [decide_eq_true_iff] at h1 h2 h3
  rw [Bool.eq_iff_iff]
  refine Iff.trans ?_ decide_eq_true_iff.symm
  rw [Bool.and_eq_true, decide_eq_true_iff]
  unfold MenuOkP
  constructor
  · rintro ⟨q1, q2⟩; exact ⟨q1, h1, h2, h3, by omega, q2⟩
  · rintro ⟨q1, _, _, _, _, q2⟩; exact ⟨q1, q2⟩
/- spec_Press -/
theorem spec_Press_eq (a : Int) (b : Bool) (n d : Int) (s : ByteArray) (c : Int) (hs : s.size ≤ 1048580) : g_spec_Press ((a, b, n, d, s), c) = some (press (a, b, n, d, s) c) := by
  unfold g_spec_Press spec_Press_ press
  simp only [spec_MenuOk_eq a b n d s hs, spec_l17Number_eq s hs, spec_OrderOk_eq, spec_MenuNew_eq, Option.bind_some, wr8, size_bstr]
  have enter : (if a = 2 then some (((3, b, num s, d, ⟨#[]⟩) : Menu), ((0, 0, 0, 0) : Order), false)
        else if a = 3 then some ((4, b, n, num s, ⟨#[]⟩), (0, 0, 0, 0), false)
        else if b = true then (if orderOk (2, 0, 0, num s) = true then some (menuNew, (2, 0, 0, num s), true) else some (menuNew, (0, 0, 0, 0), false))
        else (if orderOk (1, n, d, num s) = true then some (menuNew, (1, n, d, num s), true) else some (menuNew, (0, 0, 0, 0), false))) = some (if a = 2 then ((3, b, num s, d, ⟨#[]⟩), (0, 0, 0, 0), false)
        else if a = 3 then ((4, b, n, num s, ⟨#[]⟩), (0, 0, 0, 0), false)
        else if b = true then sent 2 0 0 (num s)
        else sent 1 n d (num s)) := by
    unfold sent
    repeat' split
    all_goals rfl
  refine ite_r (fun h => ?_) (fun h => ?_)
  · rw [if_pos h]
    refine ite_r (fun h1 => ?_) (fun h1 => ?_)
    · rw [if_pos h1]
      unfold g_spec_l17Top spec_l17Top_
      simp only []
      repeat' split
      all_goals rfl
    · rw [if_neg h1]
      refine ite_r (fun h48 => ?_) (fun h48 => ?_)
      · refine ite_r (fun h57 => ?_) (fun h57 => ?_)
        · rw [if_neg (show ¬ c = 10 by omega), if_neg (show ¬ c = 99 by omega)]
          refine ite_r (fun h5 => ?_) (fun h5 => ?_)
          · rw [if_pos (show ((s.size + List.length [c % 256] : Nat) : Int) ≤ 9223372036854775807 by simp only [List.length_singleton]; omega), if_pos (show (48 ≤ c ∧ c ≤ 57) ∧ s.size < 4 from ⟨⟨h48, h57⟩, by omega⟩)]
          · rw [if_neg (show ¬ ((48 ≤ c ∧ c ≤ 57) ∧ s.size < 4) from fun q => h5 (by omega))]
        · refine ite_r (fun h99 => ?_) (fun h99 => ?_)
          · rw [if_neg (show ¬ c = 10 by omega), if_pos h99]
          · refine ite_r (fun h10 => ?_) (fun h10 => ?_)
            · omega
            · rw [if_neg h10, if_neg h99, if_neg (show ¬ ((48 ≤ c ∧ c ≤ 57) ∧ s.size < 4) from fun q => h57 q.1.2)]
      · refine ite_r (fun h99 => ?_) (fun h99 => ?_)
        · omega
        · refine ite_r (fun h10 => ?_) (fun h10 => ?_)
          · rw [if_pos h10]
            exact enter
          · rw [if_neg h10, if_neg h99, if_neg (show ¬ ((48 ≤ c ∧ c ≤ 57) ∧ s.size < 4) from fun q => h48 q.1.1)]
  · rw [if_neg h]
/- laws_szMenu -/
theorem laws_szMenu_eq (m : Menu) (z : Int) (hs : m.2.2.2.2.size ≤ maxLen) (hz : 0 ≤ z ∧ z ≤ 1048576) : g_laws_szMenu (m, z) = some (if (m.2.2.2.2.size : Int) ≤ z then z - (m.2.2.2.2.size : Int) else -1) := by
  obtain ⟨a, b, n, d, s⟩ := m
  rw [maxLen_eq] at hs
  unfold g_laws_szMenu laws_szMenu_
  simp only [] at hs ⊢
  rw [w64 (by omega) (by omega)]
  by_cases h : (s.size : Int) ≤ z
  · rw [if_neg (by omega), if_pos h]
  · rw [if_pos (by omega), if_neg h]
/- impl_PressAll -/
theorem impl_PressAll_eq (m : Menu) (s : ByteArray) (hm : m.2.2.2.2.size ≤ 1048580) (hs : s.size ≤ 1048580) : g_impl_PressAll (m, s) = some (pressAll m s) := by
  refine evG_eq ?_
  have key : ∀ (z8 : Int) (z9 : Bool) (z10 z11 : Int) (z12 : ByteArray) (i : Nat), i ≤ (bl s).length → ∀ q : Menu × List Order, q.1.2.2.2.2.size ≤ 1048580 → q.2.length ≤ i →
      Ev (fun k => impl_PressAll_L3 (fun _ => g_impl_Press) k (s, (s.size : Int), (i : Int), q.1.1, q.1.2.1, q.1.2.2.1, q.1.2.2.2.1, q.1.2.2.2.2, z8, z9, z10, z11, z12, q.2, ())) (pressL ((bl s).drop i) q.1 q.2) := by
    intro z8 z9 z10 z11 z12 i hi
    obtain ⟨d, hd⟩ : ∃ d, d = (bl s).length - i := ⟨_, rfl⟩
    have hbl := bl_len s
    induction d generalizing i with
    | zero =>
      intro q _ _
      have e : i = (bl s).length := by omega
      rw [List.drop_of_length_le (by omega)]
      refine Ev.step (fun w => by rw [impl_PressAll_L3]) ?_
      exact ev_neg (by omega) ev_some
    | succ d ih =>
      intro q h1 h2
      have hlt : i < (bl s).length := by omega
      have hc : (bl s).drop i = (bl s)[i] :: (bl s).drop (i + 1) := List.drop_eq_getElem_cons hlt
      have hx := u8_range ((bl s)[i])
      rw [hc]
      refine Ev.step (fun q => by rw [impl_PressAll_L3]) ?_
      refine ev_pos (by omega) (ev_pos (by omega) (ev_pos (by omega) ?_))
      rw [byt_drop hc, w64 (n := (((bl s)[i]).toNat : Int)) (by omega) (by omega), w64_succ (by omega)]
      refine ev_bind (impl_Press_eq _ _ _ _ _ _ h1) ?_
      have hp := press_digits q.1 (((bl s)[i]).toNat : Int) h1
      unfold pressL
      refine ev_dom (fun h => ?_) (fun h => ?_)
      · rw [if_pos h]
        refine ev_pos (by simp only [List.length_singleton]; omega) ?_
        exact ih (i + 1) (by omega) (by omega) ((press q.1 (((bl s)[i]).toNat : Int)).1, q.2 ++ [(press q.1 (((bl s)[i]).toNat : Int)).2.1]) hp (by simp only [List.length_append, List.length_singleton]; omega)
      · rw [if_neg h]
        exact ih (i + 1) (by omega) (by omega) ((press q.1 (((bl s)[i]).toNat : Int)).1, q.2) hp (by show q.2.length ≤ i + 1; omega)
  obtain ⟨a, b, n, d, t⟩ := m
  exact key 0 false 0 0 ⟨#[]⟩ 0 (by omega) ((a, b, n, d, t), []) hm (Nat.le_refl _)
/- spec_PressAll -/
theorem spec_PressAll_eq (m : Menu) (s : ByteArray) (hm : m.2.2.2.2.size ≤ 1048580) (hs : s.size ≤ 1048580) : g_spec_PressAll (m, s) = some (pressAll m s) := by
  refine evG_eq ?_
  have key : ∀ (z8 : Int) (z9 : Bool) (z10 z11 : Int) (z12 : ByteArray) (i : Nat), i ≤ (bl s).length → ∀ q : Menu × List Order, q.1.2.2.2.2.size ≤ 1048580 → q.2.length ≤ i →
      Ev (fun k => spec_PressAll_L3 (fun _ => g_spec_Press) k (s, (i : Int), q.1.1, q.1.2.1, q.1.2.2.1, q.1.2.2.2.1, q.1.2.2.2.2, z8, z9, z10, z11, z12, q.2, ())) (pressL ((bl s).drop i) q.1 q.2) := by
    intro z8 z9 z10 z11 z12 i hi
    obtain ⟨d, hd⟩ : ∃ d, d = (bl s).length - i := ⟨_, rfl⟩
    have hbl := bl_len s
    induction d generalizing i with
    | zero =>
      intro q _ _
      have e : i = (bl s).length := by omega
      rw [List.drop_of_length_le (by omega)]
      refine Ev.step (fun w => by rw [spec_PressAll_L3]) ?_
      exact ev_neg (by omega) ev_some
    | succ d ih =>
      intro q h1 h2
      have hlt : i < (bl s).length := by omega
      have hc : (bl s).drop i = (bl s)[i] :: (bl s).drop (i + 1) := List.drop_eq_getElem_cons hlt
      have hx := u8_range ((bl s)[i])
      rw [hc]
      refine Ev.step (fun q => by rw [spec_PressAll_L3]) ?_
      refine ev_pos (by omega) (ev_pos (by omega) (ev_pos (by omega) ?_))
      rw [byt_drop hc, w64 (n := (((bl s)[i]).toNat : Int)) (by omega) (by omega), w64_succ (by omega)]
      refine ev_bind (spec_Press_eq _ _ _ _ _ _ h1) ?_
      have hp := press_digits q.1 (((bl s)[i]).toNat : Int) h1
      unfold pressL
      refine ev_dom (fun h => ?_) (fun h => ?_)
      · rw [if_pos h]
        refine ev_pos (by simp only [List.length_singleton]; omega) ?_
        exact ih (i + 1) (by omega) (by omega) ((press q.1 (((bl s)[i]).toNat : Int)).1, q.2 ++ [(press q.1 (((bl s)[i]).toNat : Int)).2.1]) hp (by simp only [List.length_append, List.length_singleton]; omega)
      · rw [if_neg h]
        exact ih (i + 1) (by omega) (by omega) ((press q.1 (((bl s)[i]).toNat : Int)).1, q.2) hp (by show q.2.length ≤ i + 1; omega)
  obtain ⟨a, b, n, d, t⟩ := m
  exact key 0 false 0 0 ⟨#[]⟩ 0 (by omega) ((a, b, n, d, t), []) hm (Nat.le_refl _)
/- laws_heldOrderS -/
theorem laws_heldOrderS_eq (n : Nat) (k : Int) (hn : n ≤ 2000000) (hk : 0 ≤ k ∧ k ≤ 100000000) : g_laws_heldOrderS (marksO k n, k) = some (k + 4 * (n : Int)) := by
  refine evG_eq ?_
  unfold laws_heldOrderS_
  have hlen := marksO_length k n
  have key : ∀ (d j : Nat), j + d = n → Ev (fun q => laws_heldOrderS_L2 q (k + 4 * (j : Int), (j : Int), marksO k n, ())) (k + 4 * (n : Int)) := by
    intro d
    induction d with
    | zero =>
      intro j hj
      have e : j = n := by omega
      subst e
      exact Ev.step (fun w => by rw [laws_heldOrderS_L2]) (ev_neg (by omega) ev_some)
    | succ d ih =>
      intro j hj
      have hlt : j < (marksO k n).length := by omega
      obtain ⟨e1, e2, e3, e4⟩ := w3 (k := k + 4 * (j : Int)) (by omega) (by omega)
      refine Ev.step (fun w => by rw [laws_heldOrderS_L2]) ?_
      rw [getD_lt hlt, marksO_get k (by omega), w64_succ (by omega), e4, e3, e2, e1]
      have := ih (j + 1) (by omega)
      rw [show k + 4 * ((j + 1 : Nat) : Int) = k + 4 * (j : Int) + 4 by omega] at this
      exact ev_pos (by omega) (ev_pos (by omega) (ev_pos (by omega) (ev_pos rfl (ev_pos (by omega) (ev_pos (by omega) (ev_pos rfl (ev_pos (by omega) (ev_pos (by omega) (ev_pos rfl (ev_pos (by omega) (ev_pos (by omega) (ev_pos rfl this))))))))))))
  have := key n 0 (by omega)
  rw [show k + 4 * ((0 : Nat) : Int) = k by omega] at this
  exact this
/- laws_eqOrderS -/
theorem laws_eqOrderS_refl (l : List Order) (hl : l.length ≤ 9223372036854775806) : g_laws_eqOrderS (l, l) = some true := by
  refine evG_eq ?_
  unfold laws_eqOrderS_
  refine ev_pos rfl ?_
  refine list_loop l (fun k (_ : Unit) i => laws_eqOrderS_L4 (fun _ => g_laws_eqOrder) k (i, l, l, ())) (fun _ _ => true) (fun _ => ?_) (fun i _ x rest hx hi h => ?_) 0 (by omega) ()
  · refine Ev.step (fun q => by rw [laws_eqOrderS_L4]) ?_
    exact ev_neg (by omega) ev_some
  · refine Ev.step (fun q => by rw [laws_eqOrderS_L4]) ?_
    refine ev_pos (by omega) (ev_pos (by omega) (ev_pos (by omega) (ev_pos (by omega) (ev_pos (by omega) (ev_bind (laws_eqOrder_refl _) (ev_pos rfl ?_))))))
    rw [w64_succ (by omega)]
    exact h ()
/- laws_markOrderS -/
theorem laws_markOrderS_eq (l : List Order) (k : Int) (hl : l.length ≤ 2000000) (hk : 0 ≤ k ∧ k ≤ 100000000) : g_laws_markOrderS (l, k) = some (k + 4 * (l.length : Int), marksO k l.length) := by
  refine evG_eq ?_
  unfold laws_markOrderS_
  have key : ∀ (d j : Nat), j + d = l.length → ∀ out : List Order, out = filled (fun (i : Nat) => (k + 4 * (i : Int), k + 4 * (i : Int) + 1, k + 4 * (i : Int) + 2, k + 4 * (i : Int) + 3)) l j → Ev (fun n => laws_markOrderS_L2 n (k + 4 * (j : Int), (j : Int), out, ())) (k + 4 * (l.length : Int), marksO k l.length) := by
    intro d
    induction d with
    | zero =>
      intro j hj out ho
      have e : j = l.length := by omega
      subst e
      have hlen : out.length = l.length := by rw [ho]; exact filled_len _ _ (by omega)
      refine Ev.step (fun w => by rw [laws_markOrderS_L2]) (ev_neg (by omega) (ev_eq ?_))
      rw [ho, filled_all]
      rfl
    | succ d ih =>
      intro j hj out ho
      have hlen : out.length = l.length := by rw [ho]; exact filled_len _ _ (by omega)
      obtain ⟨e1, e2, e3, e4⟩ := w3 (k := k + 4 * (j : Int)) (by omega) (by omega)
      have hlt : j < out.length := by omega
      refine Ev.step (fun w => by rw [laws_markOrderS_L2]) ?_
      rw [w64_succ (by omega), e4, e3, e2, e1]
      simp only [Int.toNat_natCast, List.set_set, getD_set_self hlt, List.length_set]
      have := ih (j + 1) (by omega) (out.set j (k + 4 * (j : Int), k + 4 * (j : Int) + 1, k + 4 * (j : Int) + 2, k + 4 * (j : Int) + 3)) (by rw [ho]; exact filled_set (fun (i : Nat) => (k + 4 * (i : Int), k + 4 * (i : Int) + 1, k + 4 * (i : Int) + 2, k + 4 * (i : Int) + 3)) _ (by omega))
      rw [show k + 4 * ((j + 1 : Nat) : Int) = k + 4 * (j : Int) + 4 by omega] at this
      exact ev_pos (by omega) (ev_pos (by omega) (ev_pos (by omega) (ev_pos (by omega) (ev_pos (by omega) (ev_pos (by omega) (ev_pos (by omega) (ev_pos (by omega) (ev_pos (by omega) this))))))))
  have := key l.length 0 (by omega) l rfl
  rw [show k + 4 * ((0 : Nat) : Int) = k by omega] at this
  exact this
/- laws_FnExactPressAll -/
-- @hx
theorem t_FnExactPressAll (x : Menu × ByteArray) (hx : AKs.good [.agg [.int .i64, .bool, .int .i64, .int .i64, .str], .c .str] x) : g_laws_FnExactPressAll x = some true := by
  obtain ⟨⟨a, b, n, d, s⟩, t⟩ := x
  have hs : s.size ≤ maxLen := hx.1.2.2.2.2
  clear hx
  unfold g_laws_FnExactPressAll laws_FnExactPressAll_
  simp only []
  by_cases ht : (1048576 : Int) < (t.size : Int)
  · rw [if_pos ht]
  rw [if_neg ht]
  simp only [laws_szMenu_eq (a, b, n, d, s) 1048576 hs (by omega), laws_toMenu_eq, Option.bind_some]
  by_cases h : (s.size : Int) ≤ 1048576
  · rw [if_pos h, if_neg (by omega)]
    have e1 := spec_PressAll_eq (a, b, n, d, s) t (by show s.size ≤ _; omega) (by omega)
    have e2 := impl_PressAll_eq (a, b, n, d, s) t (by show s.size ≤ _; omega) (by omega)
    have hl := pressAll_len (a, b, n, d, s) t
    have e3 := laws_eqMenu_refl (pressAll (a, b, n, d, s) t).1
    have e4 := laws_eqOrderS_refl (pressAll (a, b, n, d, s) t).2 (by omega)
    have e5 := laws_markOrderS_eq (pressAll (a, b, n, d, s) t).2 1 (by omega) (by omega)
    have e6 := laws_heldOrderS_eq (pressAll (a, b, n, d, s) t).2.length 1 (by omega) (by omega)
    simp only [e1, e2, e3, e4, e5, e6, Option.bind_some, if_true, beq_self_eq_true]
    rw [if_neg (by omega)]
    try rw [if_neg (by omega)]
  · rw [if_neg h, if_pos (by omega)]
end Go.Sx.T
