/- Functions of the program as functions of Lean, and that the program keeps to them. -/
import Derived.Test.YtklcjpidbpplkaaFnTypedA0
set_option maxRecDepth 100000
set_option linter.unusedVariables false
set_option linter.unusedSimpArgs false
namespace Go.Proofs
end Go.Proofs
namespace Go.Sx.T
open Go Go.Sx Go.Proofs Go.RowKit
/- impl_within -/
theorem impl_within_eq (a b c : Int) : g_impl_within (a, b, c) = some (decide (b ≤ a ∧ a ≤ c)) := by
  show (if b ≤ a then some (decide (a ≤ c)) else some false) = _
  split
  · rename_i h; refine eq_dec ?_; rw [decide_eq_true_iff]; omega
  · rename_i h; exact dec_no (by omega)
/- impl_OrderOk -/
theorem impl_OrderOk_eq (o : Order) : g_impl_OrderOk o = some (orderOk o) := by
  obtain ⟨a, b, c, x⟩ := o
  show _ = some (decide (OrderOkP a b c x))
  unfold g_impl_OrderOk impl_OrderOk_
  simp only [impl_within_eq, Option.bind_some, decide_eq_true_eq, mn_eq]
  by_cases h : 1 ≤ c ∧ c ≤ 1000
  · have hw : wrap64 (3 * c) = 3 * c := w64 (by omega) (by omega)
    rw [hw]
    repeat' refine ite_r (fun _ => ?_) (fun _ => ?_)
    all_goals first
      | exact dec_no (by unfold OrderOkP; omega)
      | exact dec_yes (by unfold OrderOkP; omega)
      | (exfalso; omega)
      | (exfalso; simp_all; done)
      | (refine eq_dec ?_; simp only [Bool.and_eq_true, decide_eq_true_eq, decide_true, true_and]; unfold OrderOkP; omega)
  · simp only [h, if_false]
    repeat' refine ite_r (fun _ => ?_) (fun _ => ?_)
    all_goals first
      | exact dec_no (by unfold OrderOkP; omega)
      | exact dec_yes (by unfold OrderOkP; omega)
      | (exfalso; omega)
      | (exfalso; simp_all; done)
      | (refine eq_dec ?_; simp only [Bool.and_eq_true, decide_eq_true_eq, decide_true, true_and]; unfold OrderOkP; omega)
/- impl_MenuNew -/
theorem impl_MenuNew_eq : g_impl_MenuNew () = some menuNew := rfl
/- impl_typed -/
theorem impl_typed_eq (s : ByteArray) (hs : s.size ≤ 1048580) : g_impl_typed s = some (num s) := by
  refine evG_eq ?_
  unfold impl_typed_ num
  refine bytes_loop s (fun k z i => impl_typed_L3 k (s, z, (s.size : Int), i, ())) numF (fun z => ?_) (fun i z x rest hx hi h => ?_) 0
  · refine Ev.step (fun q => by rw [impl_typed_L3]) ?_
    exact ev_neg (by omega) ev_some
  · refine Ev.step (fun q => by rw [impl_typed_L3]) ?_
    refine ev_pos (by omega) (ev_pos (by omega) (ev_pos (by omega) ?_))
    have e : wrap64 (wr .u8 ((x.toNat : Int) - 48)) = ((x.toNat : Int) - 48) % 256 := by rw [wr8]; exact w64 (by omega) (by omega)
    rw [byt_drop hx, w64_succ (by omega), e]
    exact h _
/- impl_Menu__enter -/
theorem impl_Menu__enter_eq (a : Int) (b : Bool) (n d : Int) (s : ByteArray) (hs : s.size ≤ 1048580) : g_impl_Menu__enter (a, b, n, d, s) = some (if a = 2 then ((3, b, num s, d, ⟨#[]⟩), (0, 0, 0, 0), false)
        else if a = 3 then ((4, b, n, num s, ⟨#[]⟩), (0, 0, 0, 0), false)
        else if b = true then sent 2 0 0 (num s)
        else sent 1 n d (num s)) := by
  unfold g_impl_Menu__enter impl_Menu__enter_ sent
  simp only [impl_typed_eq s hs, impl_OrderOk_eq, impl_MenuNew_eq, Option.bind_some]
  repeat' split
  all_goals rfl
/- impl_MenuOk -/
theorem impl_MenuOk_eq (a : Int) (b : Bool) (n d : Int) (s : ByteArray) (hs : s.size ≤ 1048580) : g_impl_MenuOk (a, b, n, d, s) = some (menuOk (a, b, n, d, s)) := by
  refine evG_eq ?_
  unfold impl_MenuOk_
  refine Ev.cast (bytes_loop s (fun k (_ : Unit) i => impl_MenuOk_L2 (fun _ => g_impl_MenuNew) (fun _ => g_impl_within) k ((s.size : Int), i, a, b, n, d, s, ())) (fun r _ => digitsOk r && (if a = 1 then decide (s.size = 0 ∧ b = false ∧ n = 0 ∧ d = 0) else decide ((2 ≤ a ∧ a ≤ 4) ∧ (0 ≤ n ∧ n ≤ 9999) ∧ (0 ≤ d ∧ d ≤ 9999) ∧ s.size ≤ 4))) (fun _ => ?_) (fun i _ x rest hx hi h => ?_) ()) ?_
  · refine Ev.step (fun q => by rw [impl_MenuOk_L2]) ?_
    refine ev_neg (by omega) ?_
    by_cases h1 : a = 1
    · refine ev_pos h1 (ev_bind impl_MenuNew_eq (Ev.cast ev_some ?_))
      rw [if_pos h1]
      show (decide (a = 1) && ((b == false) && (decide (n = 0) && (decide (d = 0) && decide (s = ⟨#[]⟩))))) = (digitsOk [] && decide (s.size = 0 ∧ b = false ∧ n = 0 ∧ d = 0))
      rw [Bool.eq_iff_iff]
      simp only [Bool.and_eq_true, decide_eq_true_iff, beq_iff_eq, eq_empty]
      constructor
      · rintro ⟨_, h2, h3, h4, h5⟩; exact ⟨rfl, h5, h2, h3, h4⟩
      · rintro ⟨_, h5, h2, h3, h4⟩; exact ⟨h1, h2, h3, h4, h5⟩
    · refine ev_neg h1 ?_
      simp only [impl_within_eq, Option.bind_some, decide_eq_true_eq, if_neg h1]
      refine ev_eq ?_
      show _ = some (digitsOk [] && _)
      rw [show digitsOk [] = true from rfl, Bool.true_and]
      repeat' refine ite_r (fun _ => ?_) (fun _ => ?_)
      all_goals first
        | exact dec_no (by omega)
        | (refine eq_dec ?_; rw [decide_eq_true_iff]; omega)
  · refine Ev.step (fun q => by rw [impl_MenuOk_L2]) ?_
    refine ev_pos (by omega) (ev_pos (by omega) (ev_pos (by omega) ?_))
    have := u8_range x
    rw [byt_drop hx, w64_succ (by omega), w64 (by omega) (by omega)]
    refine ev_bind (impl_within_eq _ _ _) ?_
    by_cases h1 : 48 ≤ (x.toNat : Int) ∧ (x.toNat : Int) ≤ 57
    · refine ev_pos (decide_eq_true h1) (Ev.cast (h ()) ?_)
      rw [digitsOk_cons, decide_eq_true h1, Bool.true_and]
    · refine ev_neg (by simpa using h1) (Ev.cast ev_some ?_)
      rw [digitsOk_cons, decide_eq_false h1]; rfl
  · show _ = decide (MenuOkP a b n d s)
    rw [Bool.eq_iff_iff]
    refine Iff.trans ?_ decide_eq_true_iff.symm
    rw [Bool.and_eq_true]
    unfold MenuOkP
    by_cases h1 : a = 1
    · rw [if_pos h1, decide_eq_true_iff]
      constructor
      · rintro ⟨h2, h3, h4, h5, h6⟩; exact ⟨h2, by omega, by omega, by omega, by omega, fun _ => ⟨h3, h4, h5, h6⟩⟩
      · rintro ⟨h2, _, _, _, _, h3⟩; exact ⟨h2, h3 h1⟩
    · rw [if_neg h1, decide_eq_true_iff]
      constructor
      · rintro ⟨h2, h3, h4, h5, h6⟩; exact ⟨h2, by omega, h4, h5, h6, fun q => absurd q h1⟩
      · rintro ⟨h2, h3, h4, h5, h6, _⟩; exact ⟨h2, by omega, h4, h5, h6⟩
/- impl_Press -/
theorem impl_Press_eq (a : Int) (b : Bool) (n d : Int) (s : ByteArray) (c : Int) (hs : s.size ≤ 1048580) : g_impl_Press ((a, b, n, d, s), c) = some (press (a, b, n, d, s) c) := by
  unfold g_impl_Press impl_Press_ press
  simp only [impl_MenuOk_eq a b n d s hs, impl_Menu__enter_eq a b n d s hs, impl_MenuNew_eq, impl_within_eq, Option.bind_some, decide_eq_true_eq, wr8, size_bstr]
  refine ite_r (fun h => ?_) (fun h => ?_)
  · rw [if_pos h]
    refine ite_r (fun h1 => ?_) (fun h1 => ?_)
    · rw [if_pos h1]
      unfold g_impl_Menu__top impl_Menu__top_
      simp only []
      repeat' split
      all_goals rfl
    · rw [if_neg h1]
      refine ite_r (fun h2 => by rw [if_pos h2]) (fun h2 => ?_)
      rw [if_neg h2]
      refine ite_r (fun h3 => by rw [if_pos h3]) (fun h3 => ?_)
      rw [if_neg h3]
      refine ite_r (fun h4 => ?_) (fun h4 => ?_)
      · refine ite_r (fun h5 => ?_) (fun h5 => ?_)
        · rw [if_pos (show ((s.size + List.length [c % 256] : Nat) : Int) ≤ 9223372036854775807 by simp only [List.length_singleton]; omega), if_pos (show (48 ≤ c ∧ c ≤ 57) ∧ s.size < 4 from ⟨h4, by omega⟩)]
        · rw [if_neg (show ¬ ((48 ≤ c ∧ c ≤ 57) ∧ s.size < 4) from fun q => h5 (by omega))]
      · rw [if_neg (show ¬ ((48 ≤ c ∧ c ≤ 57) ∧ s.size < 4) from fun q => h4 q.1)]
  · rw [if_neg h]
/- impl_PressAll -/
theorem impl_PressAll_eq (m : Menu) (s : ByteArray) (hm : m.2.2.2.2.size ≤ 1048580) (hs : s.size ≤ 1048580) : g_impl_PressAll (m, s) = some (pressAll m s) := by
  refine evG_eq ?_
  have key : ∀ (z8 : Int) (z9 : Bool) (z10 z11 : Int) (z12 : ByteArray) (i : Nat), i ≤ (bl s).length → ∀ q : Menu × List Order, q.1.2.2.2.2.size ≤ 1048580 → q.2.length ≤ i →
      Ev (fun k => impl_PressAll_L3 (fun _ => g_impl_Press) k (s, (s.size : Int), (i : Int), q.1.1, q.1.2.1, q.1.2.2.1, q.1.2.2.2.1, q.1.2.2.2.2, z8, z9, z10, z11, z12, q.2, ())) (pressL ((bl s).drop i) q.1 q.2) := by
    intro z8 z9 z10 z11 z12 i hi
    obtain ⟨d, hd⟩ : ∃ d, d = (bl s).length - i := ⟨_, rfl⟩
    have hbl := bl_len s
    induction d generalizing i with
    | zero =>
      intro q _ _
      have e : i = (bl s).length := by omega
      rw [List.drop_of_length_le (by omega)]
      refine Ev.step (fun w => by rw [impl_PressAll_L3]) ?_
      exact ev_neg (by omega) ev_some
    | succ d ih =>
      intro q h1 h2
      have hlt : i < (bl s).length := by omega
      have hc : (bl s).drop i = (bl s)[i] :: (bl s).drop (i + 1) := List.drop_eq_getElem_cons hlt
      have hx := u8_range ((bl s)[i])
      rw [hc]
      refine Ev.step (fun q => by rw [impl_PressAll_L3]) ?_
      refine ev_pos (by omega) (ev_pos (by omega) (ev_pos (by omega) ?_))
      rw [byt_drop hc, w64 (n := (((bl s)[i]).toNat : Int)) (by omega) (by omega), w64_succ (by omega)]
      refine ev_bind (impl_Press_eq _ _ _ _ _ _ h1) ?_
      have hp := press_digits q.1 (((bl s)[i]).toNat : Int) h1
      unfold pressL
      refine ev_dom (fun h => ?_) (fun h => ?_)
      · rw [if_pos h]
        refine ev_pos (by simp only [List.length_singleton]; omega) ?_
        exact ih (i + 1) (by omega) (by omega) ((press q.1 (((bl s)[i]).toNat : Int)).1, q.2 ++ [(press q.1 (((bl s)[i]).toNat : Int)).2.1]) hp (by simp only [List.length_append, List.length_singleton]; omega)
      · rw [if_neg h]
        exact ih (i + 1) (by omega) (by omega) ((press q.1 (((bl s)[i]).toNat : Int)).1, q.2) hp (by show q.2.length ≤ i + 1; omega)
  obtain ⟨a, b, n, d, t⟩ := m
  exact key 0 false 0 0 ⟨#[]⟩ 0 (by omega) ((a, b, n, d, t), []) hm (Nat.le_refl _)
/- spec_l01Byte -/
theorem and255 (x : Int) : 0 ≤ iand .i64 x 255 ∧ iand .i64 x 255 ≤ 255 := by
  have e : iand .i64 x 255 = IntKind.i64.wrap (((BitVec.ofInt 64 x &&& BitVec.ofInt 64 255).toNat : Nat) : Int) := rfl
  have h : (BitVec.ofInt 64 x &&& BitVec.ofInt 64 255).toNat ≤ 255 := by
    rw [BitVec.toNat_and]
    exact Nat.le_trans Nat.and_le_right (by decide)
  rw [e, IntKind.wrap_i64]
  omega
theorem l01Byte_some (l : List Int) (i s : Int) (hl : l.length ≤ 1048576) (hi : 0 ≤ i) : ∃ b i' s', g_spec_l01Byte (l, i, s) = some (b, ((), i', s')) ∧ 0 ≤ b ∧ b ≤ 255 ∧ 0 ≤ i' := by
  unfold g_spec_l01Byte spec_l01Byte_
  simp only []
  rw [if_pos (by omega), if_pos (by omega)]
  by_cases h : i < (l.length : Int)
  · rw [if_pos h, if_pos hi, if_pos h, w64 (n := i + 1) (by omega) (by omega)]
    exact ⟨_, _, _, rfl, (and255 _).1, (and255 _).2, by omega⟩
  · rw [if_neg h]
    exact ⟨_, _, _, rfl, (and255 _).1, (and255 _).2, hi⟩
/- spec_l01Below -/
theorem l01Below_some (l : List Int) (i s n : Int) (hl : l.length ≤ 1048576) (hi : 0 ≤ i) (hn : 0 < n) : ∃ v i' s', g_spec_l01Below ((l, i, s), n) = some (v, ((), i', s')) ∧ 0 ≤ v ∧ v < n ∧ 0 ≤ i' := by
  unfold g_spec_l01Below spec_l01Below_
  simp only []
  rw [if_neg (by omega)]
  by_cases h : n ≤ 256
  · rw [if_pos h]
    obtain ⟨b, i1, s1, e, h1, h2, h3⟩ := l01Byte_some l i s hl hi
    rw [e, Option.bind_some, if_neg (by omega)]
    exact ⟨_, _, _, rfl, Int.tmod_nonneg _ h1, Int.tmod_lt_of_pos _ hn, h3⟩
  · rw [if_neg h]
    obtain ⟨b1, i1, s1, e1, h11, h12, h13⟩ := l01Byte_some l i s hl hi
    obtain ⟨b2, i2, s2, e2, h21, h22, h23⟩ := l01Byte_some l i1 s1 hl h13
    obtain ⟨b3, i3, s3, e3, h31, h32, h33⟩ := l01Byte_some l i2 s2 hl h23
    obtain ⟨b4, i4, s4, e4, h41, h42, h43⟩ := l01Byte_some l i3 s3 hl h33
    simp only [e1, e2, e3, e4, Option.bind_some]
    rw [if_neg (by omega)]
    refine ⟨_, _, _, rfl, Int.tmod_nonneg _ ?_, Int.tmod_lt_of_pos _ hn, h43⟩
    show 0 ≤ wrap64 ((wrap64 ((wrap64 ((wrap64 (b1 * 16777216)) + (wrap64 (b2 * 65536)))) + (wrap64 (b3 * 256)))) + b4)
    unfold wrap64; omega
/- spec_l01In -/
theorem spec_l01In_eq (a b c : Int) : g_spec_l01In (a, b, c) = some (decide (b ≤ a ∧ a ≤ c)) := by
  show (if b ≤ a then some (decide (a ≤ c)) else some false) = _
  split
  · rename_i h; refine eq_dec ?_; rw [decide_eq_true_iff]; omega
  · rename_i h; exact dec_no (by omega)
/- spec_OrderOk -/
theorem spec_OrderOk_eq (o : Order) : g_spec_OrderOk o = some (orderOk o) := by
  obtain ⟨a, b, c, x⟩ := o
  show _ = some (decide (OrderOkP a b c x))
  unfold g_spec_OrderOk spec_OrderOk_
  simp only [spec_l01In_eq, Option.bind_some, decide_eq_true_eq, mn_eq]
  by_cases h : 1 ≤ c ∧ c ≤ 1000
  · have hw : wrap64 (3 * c) = 3 * c := w64 (by omega) (by omega)
    rw [hw]
    repeat' refine ite_r (fun _ => ?_) (fun _ => ?_)
    all_goals first
      | exact dec_no (by unfold OrderOkP; omega)
      | exact dec_yes (by unfold OrderOkP; omega)
      | (exfalso; omega)
      | (exfalso; simp_all; done)
      | (refine eq_dec ?_; simp only [Bool.and_eq_true, decide_eq_true_eq, decide_true, true_and]; unfold OrderOkP; omega)
  · simp only [h, if_false]
    repeat' refine ite_r (fun _ => ?_) (fun _ => ?_)
    all_goals first
      | exact dec_no (by unfold OrderOkP; omega)
      | exact dec_yes (by unfold OrderOkP; omega)
      | (exfalso; omega)
      | (exfalso; simp_all; done)
      | (refine eq_dec ?_; simp only [Bool.and_eq_true, decide_eq_true_eq, decide_true, true_and]; unfold OrderOkP; omega)
/- spec_l01New -/
theorem l01New_ev (l : List Int) (hl : l.length ≤ 1048576) : ∃ x, g_spec_l01New l = some ((), 0, x) := by
  have key : ∀ (d : Nat) (i : Nat), l.length = i + d → ∀ x, ∃ y, Ev (fun k => spec_l01New_L3 k (x, (i : Int), l, ())) ((), (0 : Int), y) := by
    intro d
    induction d with
    | zero =>
      intro i hi x
      exact ⟨x, Ev.step (fun q => by rw [spec_l01New_L3]) (ev_neg (by omega) ev_some)⟩
    | succ d ih =>
      intro i hi x
      by_cases h4 : (i : Int) < 4000
      · obtain ⟨y, hy⟩ := ih (i + 1) (by omega) _
        refine ⟨y, Ev.step (fun q => by rw [spec_l01New_L3]) (ev_pos (by omega) (ev_pos h4 (ev_pos (by omega) (ev_pos (by omega) ?_))))⟩
        rw [w64_succ (by omega)]
        exact hy
      · exact ⟨x, Ev.step (fun q => by rw [spec_l01New_L3]) (ev_pos (by omega) (ev_neg h4 ev_some))⟩
  obtain ⟨y, hy⟩ := key l.length 0 (by omega) _
  exact ⟨y, evG_eq hy⟩
/- laws_big -/
theorem laws_big_eq (l : List Int) : g_laws_big l = some (decide (1048576 < (l.length : Int))) := rfl
/- spec_DrawPlaces -/
theorem spec_DrawPlaces_some (code : List Int) (hl : code.length ≤ 1048576) : ∃ q, g_spec_DrawPlaces code = some q ∧ q.length = 12 ∧ ∀ x ∈ q, 0 ≤ x ∧ x < 10000 := by
  have key : ∀ (d n : Nat), n + d = 12 → ∀ (i h : Int) (q : List Int), 0 ≤ i → q.length = n → (∀ x ∈ q, 0 ≤ x ∧ x < 10000) →
      ∃ q', Ev (fun k => spec_DrawPlaces_L5 (fun _ => g_spec_l01Below) (fun _ => g_spec_l01Byte) (fun _ => g_spec_l01New) k ((n : Int), code, i, h, q, ())) q' ∧ q'.length = 12 ∧ ∀ x ∈ q', 0 ≤ x ∧ x < 10000 := by
    intro d
    induction d with
    | zero =>
      intro n hn i h q hi hq hx
      exact ⟨q, Ev.step (fun q => by rw [spec_DrawPlaces_L5]) (ev_neg (by omega) ev_some), by omega, hx⟩
    | succ d ih =>
      intro n hn i h q hi hq hx
      obtain ⟨v, i', s', e, h1, h2, h3⟩ := l01Below_some code i h 10000 hl hi (by omega)
      obtain ⟨q', h4, h5⟩ := ih (n + 1) (by omega) i' s' (q ++ [v]) h3 (by simp [hq]) (fun x hx' => by
        rcases List.mem_append.1 hx' with hx' | hx'
        · exact hx x hx'
        · simp at hx'; subst hx'; exact ⟨h1, h2⟩)
      refine ⟨q', Ev.step (fun q => by rw [spec_DrawPlaces_L5]) (ev_pos (by omega) (ev_bind e (ev_pos ?_ ?_))), h5⟩
      · simp only [List.length_singleton, hq]; omega
      · rw [w64_succ (by omega)]
        exact h4
  obtain ⟨x, hn⟩ := l01New_ev code hl
  obtain ⟨b, i', s', e, _, _, h3⟩ := l01Byte_some code 0 x hl (by omega)
  obtain ⟨q, h4, h5⟩ := key 12 0 rfl i' s' [] h3 rfl (fun x hx => by cases hx)
  refine ⟨q, evG_eq ?_, h5⟩
  unfold spec_DrawPlaces_
  exact ev_bind hn (ev_bind e h4)
/- spec_l01Figure -/
theorem spec_l01Figure_eq (m : Nat) (h : m < 10) : g_spec_l01Figure (m : Int) = some ((48 + m : Nat) : Int) := by
  unfold g_spec_l01Figure spec_l01Figure_
  have c : (m : Int) < 10 := by omega
  simp only [c, if_true]
  have e1 : wrap64 (48 + (m : Int)) = ((48 + m : Nat) : Int) := by
    rw [w64 (by omega) (by omega)]; omega
  have e2 : wr .u8 ((48 + m : Nat) : Int) = ((48 + m : Nat) : Int) := by rw [wr8]; omega
  rw [e1, e2]
/- spec_Decimal -/
theorem bstr_bn (x : Nat) : bstr [(x : Int)] = bn [x] := rfl
theorem Decimal_step (m : Nat) (l : List Nat) (r : ByteArray) (h0 : 0 < m) (hm : m < 10000) (hl : l.length ≤ 100)
    (h : Ev (fun k => spec_Decimal_L5 (fun _ => g_spec_l01Figure) k (((m / 10 : Nat) : Int), false, bn ((48 + m % 10) :: l), ())) r) :
    Ev (fun k => spec_Decimal_L5 (fun _ => g_spec_l01Figure) k ((m : Int), false, bn l, ())) r := by
  refine Ev.step (fun q => by rw [spec_Decimal_L5]) ?_
  have e1 : Int.tmod (m : Int) 10 = ((m % 10 : Nat) : Int) := by
    rw [Int.tmod_eq_emod_of_nonneg (by omega)]; omega
  have e2 : Int.tdiv (m : Int) 10 = ((m / 10 : Nat) : Int) := by
    rw [Int.tdiv_eq_ediv_of_nonneg (by omega)]; omega
  have e3 : wrap64 ((m / 10 : Nat) : Int) = ((m / 10 : Nat) : Int) := w64 (by omega) (by omega)
  have e4 : bstr [((48 + m % 10 : Nat) : Int)] ++ bn l = bn ((48 + m % 10) :: l) := by rw [bstr_bn, bn_append]; rfl
  rw [e1, e2, e3]
  refine ev_neg (by omega) (ev_neg (by omega) (ev_neg (by omega) (ev_bind (spec_l01Figure_eq (m % 10) (by omega)) (ev_pos ?_ (ev_neg (by omega) ?_)))))
  · rw [size_bstr, bn_size]
    simp only [List.length_singleton]
    omega
  · rw [e4]
    exact h
theorem Decimal_end (l : List Nat) : Ev (fun k => spec_Decimal_L5 (fun _ => g_spec_l01Figure) k (((0 : Nat) : Int), false, bn l, ())) (bn l) := by
  refine Ev.step (fun q => by rw [spec_Decimal_L5]) ?_
  exact ev_pos rfl (ev_neg (by simp) ev_some)
theorem spec_Decimal_eq (n : Nat) (hn : n < 10000) : g_spec_Decimal (n : Int) = some (decT n) := by
  refine evG_eq ?_
  unfold spec_Decimal_
  by_cases h0 : n = 0
  · subst h0
    exact ev_pos rfl (ev_eq rfl)
  · have c0 : ¬ (n : Int) = 0 := by omega
    have cf : decide ((n : Int) < 0) = false := decide_eq_false (by omega)
    refine ev_neg c0 ?_
    rw [cf]
    have e0 : (⟨#[]⟩ : ByteArray) = bn [] := rfl
    rw [e0]
    unfold decT decL
    by_cases h1 : n < 10
    · rw [if_pos h1]
      have q1 : n / 10 = 0 := by omega
      have q2 : n % 10 = n := by omega
      refine Decimal_step n [] _ (by omega) hn (by simp) ?_
      rw [q1, q2]
      exact Decimal_end _
    · rw [if_neg h1]
      refine Decimal_step n [] _ (by omega) hn (by simp) ?_
      by_cases h2 : n < 100
      · rw [if_pos h2]
        refine Decimal_step (n / 10) _ _ (by omega) (by omega) (by simp) ?_
        have q1 : n / 10 / 10 = 0 := by omega
        have q2 : n / 10 % 10 = n / 10 := by omega
        rw [q1, q2]
        exact Decimal_end _
      · rw [if_neg h2]
        refine Decimal_step (n / 10) _ _ (by omega) (by omega) (by simp) ?_
        by_cases h3 : n < 1000
        · rw [if_pos h3]
          refine Decimal_step (n / 10 / 10) _ _ (by omega) (by omega) (by simp) ?_
          have q1 : n / 10 / 10 / 10 = 0 := by omega
          have q2 : n / 10 / 10 % 10 = n / 100 := by omega
          rw [q1, q2]
          exact Decimal_end _
        · rw [if_neg h3]
          refine Decimal_step (n / 10 / 10) _ _ (by omega) (by omega) (by simp) ?_
          refine Decimal_step (n / 10 / 10 / 10) _ _ (by omega) (by omega) (by simp) ?_
          have q1 : n / 10 / 10 / 10 / 10 = 0 := by omega
          have q2 : n / 10 / 10 / 10 % 10 = n / 1000 := by omega
          have q3 : n / 10 / 10 % 10 = n / 100 % 10 := by omega
          rw [q1, q2, q3]
          exact Decimal_end _
/- laws_FnTyped -/
theorem bol (v : Nat) : orderOk (2, 0, 0, (v : Int)) = true ↔ (1 ≤ (v : Int) ∧ (v : Int) ≤ 100) := by
  show decide (OrderOkP 2 0 0 (v : Int)) = true ↔ _
  rw [decide_eq_true_eq]
  unfold OrderOkP
  omega
theorem tmod_nat {x : Int} (h : 0 ≤ x) (m : Nat) (hm : 0 < m) (hl : m ≤ 10000) : ∃ n : Nat, Int.tmod x (m : Int) = (n : Int) ∧ n < m := by
  have h1 := Int.tmod_nonneg (m : Int) h
  have h2 := Int.tmod_lt_of_pos x (b := (m : Int)) (by omega)
  exact ⟨(Int.tmod x (m : Int)).toNat, by omega, by omega⟩
theorem typed_bn (a : Nat) : (bn [a]).size = 1 := bn_size _
set_option maxHeartbeats 2000000 in
theorem t_FnTyped (S : List Int) : g_laws_FnTyped S = some true := by
  have main : Ev (fun _ : Nat => g_laws_FnTyped S) true := by
    unfold g_laws_FnTyped laws_FnTyped_
    refine ev_bind (laws_big_eq S) (ev_dom (fun _ => ev_some) (fun hb => ?_))
    have hS : S.length ≤ 1048576 := by
      rw [decide_eq_true_eq] at hb; omega
    obtain ⟨q, hq, h12, hx⟩ := spec_DrawPlaces_some S hS
    have at_ : ∀ i : Nat, i < 12 → 0 ≤ q.getD i 0 := fun i hi => by
      have : q.getD i 0 = q[i]'(by omega) := getD_lt (i := i) (by omega)
      rw [this]; exact (hx _ (List.getElem_mem _)).1
    refine ev_bind hq ?_
    obtain ⟨n1, g1, b1⟩ := tmod_nat (at_ 0 (by omega)) 1200 (by omega) (by omega)
    obtain ⟨n2, g2, b2⟩ := tmod_nat (at_ 1 (by omega)) 1200 (by omega) (by omega)
    obtain ⟨n3, g3, b3⟩ := tmod_nat (at_ 2 (by omega)) 6000 (by omega) (by omega)
    obtain ⟨v, hv, b4⟩ := tmod_nat (at_ 3 (by omega)) 200 (by omega) (by omega)
    have g1 : Int.tmod (List.getD q (Int.toNat 0) 0) 1200 = (n1 : Int) := g1
    have g2 : Int.tmod (List.getD q (Int.toNat 1) 0) 1200 = (n2 : Int) := g2
    have g3 : Int.tmod (List.getD q (Int.toNat 2) 0) 6000 = (n3 : Int) := g3
    have hv : Int.tmod (List.getD q (Int.toNat 3) 0) 200 = (v : Int) := hv
    have l0 : 0 < ((q.length : Nat) : Int) := by omega
    have l1 : 1 < ((q.length : Nat) : Int) := by omega
    have l2 : 2 < ((q.length : Nat) : Int) := by omega
    have l3 : 3 < ((q.length : Nat) : Int) := by omega
    clear at_ hx hb
    have k98 : (⟨#[98]⟩ : ByteArray) = bn [98] := rfl
    have k10 : (⟨#[10]⟩ : ByteArray) = bn [10] := rfl
    have k111 : (⟨#[111]⟩ : ByteArray) = bn [111] := rfl
    have k4 : (⟨#[98, 49, 50, 99]⟩ : ByteArray) = bn [98, 49, 50, 99] := rfl
    rw [k98, k10, k111, k4, g1, g2, g3]
    refine ev_pos (Nat.le_refl 0) (ev_pos l0 (ev_neg (by omega) (ev_pos (Nat.zero_le 1) (ev_pos l1 (ev_neg (by omega) (ev_pos (Nat.zero_le 2) (ev_pos l2 (ev_neg (by omega) ?_))))))))
    have d1 := spec_Decimal_eq n1 (by omega)
    have d2 := spec_Decimal_eq n2 (by omega)
    have d3 := spec_Decimal_eq n3 (by omega)
    have d4 := spec_Decimal_eq v (by omega)
    have z1 := decT_size (n := n1)
    have z2 := decT_size (n := n2)
    have z3 := decT_size (n := n3)
    have z4 := decT_size (n := v)
    have y1 := typed_bn 98
    have y2 := typed_bn 10
    have y3 := typed_bn 111
    have p1 := impl_PressAll_eq menuNew (bn [98] ++ decT n1 ++ bn [10] ++ decT n2 ++ bn [10] ++ decT n3 ++ bn [10]) (Nat.zero_le _) (by simp only [size_append]; omega)
    rw [pressAll_basal (by omega) (by omega) (by omega)] at p1
    have p2 := impl_PressAll_eq menuNew (bn [111] ++ decT v ++ bn [10]) (Nat.zero_le _) (by simp only [size_append]; omega)
    rw [pressAll_bolus (by omega)] at p2
    have p3 := impl_PressAll_eq menuNew (bn [98, 49, 50, 99]) (Nat.zero_le _) (by rw [bn_size]; simp)
    rw [pressAll_b12c] at p3
    refine ev_bind d1 (ev_pos (by omega) (ev_pos (by simp only [size_append]; omega) (ev_bind d2 (ev_pos (by simp only [size_append]; omega) (ev_pos (by simp only [size_append]; omega) (ev_bind d3 (ev_pos (by simp only [size_append]; omega) (ev_pos (by simp only [size_append]; omega) (ev_bind impl_MenuNew_eq (ev_bind p1 ?_))))))))))
    refine ev_pos (Nat.zero_le 3) (ev_pos l3 (ev_neg (by omega) ?_))
    refine ev_bind (by rw [hv]; exact d4) (ev_pos (by omega) (ev_pos (by simp only [size_append]; omega) (ev_bind p2 (ev_bind impl_MenuNew_eq (ev_bind p3 (ev_bind impl_MenuNew_eq ?_))))))
    refine ev_pos rfl (ev_pos (by simp) (ev_pos rfl (ev_pos rfl (ev_pos rfl (ev_pos rfl (ev_pos (by simp) (ev_pos rfl (ev_pos rfl (ev_pos rfl (ev_pos rfl (ev_pos (by simp) (ev_pos rfl (ev_pos rfl (ev_pos rfl (ev_pos rfl (ev_bind (spec_OrderOk_eq _) ?_))))))))))))))))
    cases hO1 : orderOk (1, (n1 : Int), (n2 : Int), (n3 : Int)) with
    | true =>
      refine ev_pos (by simp) (ev_pos (by simp) (ev_pos (Nat.le_refl 0) (ev_pos (by simp) (ev_pos rfl (ev_pos rfl (ev_pos rfl (ev_pos rfl ?_)))))))
      · -- figures of a bolus
        refine ev_pos (Nat.zero_le 3) (ev_pos l3 (ev_neg (by omega) ?_))
        rw [hv]
        by_cases hv1 : 1 ≤ (v : Int)
        · refine ev_pos hv1 ?_
          cases hO2 : orderOk (2, 0, 0, (v : Int)) with
          | true =>
            have h100 := (bol v).1 hO2
            have hd : decide ((v : Int) ≤ 100) = true := decide_eq_true h100.2
            rw [hd]
            refine ev_pos (by simp) (ev_neg (by simp) (ev_pos (Nat.le_refl 0) (ev_pos (by simp) (ev_pos rfl (ev_pos (Nat.le_refl 0) (ev_pos (by simp) (ev_eq rfl)))))))
          | false =>
            have h100 : ¬ (v : Int) ≤ 100 := fun q => by rw [(bol v).2 ⟨hv1, q⟩] at hO2; cases hO2
            have hd : decide ((v : Int) ≤ 100) = false := decide_eq_false h100
            rw [hd]
            exact ev_pos (by simp) (ev_pos (by simp) ev_some)
        · refine ev_neg hv1 ?_
          have hO2 : orderOk (2, 0, 0, (v : Int)) = false := by
            cases hO2 : orderOk (2, 0, 0, (v : Int)) with
            | false => rfl
            | true => exact absurd ((bol v).1 hO2).1 hv1
          rw [hO2]
          exact ev_pos (by simp) (ev_pos (by simp) ev_some)
    | false =>
      refine ev_pos (by simp) (ev_neg (by simp) ?_)
      · -- figures of a bolus
        refine ev_pos (Nat.zero_le 3) (ev_pos l3 (ev_neg (by omega) ?_))
        rw [hv]
        by_cases hv1 : 1 ≤ (v : Int)
        · refine ev_pos hv1 ?_
          cases hO2 : orderOk (2, 0, 0, (v : Int)) with
          | true =>
            have h100 := (bol v).1 hO2
            have hd : decide ((v : Int) ≤ 100) = true := decide_eq_true h100.2
            rw [hd]
            refine ev_pos (by simp) (ev_neg (by simp) (ev_pos (Nat.le_refl 0) (ev_pos (by simp) (ev_pos rfl (ev_pos (Nat.le_refl 0) (ev_pos (by simp) (ev_eq rfl)))))))
          | false =>
            have h100 : ¬ (v : Int) ≤ 100 := fun q => by rw [(bol v).2 ⟨hv1, q⟩] at hO2; cases hO2
            have hd : decide ((v : Int) ≤ 100) = false := decide_eq_false h100
            rw [hd]
            exact ev_pos (by simp) (ev_pos (by simp) ev_some)
        · refine ev_neg hv1 ?_
          have hO2 : orderOk (2, 0, 0, (v : Int)) = false := by
            cases hO2 : orderOk (2, 0, 0, (v : Int)) with
            | false => rfl
            | true => exact absurd ((bol v).1 hO2).1 hv1
          rw [hO2]
          exact ev_pos (by simp) (ev_pos (by simp) ev_some)
  obtain ⟨N, h⟩ := main
  exact h N (Nat.le_refl N)
end Go.Sx.T
