/- Functions of the program as functions of Lean, and that the program keeps to them. -/
import Derived.Test.YtklcjpidbpplkaaFnAlarmsA0
set_option maxRecDepth 100000
set_option linter.unusedVariables false
set_option linter.unusedSimpArgs false
namespace Go.Proofs
end Go.Proofs
namespace Go.Sx.T
open Go Go.Sx Go.Proofs Go.RowKit
/- impl_RoomOf -/
theorem impl_RoomOf_eq (l : List Int) (a : Int) (hl : l.length ≤ 9223372036854775806) : g_impl_RoomOf (l, a) = some (wrap64 (30 - l.sum)) := by
  refine evG_eq ?_
  unfold impl_RoomOf_
  refine Ev.congr (g := fun k => impl_RoomOf_L3 k (wrap64 30, (l.length : Int), ((0 : Nat) : Int), l, ())) (fun k => by rw [w64 (n := 30) (by omega) (by omega)]; rfl) ?_
  refine Ev.cast (list_loop l (fun k s i => impl_RoomOf_L3 k (wrap64 s, (l.length : Int), i, l, ())) (fun r s => wrap64 (s - r.sum)) (fun s => ?_) (fun i s x rest hx hi h => ?_) 0 (by omega) 30) (by simp)
  · refine Ev.step (fun q => by rw [impl_RoomOf_L3]) ?_
    exact ev_neg (by omega) (Ev.cast ev_some (by simp))
  · refine Ev.step (fun q => by rw [impl_RoomOf_L3]) ?_
    refine ev_pos (by omega) (ev_pos (by omega) (ev_pos (by omega) ?_))
    rw [getD_drop hx, w64_succ (by omega), wrap64_sub]
    refine Ev.cast (h (s - x)) ?_
    congr 1
    simp only [List.sum_cons]; omega
/- impl_within -/
theorem impl_within_eq (a b c : Int) : g_impl_within (a, b, c) = some (decide (b ≤ a ∧ a ≤ c)) := by
  show (if b ≤ a then some (decide (a ≤ c)) else some false) = _
  split
  · rename_i h; refine eq_dec ?_; rw [decide_eq_true_iff]; omega
  · rename_i h; exact dec_no (by omega)
/- impl_SenseOk -/
theorem impl_SenseOk_eq (a : Int) : g_impl_SenseOk a = some (senseOk a) := by
  unfold g_impl_SenseOk impl_SenseOk_
  simp only [impl_within_eq, Option.bind_some]; rfl
/- impl_GuardOk -/
theorem impl_GuardOk_eq (l : List Int) (a : Int) (hl : l.length ≤ 9223372036854775806) : g_impl_GuardOk (l, a) = some (guardOk l a) := by
  refine evG_eq ?_
  unfold impl_GuardOk_
  have hend : Ev (fun k => impl_GuardOk_L2 (fun _ => g_impl_RoomOf) (fun _ => g_impl_SenseOk) (fun _ => g_impl_within) k ((l.length : Int), (l.length : Int), l, a, ())) (if pastOk l = true then guardOk l a else decide (l.length ≤ 9) && decide (0 ≤ wrap64 (30 - l.sum)) && senseOk a) := by
    refine Ev.step (fun q => by rw [impl_GuardOk_L2]) ?_
    refine ev_neg (by omega) ?_
    by_cases h9 : (l.length : Int) ≤ 9
    · refine ev_pos h9 (ev_bind (impl_RoomOf_eq l a hl) ?_)
      simp only [impl_SenseOk_eq, Option.bind_some]
      have h9' : l.length ≤ 9 := by omega
      by_cases hp : pastOk l = true
      · have hs := pastOk_sum hp
        rw [w64 (by omega) (by omega), if_pos hp]
        unfold guardOk
        rw [hp]
        by_cases h30 : l.sum ≤ 30
        · refine ev_pos (by omega) (Ev.cast ev_some ?_)
          simp [h9', h30]
        · refine ev_neg (by omega) (Ev.cast ev_some ?_)
          simp [h30]
      · rw [if_neg hp]
        by_cases h30 : 0 ≤ wrap64 (30 - l.sum)
        · refine ev_pos h30 (Ev.cast ev_some ?_)
          simp [h9', h30]
        · refine ev_neg h30 (Ev.cast ev_some ?_)
          simp [h30]
    · refine ev_neg h9 (Ev.cast ev_some ?_)
      have h9' : ¬ l.length ≤ 9 := by omega
      unfold guardOk
      split <;> simp [h9']
  refine Ev.cast (list_loop l (fun k (_ : Unit) i => impl_GuardOk_L2 (fun _ => g_impl_RoomOf) (fun _ => g_impl_SenseOk) (fun _ => g_impl_within) k ((l.length : Int), i, l, a, ())) (fun r _ => pastOk r && (if pastOk l = true then guardOk l a else decide (l.length ≤ 9) && decide (0 ≤ wrap64 (30 - l.sum)) && senseOk a)) (fun _ => Ev.cast hend (by simp [pastOk])) (fun i _ x rest hx hi h => ?_) 0 (by omega) ()) ?_
  · refine Ev.step (fun q => by rw [impl_GuardOk_L2]) ?_
    refine ev_pos (by omega) (ev_pos (by omega) (ev_pos (by omega) ?_))
    rw [getD_drop hx, impl_within_eq, w64_succ (by omega)]
    simp only [Option.bind_some, decide_eq_true_eq]
    by_cases hx2 : 0 ≤ x ∧ x ≤ 30
    · refine ev_pos hx2 (Ev.cast (h ()) ?_)
      rw [pastOk_cons]; simp [hx2]
    · refine ev_neg hx2 (Ev.cast ev_some ?_)
      rw [pastOk_cons]; simp [hx2]
  · simp only [List.drop_zero]
    cases hp : pastOk l with
    | true => simp
    | false => unfold guardOk; rw [hp]; simp
/- impl_copyGuard -/
theorem impl_copyGuard_eq (l : List Int) (a : Int) (hl : l.length ≤ 17592186044416) : g_impl_copyGuard (l, a) = some (l, a) := by
  unfold g_impl_copyGuard impl_copyGuard_ g_impl_copyInts impl_copyInts_
  simp only [List.length_nil, Nat.zero_add, List.nil_append]
  rw [if_pos (by omega)]; rfl
/- impl_Allow -/
theorem impl_Allow_eq (l : List Int) (a m : Int) (hl : l.length ≤ 9223372036854775806) : g_impl_Allow ((l, a), m) = some (allow l a m) := by
  unfold g_impl_Allow impl_Allow_ allow
  simp only [impl_GuardOk_eq l a hl, impl_RoomOf_eq l a hl, Option.bind_some, mx_eq, mn_eq]
  by_cases h : guardOk l a = true
  · have hs := guardOk_sum h
    by_cases h0 : a = 0
    · simp only [h, h0, if_true, and_self]
      rw [w64 (by omega) (by omega)]
      rw [h0] at h
      simp [h]
    · simp only [h, h0, if_true, if_false, and_false]
  · simp only [h, if_false, false_and, Bool.false_eq_true]
/- impl_Feel -/
theorem impl_Feel_eq (l : List Int) (a s : Int) (b : Bool) (hl : l.length ≤ 17592186044416) : g_impl_Feel ((l, a), (s, b)) = some (l, feel l a s b) := by
  unfold g_impl_Feel impl_Feel_ feel
  simp only [impl_copyGuard_eq l a hl, impl_GuardOk_eq l a (by omega), impl_SenseOk_eq, Option.bind_some]
  cases guardOk l a <;> cases senseOk s <;> cases b <;> simp
/- spec_l01Byte -/
theorem and255 (x : Int) : 0 ≤ iand .i64 x 255 ∧ iand .i64 x 255 ≤ 255 := by
  have e : iand .i64 x 255 = IntKind.i64.wrap (((BitVec.ofInt 64 x &&& BitVec.ofInt 64 255).toNat : Nat) : Int) := rfl
  have h : (BitVec.ofInt 64 x &&& BitVec.ofInt 64 255).toNat ≤ 255 := by
    rw [BitVec.toNat_and]
    exact Nat.le_trans Nat.and_le_right (by decide)
  rw [e, IntKind.wrap_i64]
  omega
theorem l01Byte_some (l : List Int) (i s : Int) (hl : l.length ≤ 1048576) (hi : 0 ≤ i) : ∃ b i' s', g_spec_l01Byte (l, i, s) = some (b, ((), i', s')) ∧ 0 ≤ b ∧ b ≤ 255 ∧ 0 ≤ i' := by
  unfold g_spec_l01Byte spec_l01Byte_
  simp only []
  rw [if_pos (by omega), if_pos (by omega)]
  by_cases h : i < (l.length : Int)
  · rw [if_pos h, if_pos hi, if_pos h, w64 (n := i + 1) (by omega) (by omega)]
    exact ⟨_, _, _, rfl, (and255 _).1, (and255 _).2, by omega⟩
  · rw [if_neg h]
    exact ⟨_, _, _, rfl, (and255 _).1, (and255 _).2, hi⟩
/- spec_l01Below -/
theorem l01Below_some (l : List Int) (i s n : Int) (hl : l.length ≤ 1048576) (hi : 0 ≤ i) (hn : 0 < n) : ∃ v i' s', g_spec_l01Below ((l, i, s), n) = some (v, ((), i', s')) ∧ 0 ≤ v ∧ v < n ∧ 0 ≤ i' := by
  unfold g_spec_l01Below spec_l01Below_
  simp only []
  rw [if_neg (by omega)]
  by_cases h : n ≤ 256
  · rw [if_pos h]
    obtain ⟨b, i1, s1, e, h1, h2, h3⟩ := l01Byte_some l i s hl hi
    rw [e, Option.bind_some, if_neg (by omega)]
    exact ⟨_, _, _, rfl, Int.tmod_nonneg _ h1, Int.tmod_lt_of_pos _ hn, h3⟩
  · rw [if_neg h]
    obtain ⟨b1, i1, s1, e1, h11, h12, h13⟩ := l01Byte_some l i s hl hi
    obtain ⟨b2, i2, s2, e2, h21, h22, h23⟩ := l01Byte_some l i1 s1 hl h13
    obtain ⟨b3, i3, s3, e3, h31, h32, h33⟩ := l01Byte_some l i2 s2 hl h23
    obtain ⟨b4, i4, s4, e4, h41, h42, h43⟩ := l01Byte_some l i3 s3 hl h33
    simp only [e1, e2, e3, e4, Option.bind_some]
    rw [if_neg (by omega)]
    refine ⟨_, _, _, rfl, Int.tmod_nonneg _ ?_, Int.tmod_lt_of_pos _ hn, h43⟩
    show 0 ≤ wrap64 ((wrap64 ((wrap64 ((wrap64 (b1 * 16777216)) + (wrap64 (b2 * 65536)))) + (wrap64 (b3 * 256)))) + b4)
    unfold wrap64; omega
/- spec_l01Once -/
theorem l01Once_some (l : List Int) (i s n : Int) (hl : l.length ≤ 1048576) (hi : 0 ≤ i) (hn : 0 < n) : ∃ b i' s', g_spec_l01Once ((l, i, s), n) = some (b, ((), i', s')) ∧ 0 ≤ i' := by
  unfold g_spec_l01Once spec_l01Once_
  simp only []
  obtain ⟨v, i1, s1, e, _, _, h⟩ := l01Below_some l i s n hl hi hn
  rw [e]; exact ⟨_, _, _, rfl, h⟩
/- spec_l01In -/
theorem spec_l01In_eq (a b c : Int) : g_spec_l01In (a, b, c) = some (decide (b ≤ a ∧ a ≤ c)) := by
  show (if b ≤ a then some (decide (a ≤ c)) else some false) = _
  split
  · rename_i h; refine eq_dec ?_; rw [decide_eq_true_iff]; omega
  · rename_i h; exact dec_no (by omega)
/- spec_l01New -/
theorem l01New_ev (l : List Int) (hl : l.length ≤ 1048576) : ∃ x, g_spec_l01New l = some ((), 0, x) := by
  have key : ∀ (d : Nat) (i : Nat), l.length = i + d → ∀ x, ∃ y, Ev (fun k => spec_l01New_L3 k (x, (i : Int), l, ())) ((), (0 : Int), y) := by
    intro d
    induction d with
    | zero =>
      intro i hi x
      exact ⟨x, Ev.step (fun q => by rw [spec_l01New_L3]) (ev_neg (by omega) ev_some)⟩
    | succ d ih =>
      intro i hi x
      by_cases h4 : (i : Int) < 4000
      · obtain ⟨y, hy⟩ := ih (i + 1) (by omega) _
        refine ⟨y, Ev.step (fun q => by rw [spec_l01New_L3]) (ev_pos (by omega) (ev_pos h4 (ev_pos (by omega) (ev_pos (by omega) ?_))))⟩
        rw [w64_succ (by omega)]
        exact hy
      · exact ⟨x, Ev.step (fun q => by rw [spec_l01New_L3]) (ev_pos (by omega) (ev_neg h4 ev_some))⟩
  obtain ⟨y, hy⟩ := key l.length 0 (by omega) _
  exact ⟨y, evG_eq hy⟩
/- laws_big -/
theorem laws_big_eq (l : List Int) : g_laws_big l = some (decide (1048576 < (l.length : Int))) := rfl
/- spec_l15Less -/
theorem spec_l15Less_eq (a b : Int) : g_spec_l15Less (a, b) = some (min a b) := by
  show (if a < b then some a else some b) = _
  split <;> (congr 1; omega)
/- spec_l16Sum -/
theorem spec_l16Sum_eq (l : List Int) (hl : l.length ≤ 9223372036854775806) : g_spec_l16Sum l = some (wrap64 l.sum) := by
  refine evG_eq ?_
  unfold spec_l16Sum_
  refine Ev.congr (g := fun k => spec_l16Sum_L3 k (wrap64 0, ((0 : Nat) : Int), l, ())) (fun k => by rw [w64 (n := 0) (by omega) (by omega)]; rfl) ?_
  refine Ev.cast (list_loop l (fun k s i => spec_l16Sum_L3 k (wrap64 s, i, l, ())) (fun r s => wrap64 (s + r.sum)) (fun s => ?_) (fun i s x rest hx hi h => ?_) 0 (by omega) 0) (by simp)
  · refine Ev.step (fun q => by rw [spec_l16Sum_L3]) ?_
    exact ev_neg (by omega) (Ev.cast ev_some (by simp))
  · refine Ev.step (fun q => by rw [spec_l16Sum_L3]) ?_
    refine ev_pos (by omega) (ev_pos (by omega) (ev_pos (by omega) ?_))
    rw [getD_drop hx, w64_succ (by omega), wrap64_add]
    refine Ev.cast (h (s + x)) ?_
    simp [Int.add_assoc]
/- spec_RoomOf -/
theorem spec_RoomOf_eq (l : List Int) (a : Int) (hl : l.length ≤ 9223372036854775806) : g_spec_RoomOf (l, a) = some (wrap64 (30 - l.sum)) := by
  unfold g_spec_RoomOf spec_RoomOf_
  simp only [spec_l16Sum_eq l hl, Option.bind_some, wrap64_sub']
/- spec_SenseOk -/
theorem spec_SenseOk_eq (a : Int) : g_spec_SenseOk a = some (senseOk a) := by
  unfold g_spec_SenseOk spec_SenseOk_
  simp only [spec_l01In_eq, Option.bind_some]; rfl
/- spec_GuardOk -/
theorem spec_GuardOk_eq (l : List Int) (a : Int) (hl : l.length ≤ 9223372036854775806) : g_spec_GuardOk (l, a) = some (guardOk l a) := by
  refine evG_eq ?_
  have hloop : l.length ≤ 9 → Ev (fun k => spec_GuardOk_L4 (fun _ => g_spec_SenseOk) (fun _ => g_spec_l01In) (fun _ => g_spec_l16Sum) k (0, l, a, ())) (pastOk l && decide (l.sum ≤ 30)) := by
    intro h9
    have hend : Ev (fun k => spec_GuardOk_L4 (fun _ => g_spec_SenseOk) (fun _ => g_spec_l01In) (fun _ => g_spec_l16Sum) k ((l.length : Int), l, a, ())) (decide (wrap64 l.sum ≤ 30)) := by
      refine Ev.step (fun q => by rw [spec_GuardOk_L4]) ?_
      exact ev_neg (by omega) (ev_bind (spec_l16Sum_eq l hl) ev_some)
    refine Ev.cast (list_loop l (fun k (_ : Unit) i => spec_GuardOk_L4 (fun _ => g_spec_SenseOk) (fun _ => g_spec_l01In) (fun _ => g_spec_l16Sum) k (i, l, a, ())) (fun r _ => pastOk r && decide (wrap64 l.sum ≤ 30)) (fun _ => Ev.cast hend (by simp [pastOk])) (fun i _ x rest hx hi h => ?_) 0 (by omega) ()) ?_
    · refine Ev.step (fun q => by rw [spec_GuardOk_L4]) ?_
      refine ev_pos (by omega) (ev_pos (by omega) (ev_pos (by omega) ?_))
      rw [getD_drop hx, spec_l01In_eq, w64_succ (by omega)]
      simp only [Option.bind_some, decide_eq_true_eq]
      by_cases hx2 : 0 ≤ x ∧ x ≤ 30
      · refine ev_pos hx2 (Ev.cast (h ()) ?_)
        rw [pastOk_cons]; simp [hx2]
      · refine ev_neg hx2 (Ev.cast ev_some ?_)
        rw [pastOk_cons]; simp [hx2]
    · simp only [List.drop_zero]
      cases hp : pastOk l with
      | true =>
        have hs := pastOk_sum hp
        rw [w64 (by omega) (by omega)]
      | false => rfl
  unfold spec_GuardOk_
  by_cases h9 : 9 < (l.length : Int)
  · refine ev_pos h9 (Ev.cast ev_some ?_)
    have h9' : ¬ l.length ≤ 9 := by omega
    simp [guardOk, h9']
  · refine ev_neg h9 (ev_bind (spec_SenseOk_eq a) ?_)
    have h9' : l.length ≤ 9 := by omega
    cases hs : senseOk a with
    | false => exact ev_neg Bool.false_ne_true (Ev.cast ev_some (by simp [guardOk, hs]))
    | true =>
      refine ev_pos rfl (Ev.cast (hloop h9') ?_)
      simp [guardOk, hs, h9']
/- spec_DrawPlaces -/
theorem spec_DrawPlaces_some (code : List Int) (hl : code.length ≤ 1048576) : ∃ q, g_spec_DrawPlaces code = some q ∧ q.length = 12 ∧ ∀ x ∈ q, 0 ≤ x ∧ x < 10000 := by
  have key : ∀ (d n : Nat), n + d = 12 → ∀ (i h : Int) (q : List Int), 0 ≤ i → q.length = n → (∀ x ∈ q, 0 ≤ x ∧ x < 10000) →
      ∃ q', Ev (fun k => spec_DrawPlaces_L5 (fun _ => g_spec_l01Below) (fun _ => g_spec_l01Byte) (fun _ => g_spec_l01New) k ((n : Int), code, i, h, q, ())) q' ∧ q'.length = 12 ∧ ∀ x ∈ q', 0 ≤ x ∧ x < 10000 := by
    intro d
    induction d with
    | zero =>
      intro n hn i h q hi hq hx
      exact ⟨q, Ev.step (fun q => by rw [spec_DrawPlaces_L5]) (ev_neg (by omega) ev_some), by omega, hx⟩
    | succ d ih =>
      intro n hn i h q hi hq hx
      obtain ⟨v, i', s', e, h1, h2, h3⟩ := l01Below_some code i h 10000 hl hi (by omega)
      obtain ⟨q', h4, h5⟩ := ih (n + 1) (by omega) i' s' (q ++ [v]) h3 (by simp [hq]) (fun x hx' => by
        rcases List.mem_append.1 hx' with hx' | hx'
        · exact hx x hx'
        · simp at hx'; subst hx'; exact ⟨h1, h2⟩)
      refine ⟨q', Ev.step (fun q => by rw [spec_DrawPlaces_L5]) (ev_pos (by omega) (ev_bind e (ev_pos ?_ ?_))), h5⟩
      · simp only [List.length_singleton, hq]; omega
      · rw [w64_succ (by omega)]
        exact h4
  obtain ⟨x, hn⟩ := l01New_ev code hl
  obtain ⟨b, i', s', e, _, _, h3⟩ := l01Byte_some code 0 x hl (by omega)
  obtain ⟨q, h4, h5⟩ := key 12 0 rfl i' s' [] h3 rfl (fun x hx => by cases hx)
  refine ⟨q, evG_eq ?_, h5⟩
  unfold spec_DrawPlaces_
  exact ev_bind hn (ev_bind e h4)
/- spec_l16Copy -/
theorem spec_l16Copy_eq (l : List Int) (a : Int) (hl : l.length ≤ 17592186044416) : g_spec_l16Copy (l, a) = some (l, a) := by
  unfold g_spec_l16Copy spec_l16Copy_
  simp only [List.length_nil, Nat.zero_add, List.nil_append]
  rw [if_pos (by omega)]
/- spec_Pass -/
theorem spec_Pass_eq (l : List Int) (a n : Int) (hl : l.length ≤ 17592186044416) : g_spec_Pass ((l, a), n) = some (pass l a n, a) := by
  unfold g_spec_Pass spec_Pass_ pass
  simp only [spec_l16Copy_eq l a hl, spec_GuardOk_eq l a (by omega), spec_RoomOf_eq l a (by omega), spec_l15Less_eq, Option.bind_some, List.singleton_append, List.length_singleton, List.nil_append, List.length_nil, Nat.zero_add]
  by_cases h : guardOk l a = true
  · have hs := guardOk_sum h
    have h9 := (guardOk_den h).1
    simp only [h, if_true]
    rw [w64 (by omega) (by omega)]
    have key : ∀ x : Int, x = min (max n 0) (30 - l.sum) → (if ((1 + l.length : Nat) : Int) * ((8 : Nat) : Int) ≤ 140737488355328 then
        if 9 < ((List.length (x :: l) : Nat) : Int) then
          if (0 : Int) ≤ 9 then
            if 9 ≤ ((List.length (x :: l) : Nat) : Int) then
              if ((List.length (List.take (Int.toNat 9) (x :: l)) : Nat) : Int) * ((8 : Nat) : Int) ≤ 140737488355328 then some (List.take (Int.toNat 9) (x :: l), a) else none
            else none
          else none
        else some (x :: l, a)
      else none) = some (List.take 9 (min (max n 0) (30 - l.sum) :: l), a) := by
      intro x hx
      subst hx
      rw [if_pos (by omega)]
      split
      · rename_i h8
        rw [if_pos (by omega), if_pos (by omega), if_pos (by rw [List.length_take]; simp only [List.length_cons]; omega)]
        rfl
      · rename_i h8
        simp only [List.length_cons] at h8
        rw [List.take_of_length_le (by simp only [List.length_cons]; omega)]
    split
    · exact key _ (by omega)
    · exact key _ (by omega)
  · simp only [h, if_false, Bool.false_eq_true]
/- spec_l13Both -/
theorem l13_or : ∀ a b : _root_.Fin 16, ∀ k : _root_.Fin 1, spec_l13Both_L4 5 ((a.val : Int), (b.val : Int), 0, 1, 0, ()) = some (ior .i64 (a.val : Int) (b.val : Int)) := by decide +kernel
theorem l13_more (k : Nat) : ∀ n x r, spec_l13Both_L4 n x = some r → spec_l13Both_L4 (n + k) x = some r := by
  intro n
  induction n with
  | zero => intro x r h; cases h
  | succ n ih =>
    intro x r h
    obtain ⟨b0, b1, b2, b3, b4, _⟩ := x
    rw [Nat.succ_add]
    rw [spec_l13Both_L4] at h ⊢
    revert h
    repeat' split
    all_goals first
      | exact fun h => h
      | exact fun h => ih _ _ h
theorem spec_l13Both_eq (a b : Int) (ha : 0 ≤ a ∧ a ≤ 15) (hb : 0 ≤ b ∧ b ≤ 15) : g_spec_l13Both (a, b) = some (ior .i64 a b) := by
  have h := l13_or ⟨a.toNat, by omega⟩ ⟨b.toNat, by omega⟩ 0
  simp only [Int.toNat_of_nonneg ha.1, Int.toNat_of_nonneg hb.1] at h
  refine evG_eq ⟨5, fun k hk => ?_⟩
  have := l13_more (k - 5) 5 _ _ h
  rw [show 5 + (k - 5) = k by omega] at this
  exact this
/- spec_Feel -/
theorem spec_Feel_eq (l : List Int) (a s : Int) (b : Bool) (hl : l.length ≤ 17592186044416) : g_spec_Feel ((l, a), (s, b)) = some (l, feel l a s b) := by
  unfold g_spec_Feel spec_Feel_ feel
  simp only [spec_l16Copy_eq l a hl, spec_GuardOk_eq l a (by omega), spec_SenseOk_eq, Option.bind_some]
  cases hg : guardOk l a with
  | false => simp
  | true =>
    cases hs : senseOk s with
    | false => simp
    | true =>
      have h1 := (guardOk_den hg).2.2.2
      unfold senseOk at h1 hs
      rw [spec_l13Both_eq a s (of_decide_eq_true h1) (of_decide_eq_true hs)]
      cases b <;> simp
/- laws_sameInts -/
theorem laws_sameInts_refl (l : List Int) (hl : l.length ≤ 9223372036854775806) : g_laws_sameInts (l, l) = some true := by
  refine evG_eq ?_
  unfold laws_sameInts_
  refine ev_pos rfl ?_
  refine list_loop l (fun k (_ : Unit) i => laws_sameInts_L4 k (i, l, l, ())) (fun _ _ => true) (fun _ => ?_) (fun i _ x rest hx hi h => ?_) 0 (by omega) ()
  · refine Ev.step (fun q => by rw [laws_sameInts_L4]) ?_
    exact ev_neg (by omega) ev_some
  · refine Ev.step (fun q => by rw [laws_sameInts_L4]) ?_
    refine ev_pos (by omega) (ev_pos (by omega) (ev_pos (by omega) (ev_pos (by omega) (ev_pos (by omega) (ev_pos rfl ?_)))))
    rw [w64_succ (by omega)]
    exact h ()
/- spec_Has -/
def hs (a m : Int) : Bool := decide ((Int.tmod (wrap64 (Int.tdiv a m)) 2) = 1)
theorem has15 : ∀ a b : _root_.Fin 16, ∀ m ∈ [(1 : Int), 2, 4, 8], hs (ior .i64 (a.val : Int) (b.val : Int)) m = (hs (a.val : Int) m || hs (b.val : Int) m) := by decide +kernel
theorem Has_or {a b m : Int} (ha : senseOk a = true) (hb : senseOk b = true) (hm : m ∈ [(1 : Int), 2, 4, 8]) : hs (ior .i64 a b) m = (hs a m || hs b m) := by
  unfold senseOk at ha hb
  have ha := of_decide_eq_true ha
  have hb := of_decide_eq_true hb
  have h := has15 ⟨a.toNat, by omega⟩ ⟨b.toNat, by omega⟩ m hm
  simp only [Int.toNat_of_nonneg ha.1, Int.toNat_of_nonneg hb.1] at h
  exact h
theorem spec_Has_eq {a m : Int} (ha : senseOk a = true) (hm : m ∈ [(1 : Int), 2, 4, 8]) : g_spec_Has (a, m) = some (hs a m) := by
  unfold g_spec_Has spec_Has_
  simp only [spec_SenseOk_eq, Option.bind_some, ha, if_true]
  simp at hm
  rcases hm with rfl | rfl | rfl | rfl <;> rfl
/- spec_l16Guard -/
theorem l16Guard_ev (S : List Int) (hS : S.length ≤ 1048576) (z : Int) (zl : List Int) : ∀ (d x : Nat), x + d = 14 → ∀ (i s : Int) (l : List Int) (a : Int), 0 ≤ i → guardOk l a = true →
    ∃ l' a' i' s', Ev (fun k => spec_l16Guard_L3 (fun _ => g_spec_Feel) (fun _ => g_spec_Pass) (fun _ => g_spec_l01Below) (fun _ => g_spec_l01Once) k ((x : Int), i, s, S, z, a, zl, l, ())) ((l', a'), ((), i', s')) ∧ guardOk l' a' = true ∧ 0 ≤ i' := by
  have done : ∀ (x : Int) (v i1 s1 : Int) (i s : Int) (l : List Int) (a : Int), g_spec_l01Below ((S, i, s), 14) = some (v, ((), i1, s1)) → ¬ x < v → 0 ≤ i1 → guardOk l a = true →
      ∃ l' a' i' s', Ev (fun k => spec_l16Guard_L3 (fun _ => g_spec_Feel) (fun _ => g_spec_Pass) (fun _ => g_spec_l01Below) (fun _ => g_spec_l01Once) k (x, i, s, S, z, a, zl, l, ())) ((l', a'), ((), i', s')) ∧ guardOk l' a' = true ∧ 0 ≤ i' := by
    intro x v i1 s1 i s l a e1 hv hi1 hg
    obtain ⟨b, i2, s2, e2, hi2⟩ := l01Once_some S i1 s1 2 hS hi1 (by omega)
    obtain ⟨h1, h2, h3, h4⟩ := guardOk_den hg
    cases b with
    | true =>
      refine ⟨l, 0, i2, s2, Ev.step (fun q => by rw [spec_l16Guard_L3]) ?_, guardOk_mk h1 h2 h3 (by decide), hi2⟩
      refine ev_bind e1 ?_
      refine ev_neg hv ?_
      refine ev_bind e2 ?_
      exact ev_pos rfl ev_some
    | false =>
      refine ⟨l, a, i2, s2, Ev.step (fun q => by rw [spec_l16Guard_L3]) ?_, hg, hi2⟩
      refine ev_bind e1 ?_
      refine ev_neg hv ?_
      refine ev_bind e2 ?_
      exact ev_neg Bool.false_ne_true ev_some
  intro d
  induction d with
  | zero =>
    intro x hx i s l a hi hg
    obtain ⟨v, i1, s1, e1, _, v2, hi1⟩ := l01Below_some S i s 14 hS hi (by omega)
    exact done x v i1 s1 i s l a e1 (by omega) hi1 hg
  | succ d ih =>
    intro x hx i s l a hi hg
    obtain ⟨v, i1, s1, e1, _, v2, hi1⟩ := l01Below_some S i s 14 hS hi (by omega)
    by_cases hv : (x : Int) < v
    · obtain ⟨p, i2, s2, e2, _, _, hi2⟩ := l01Below_some S i1 s1 8 hS hi1 (by omega)
      obtain ⟨b, i3, s3, e3, hi3⟩ := l01Once_some S i2 s2 6 hS hi2 (by omega)
      have hp := guardOk_pass p hg
      have hP := spec_Pass_eq l a p (by have := (guardOk_den hg).1; omega)
      cases b with
      | true =>
        obtain ⟨m, i4, s4, e4, _, _, hi4⟩ := l01Below_some S i3 s3 16 hS hi3 (by omega)
        obtain ⟨c, i5, s5, e5, hi5⟩ := l01Once_some S i4 s4 2 hS hi4 (by omega)
        obtain ⟨l', a', i', s', hE, hG, hI⟩ := ih (x + 1) (by omega) i5 s5 (pass l a p) (feel (pass l a p) a m c) hi5 (guardOk_feel m c hp)
        refine ⟨l', a', i', s', ?_, hG, hI⟩
        refine Ev.step (fun q => by rw [spec_l16Guard_L3]) (ev_bind e1 (ev_pos hv (ev_bind e2 (ev_bind hP (ev_bind e3 (ev_pos rfl (ev_bind e4 (ev_bind e5 (ev_bind (spec_Feel_eq (pass l a p) a m c (by have := (guardOk_den hp).1; omega)) ?_)))))))))
        rw [w64_succ (by omega)]
        exact hE
      | false =>
        obtain ⟨l', a', i', s', hE, hG, hI⟩ := ih (x + 1) (by omega) i3 s3 (pass l a p) a hi3 hp
        refine ⟨l', a', i', s', ?_, hG, hI⟩
        refine Ev.step (fun q => by rw [spec_l16Guard_L3]) (ev_bind e1 (ev_pos hv (ev_bind e2 (ev_bind hP (ev_bind e3 (ev_neg Bool.false_ne_true ?_))))))
        rw [w64_succ (by omega)]
        exact hE
    · exact done x v i1 s1 i s l a e1 hv hi1 hg
/- spec_DrawGuard -/
theorem spec_DrawGuard_some (S : List Int) (hS : S.length ≤ 1048576) : ∃ l a, g_spec_DrawGuard S = some (l, a) ∧ guardOk l a = true := by
  obtain ⟨x, hx⟩ := l01New_ev S hS
  obtain ⟨l, a, i, s, h, hg, _⟩ := l16Guard_ev S hS 0 [] 14 0 (by omega) 0 x [] 0 (by omega) (by decide)
  refine ⟨l, a, ?_, hg⟩
  unfold g_spec_DrawGuard spec_DrawGuard_
  have h2 : g_spec_l16Guard (S, 0, x) = some ((l, a), ((), i, s)) := evG_eq h
  simp only [hx, h2, Option.bind_some]
/- laws_FnAlarms -/
theorem alarms_end (p l : List Int) (a p0 : Int) (hp : p.length = 12) (hg : guardOk l a = true) (h0 : senseOk p0 = true) (m : Int) (hm : ¬ m ≤ 8) :
    Ev (fun k => laws_FnAlarms_L10 (fun _ => g_impl_Allow) (fun _ => g_impl_Feel) (fun _ => g_impl_GuardOk) (fun _ => g_laws_big) (fun _ => g_laws_sameInts) (fun _ => g_spec_DrawGuard) (fun _ => g_spec_DrawPlaces) (fun _ => g_spec_Has) k (p0, m, a, p, ior .i64 a p0, Int.tmod (List.getD p (Int.toNat 1) 0) 16, ior .i64 a p0, l, l, l, l, ())) true := by
  obtain ⟨h1, h2, h3, h4⟩ := guardOk_den hg
  have hG : guardOk l (ior .i64 a p0) = true := guardOk_mk h1 h2 h3 (senseOk_or h4 h0)
  have hf : feel l a 16 true = a := by unfold feel; rw [if_neg (fun q => by have := q.2; revert this; decide)]
  have hend : Ev (fun k => (g_impl_GuardOk (l, ior .i64 a p0)).bind fun v3 => if v3 = true then (g_laws_sameInts (l, l)).bind fun v4 => if v4 = true then (g_impl_Feel ((l, a), (16, true))).bind fun v5 => some (decide (v5.2 = a)) else some false else some false) true := by
    refine ev_bind (impl_GuardOk_eq l _ (by omega)) (ev_pos hG (ev_bind (laws_sameInts_refl l (by omega)) (ev_pos rfl (ev_bind (impl_Feel_eq l a 16 true (by omega)) (Ev.cast ev_some ?_)))))
    simp [hf]
  refine Ev.step (fun q => by rw [laws_FnAlarms_L10]) ?_
  refine ev_neg hm (ev_pos (by omega) (ev_pos (by omega) (ev_neg (by omega) (ev_pos rfl (ev_pos rfl ?_)))))
  by_cases hz : ior .i64 a p0 = 0
  · exact ev_pos hz hend
  · refine ev_neg hz (ev_bind (impl_Allow_eq l _ 5 (by omega)) (ev_pos ?_ hend))
    unfold allow; rw [if_neg (fun q => hz q.2)]
theorem alarms_step (p l : List Int) (a p0 q1 : Int) (hg : senseOk a = true) (h0 : senseOk p0 = true) (m : Int) (hm : m ∈ [(1 : Int), 2, 4, 8])
    (next : Ev (fun k => laws_FnAlarms_L10 (fun _ => g_impl_Allow) (fun _ => g_impl_Feel) (fun _ => g_impl_GuardOk) (fun _ => g_laws_big) (fun _ => g_laws_sameInts) (fun _ => g_spec_DrawGuard) (fun _ => g_spec_DrawPlaces) (fun _ => g_spec_Has) k (p0, 2 * m, a, p, ior .i64 a p0, q1, ior .i64 a p0, l, l, l, l, ())) true) :
    Ev (fun k => laws_FnAlarms_L10 (fun _ => g_impl_Allow) (fun _ => g_impl_Feel) (fun _ => g_impl_GuardOk) (fun _ => g_laws_big) (fun _ => g_laws_sameInts) (fun _ => g_spec_DrawGuard) (fun _ => g_spec_DrawPlaces) (fun _ => g_spec_Has) k (p0, m, a, p, ior .i64 a p0, q1, ior .i64 a p0, l, l, l, l, ())) true := by
  have hm8 : 1 ≤ m ∧ m ≤ 8 := by simp at hm; omega
  have hh := Has_or hg h0 hm
  refine Ev.step (fun q => by rw [laws_FnAlarms_L10]) ?_
  refine ev_pos hm8.2 (ev_bind (spec_Has_eq (senseOk_or hg h0) hm) (ev_bind (spec_Has_eq hg hm) ?_))
  rw [w64 (n := 2 * m) (by omega) (by omega), hh]
  cases e : hs a m with
  | true => exact ev_pos rfl (ev_pos (by simp) next)
  | false =>
    refine ev_neg Bool.false_ne_true (ev_bind (spec_Has_eq h0 hm) (ev_pos ?_ next))
    cases hs p0 m <;> rfl
theorem t_FnAlarms (S : List Int) : g_laws_FnAlarms S = some true := by
  refine evG_eq ?_
  unfold laws_FnAlarms_
  refine ev_bind (laws_big_eq S) (ev_dom (fun _ => ev_some) (fun hb => ?_))
  have hS : S.length ≤ 1048576 := by
    rw [decide_eq_true_eq] at hb; omega
  obtain ⟨l, a, hD, hg⟩ := spec_DrawGuard_some S hS
  obtain ⟨p, hP, hp, hpb⟩ := spec_DrawPlaces_some S hS
  obtain ⟨h1, h2, h3, h4⟩ := guardOk_den hg
  have hv : ∀ n : Nat, n < 12 → senseOk (Int.tmod (List.getD p n 0) 16) = true := by
    intro n hn
    have hn' : n < p.length := by omega
    have e : List.getD p n 0 = p[n] := by simp [List.getD_eq_getElem?_getD, hn']
    have hx := hpb _ (List.getElem_mem hn')
    have q1 : 0 ≤ Int.tmod (p[n]) 16 := Int.tmod_nonneg _ hx.1
    have q2 : Int.tmod (p[n]) 16 < 16 := Int.tmod_lt_of_pos _ (by omega)
    rw [e]
    exact decide_eq_true ⟨q1, by omega⟩
  have hv0 : senseOk (Int.tmod (List.getD p (Int.toNat 0) 0) 16) = true := hv 0 (by omega)
  have hv1 : senseOk (Int.tmod (List.getD p (Int.toNat 1) 0) 16) = true := hv 1 (by omega)
  have hG : guardOk l (ior .i64 a (Int.tmod (List.getD p (Int.toNat 0) 0) 16)) = true := guardOk_mk h1 h2 h3 (senseOk_or h4 hv0)
  have f1 : feel l a (Int.tmod (List.getD p (Int.toNat 0) 0) 16) false = ior .i64 a (Int.tmod (List.getD p (Int.toNat 0) 0) 16) := by
    unfold feel; rw [if_pos ⟨hg, hv0⟩]; rfl
  have f2 : feel l (ior .i64 a (Int.tmod (List.getD p (Int.toNat 0) 0) 16)) (Int.tmod (List.getD p (Int.toNat 1) 0) 16) true = Int.tmod (List.getD p (Int.toNat 1) 0) 16 := by
    unfold feel; rw [if_pos ⟨hG, hv1⟩]; rfl
  have f3 : feel l (ior .i64 a (Int.tmod (List.getD p (Int.toNat 0) 0) 16)) 0 false = ior .i64 a (Int.tmod (List.getD p (Int.toNat 0) 0) 16) := by
    unfold feel; rw [if_pos ⟨hG, by decide⟩, if_neg Bool.false_ne_true, or_zero (senseOk_or h4 hv0)]
  have e1 := impl_Feel_eq l a (Int.tmod (List.getD p (Int.toNat 0) 0) 16) false (by omega)
  have e2 := impl_Feel_eq l (ior .i64 a (Int.tmod (List.getD p (Int.toNat 0) 0) 16)) (Int.tmod (List.getD p (Int.toNat 1) 0) 16) true (by omega)
  have e3 := impl_Feel_eq l (ior .i64 a (Int.tmod (List.getD p (Int.toNat 0) 0) 16)) 0 false (by omega)
  rw [f1] at e1; rw [f2] at e2; rw [f3] at e3
  refine ev_bind hD (ev_bind hP (ev_pos (by omega) (ev_pos (by omega) (ev_neg (by omega) (ev_bind e1 (ev_pos (by omega) (ev_pos (by omega) (ev_neg (by omega) (ev_bind e2 (ev_bind e3 ?_))))))))))
  refine alarms_step p l a _ _ h4 hv0 1 (by simp) ?_
  refine alarms_step p l a _ _ h4 hv0 2 (by simp) ?_
  refine alarms_step p l a _ _ h4 hv0 4 (by simp) ?_
  refine alarms_step p l a _ _ h4 hv0 8 (by simp) ?_
  exact alarms_end p l a _ hp hg hv0 16 (by omega)
end Go.Sx.T
