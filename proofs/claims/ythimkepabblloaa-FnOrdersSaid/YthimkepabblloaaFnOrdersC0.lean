/- Functions of the program as functions of Lean, and that the program keeps to them. -/
import Derived.Test.YthimkepabblloaaFnOrdersA0
set_option maxRecDepth 100000
set_option linter.unusedVariables false
set_option linter.unusedSimpArgs false
namespace Go.Proofs
end Go.Proofs
namespace Go.Sx.T
open Go Go.Sx Go.Proofs Go.RowKit
/- impl_within -/
theorem impl_within_eq (a b c : Int) : g_impl_within (a, b, c) = some (decide (b ≤ a ∧ a ≤ c)) := by
  show (if b ≤ a then some (decide (a ≤ c)) else some false) = _
  split
  · rename_i h; refine eq_dec ?_; rw [decide_eq_true_iff]; omega
  · rename_i h; exact dec_no (by omega)
/- impl_OrderOk -/
theorem impl_OrderOk_eq (o : Order) : g_impl_OrderOk o = some (orderOk o) := by
  obtain ⟨a, b, c, x⟩ := o
  show _ = some (decide (OrderOkP a b c x))
  unfold g_impl_OrderOk impl_OrderOk_
  simp only [impl_within_eq, Option.bind_some, decide_eq_true_eq, mn_eq]
  by_cases h : 1 ≤ c ∧ c ≤ 1000
  · have hw : wrap64 (3 * c) = 3 * c := w64 (by omega) (by omega)
    rw [hw]
    repeat' refine ite_r (fun _ => ?_) (fun _ => ?_)
    all_goals first
      | exact dec_no (by unfold OrderOkP; omega)
      | exact dec_yes (by unfold OrderOkP; omega)
      | (exfalso; omega)
      | (exfalso; simp_all; done)
      | (refine eq_dec ?_; simp only [Bool.and_eq_true, decide_eq_true_eq, decide_true, true_and]; unfold OrderOkP; omega)
  · simp only [h, if_false]
    repeat' refine ite_r (fun _ => ?_) (fun _ => ?_)
    all_goals first
      | exact dec_no (by unfold OrderOkP; omega)
      | exact dec_yes (by unfold OrderOkP; omega)
      | (exfalso; omega)
      | (exfalso; simp_all; done)
      | (refine eq_dec ?_; simp only [Bool.and_eq_true, decide_eq_true_eq, decide_true, true_and]; unfold OrderOkP; omega)
/- impl_ReadVar -/
theorem shl7 (c j : Nat) (hj : j < 5) (hc : c ≤ 255) : wr .i64 (Int.tmod (wrap64 (c : Int)) 128 * 2 ^ (min (Int.toNat (wrap64 (7 * (j : Int)))) (IntKind.bits .i64))) = ((c % 128 * 128 ^ j : Nat) : Int) := by
  have e1 : wrap64 (7 * (j : Int)) = ((7 * j : Nat) : Int) := by
    rw [w64 (by omega) (by omega)]; omega
  have e2 : Int.tmod (wrap64 (c : Int)) 128 = ((c % 128 : Nat) : Int) := by
    rw [w64 (by omega) (by omega), Int.tmod_eq_emod_of_nonneg (by omega)]; omega
  have e3 : min (7 * j) (IntKind.bits .i64) = 7 * j := by
    have : IntKind.bits .i64 = 64 := rfl
    rw [this]; omega
  rw [e1, e2, Int.toNat_natCast, e3]
  have e4 : (2 : Int) ^ (7 * j) = ((128 ^ j : Nat) : Int) := by
    rw [Int.pow_mul, Int.natCast_pow]; rfl
  rw [e4, ← Int.natCast_mul]
  have h1 : c % 128 * 128 ^ j ≤ 127 * 128 ^ 4 := Nat.mul_le_mul (by omega) (Nat.pow_le_pow_right (by omega) (by omega))
  show wrap64 _ = _
  exact w64 (by omega) (by omega)
theorem readV_step (j n m : Nat) (hm : m ≤ 127) (h : n < 128 ^ j) : n + m * 128 ^ j < 128 ^ (j + 1) := by
  have := Nat.mul_le_mul_right (128 ^ j) hm
  rw [Nat.pow_succ]
  omega
theorem readV_le (j : Nat) (hj : j ≤ 5) : 128 ^ j ≤ 34359738368 := by
  have h := Nat.pow_le_pow_right (n := 128) (by omega) hj
  exact Nat.le_trans h (by decide)
theorem impl_ReadVar_eq (s : ByteArray) (i : Int) (hs : s.size ≤ 1048580) : g_impl_ReadVar (s, i) = some (readV s i) := by
  refine evG_eq ?_
  unfold impl_ReadVar_ readV
  refine ev_bind (impl_within_eq _ _ _) ?_
  by_cases h : 0 ≤ i ∧ i ≤ (s.size : Int)
  case neg =>
    rw [if_neg h]
    exact ev_neg (by simpa using h) ev_some
  rw [if_pos h]
  refine ev_pos (by simp [h]) ?_
  obtain ⟨a, rfl⟩ := Int.eq_ofNat_of_zero_le h.1
  have ha : a ≤ s.size := by omega
  rw [Int.toNat_natCast]
  have key : ∀ (f j n : Nat), j + f = 5 → n < 128 ^ j → Ev (fun k => impl_ReadVar_L5 (fun _ => g_impl_within) k (s, (a : Int), (n : Int), (j : Int), ())) (rdv s a f j n) := by
    intro f
    induction f with
    | zero =>
      intro j n hj hn
      refine Ev.step (fun q => by rw [impl_ReadVar_L5]) ?_
      exact ev_neg (by omega) ev_some
    | succ f ih =>
      intro j n hj hn
      have hc := byN_le s (a + j)
      have hst := readV_step j n (byN s (a + j) % 128) (by omega) hn
      have hB := Nat.lt_of_lt_of_le hst (readV_le (j + 1) (by omega))
      have esh := shl7 (byN s (a + j)) j (by omega) hc
      have hih := ih (j + 1) _ (by omega) hst
      unfold rdv
      clear hst ih hn
      generalize byN s (a + j) % 128 * 128 ^ j = M at *
      refine Ev.step (fun q => by rw [impl_ReadVar_L5]) ?_
      have eaj : wrap64 ((a : Int) + (j : Int)) = ((a + j : Nat) : Int) := by
        rw [w64 (by omega) (by omega)]; omega
      rw [eaj, byt_byN, esh]
      clear esh
      generalize hcc : byN s (a + j) = c at *
      clear hcc
      have ec : wrap64 (c : Int) = (c : Int) := w64 (by omega) (by omega)
      have en : wrap64 ((n : Int) + (M : Int)) = ((n + M : Nat) : Int) := by
        rw [w64 (by omega) (by omega)]; omega
      have e7 : wrap64 (7 * (j : Int)) = 7 * (j : Int) := w64 (by omega) (by omega)
      have e1 : wrap64 (((a + j : Nat) : Int) + 1) = ((a + j + 1 : Nat) : Int) := w64_succ (by omega)
      have e2 : wrap64 ((j : Int) + 1) = ((j + 1 : Nat) : Int) := w64_succ (by omega)
      rw [en, ec, e7, e1, e2]
      generalize n + M = N at *
      refine ev_pos (by omega) ?_
      by_cases hlt : a + j < s.size
      case neg =>
        rw [if_neg hlt]
        exact ev_neg (by omega) ev_some
      rw [if_pos hlt]
      refine ev_pos (by omega) ?_
      refine ev_pos (by omega) ?_
      refine ev_pos (by omega) ?_
      refine ev_neg (by omega) ?_
      refine ev_pos (by omega) ?_
      by_cases h127 : 127 < c
      · rw [if_pos h127]
        exact ev_pos (by omega) hih
      · rw [if_neg h127]
        clear hih
        refine ev_neg (by omega) ?_
        by_cases hj0 : 0 < j
        · refine ev_pos (by omega) ?_
          by_cases h0 : c = 0
          · have hyes : (0 < j ∧ c = 0) ∨ 1000000000 < N := .inl ⟨hj0, h0⟩
            rw [if_pos hyes]
            exact ev_pos (by omega) ev_some
          · refine ev_neg (by omega) ?_
            by_cases hb : 1000000000 < N
            · have hyes : (0 < j ∧ c = 0) ∨ 1000000000 < N := .inr hb
              rw [if_pos hyes]
              exact ev_pos (Int.ofNat_lt.2 hb) ev_some
            · have hng : ¬ ((0 < j ∧ c = 0) ∨ 1000000000 < N) := by
                rintro (⟨_, q⟩ | q)
                · exact h0 q
                · exact hb q
              rw [if_neg hng]
              exact ev_neg (fun q => hb (Int.ofNat_lt.1 q)) ev_some
        · refine ev_neg (by omega) ?_
          by_cases hb : 1000000000 < N
          · have hyes : (0 < j ∧ c = 0) ∨ 1000000000 < N := .inr hb
            rw [if_pos hyes]
            exact ev_pos (Int.ofNat_lt.2 hb) ev_some
          · have hng : ¬ ((0 < j ∧ c = 0) ∨ 1000000000 < N) := by
              rintro (⟨q, _⟩ | q)
              · exact hj0 q
              · exact hb q
            rw [if_neg hng]
            exact ev_neg (fun q => hb (Int.ofNat_lt.1 q)) ev_some
  exact key 5 0 0 rfl (by decide)
/- impl_reader__number -/
theorem impl_reader__number_eq (s : ByteArray) (i : Int) (b : Bool) (hs : s.size ≤ 1048580) : g_impl_reader__number (s, i, b) = some (numberF (s, i, b)) := by
  unfold g_impl_reader__number impl_reader__number_ numberF
  simp only [impl_ReadVar_eq s i hs, Option.bind_some]
  split
  · rfl
  · split <;> rfl
/- impl_highFirst -/
theorem impl_highFirst_eq (v : Int) (hv : 0 ≤ v) : g_impl_highFirst (v, 4) = some (four v) := by
  refine evG_eq ?_
  unfold impl_highFirst_
  have e3 : ∀ w : Int, Int.fdiv w (2 ^ (min (Int.toNat 8) (IntKind.bits .i64))) = w / 256 := by
    intro w
    have : min (Int.toNat 8) (IntKind.bits .i64) = 8 := by decide
    rw [this, Int.fdiv_eq_ediv_of_nonneg _ (by decide)]
    rfl
  refine ev_pos rfl (ev_pos (by decide) (ev_pos (by decide) ?_))
  have w3 : wrap64 (4 - 1) = 3 := by decide
  have w2 : wrap64 (3 - 1) = 2 := by decide
  have w1 : wrap64 (2 - 1) = 1 := by decide
  have w0 : wrap64 (1 - 1) = 0 := by decide
  have wm : wrap64 (0 - 1) = -1 := by decide
  have r4 : List.replicate (Int.toNat 4) (0 : Int) = [0, 0, 0, 0] := rfl
  rw [w3, r4]
  refine Ev.step (fun q => by rw [impl_highFirst_L3]) ?_
  refine ev_pos (by decide) (ev_pos (by decide) (ev_pos (by decide) (ev_pos (by decide) ?_)))
  rw [w2, e3]
  refine Ev.step (fun q => by rw [impl_highFirst_L3]) ?_
  refine ev_pos (by decide) (ev_pos (by decide) (ev_pos (by simp) (ev_pos (by decide) ?_)))
  rw [w1, e3]
  refine Ev.step (fun q => by rw [impl_highFirst_L3]) ?_
  refine ev_pos (by decide) (ev_pos (by decide) (ev_pos (by simp) (ev_pos (by decide) ?_)))
  rw [w0, e3]
  refine Ev.step (fun q => by rw [impl_highFirst_L3]) ?_
  refine ev_pos (by decide) (ev_pos (by decide) (ev_pos (by simp) (ev_pos (by decide) ?_)))
  rw [wm, e3]
  refine Ev.step (fun q => by rw [impl_highFirst_L3]) ?_
  refine ev_neg (by decide) (ev_eq ?_)
  have q0 := and255_eq hv
  have q1 := and255_eq (x := v / 256) (by omega)
  have q2 := and255_eq (x := v / 256 / 256) (by omega)
  have q3 := and255_eq (x := v / 256 / 256 / 256) (by omega)
  rw [q0, q1, q2, q3]
  unfold four
  have m : ∀ w : Int, wr .u8 (w % 256) = wr .u8 w := fun w => by rw [wr8, wr8]; omega
  simp only [m]
  have d2 : v / 65536 = v / 256 / 256 := by omega
  have d3 : v / 16777216 = v / 256 / 256 / 256 := by omega
  rw [d2, d3]
  rfl
/- impl_SumMore -/
theorem impl_SumMore_eq (s : ByteArray) (b : Int) (hs : s.size ≤ 1048580) : g_impl_SumMore (b, s) = some (sumF (bl s) b) := by
  have inner : ∀ (d j : Nat), j + d = 8 → ∀ (b i r : Int), Ev (fun k => impl_SumMore_L2 k (rnds d b, s, wrap64 (i + 1), ())) r → Ev (fun k => impl_SumMore_L6 k (b, s, i, (j : Int), ())) r := by
    intro d
    induction d with
    | zero =>
      intro j hj b i r h
      refine Ev.step (fun q => by rw [impl_SumMore_L6]) ?_
      exact ev_neg (by omega) h
    | succ d ih =>
      intro j hj b i r h
      refine Ev.step (fun q => by rw [impl_SumMore_L6]) ?_
      refine ev_pos (by omega) (ev_neg (by omega) (ev_neg (by omega) (ev_dom (fun hc => ?_) (fun hc => ?_))))
      · rw [w64_succ (by omega)]
        refine ih (j + 1) (by omega) _ i r ?_
        have e : rnds (d + 1) b = rnds d (ixor .u32 (wr .u32 (Int.tdiv b 2)) 3558460437) := by
          show rnds d (rnd b) = _
          unfold rnd; rw [if_pos hc]
        rw [← e]; exact h
      · rw [w64_succ (by omega)]
        refine ih (j + 1) (by omega) _ i r ?_
        have e : rnds (d + 1) b = rnds d (wr .u32 (Int.tdiv b 2)) := by
          show rnds d (rnd b) = _
          unfold rnd; rw [if_neg hc]
        rw [← e]; exact h
  refine evG_eq ?_
  unfold impl_SumMore_
  refine bytes_loop s (fun k z i => impl_SumMore_L2 k (z, s, i, ())) sumF (fun z => ?_) (fun i z x rest hx hi h => ?_) b
  · refine Ev.step (fun q => by rw [impl_SumMore_L2]) ?_
    exact ev_neg (by omega) ev_some
  · refine Ev.step (fun q => by rw [impl_SumMore_L2]) ?_
    refine ev_pos (by omega) (ev_pos (by omega) (ev_pos (by omega) ?_))
    rw [byt_drop hx]
    refine inner 8 0 rfl _ _ _ ?_
    rw [w64_succ (by omega)]
    exact h _
/- impl_SumOf -/
theorem impl_SumOf_eq (s : ByteArray) (hs : s.size ≤ 1048580) : g_impl_SumOf s = some (sumOf s) := by
  unfold g_impl_SumOf impl_SumOf_
  simp only [impl_SumMore_eq s _ hs, Option.bind_some]
  rfl
/- impl_Sealed -/
theorem u32_w64 (v : Int) (hu : U32 v) : wrap64 v = v := by
  unfold U32 at hu
  exact w64 (by omega) (by omega)
theorem impl_highFirst_u32 (v : Int) (hu : U32 v) : g_impl_highFirst (v, 4) = some (four v) := impl_highFirst_eq v hu.1
theorem size_four (s : ByteArray) (v : Int) (hs : s.size ≤ 1048580) : ((s.size + (four v).size : Nat) : Int) ≤ 9223372036854775807 := by
  rw [four_size]
  omega
theorem impl_Sealed_four (s : ByteArray) (v : Int) (hu : U32 v) (c2 : (((s.size + (four v).size : Nat) : Int) ≤ 9223372036854775807)) : ((g_impl_highFirst (wrap64 v, 4)).bind fun v1 => if ((s.size + v1.size : Nat) : Int) ≤ 9223372036854775807 then some (s ++ v1, true) else none) = some (s ++ four v, true) := by
  rw [u32_w64 v hu, impl_highFirst_u32 v hu, Option.bind_some, if_pos c2]
theorem impl_Sealed_eq (s : ByteArray) (hs : s.size ≤ 1048580) : g_impl_Sealed s = some (sealT s) := by
  have c2 := size_four s (sumOf s) hs
  show (if 20000 < ((ByteArray.size s : Nat) : Int) then some ((⟨#[]⟩ : ByteArray), false) else (g_impl_SumOf s).bind fun v0 => (g_impl_highFirst ((wrap64 v0), 4)).bind fun v1 => if ((ByteArray.size s + ByteArray.size v1 : Nat) : Int) ≤ 9223372036854775807 then some ((s ++ v1), true) else none) = _
  rw [impl_SumOf_eq s hs, Option.bind_some, impl_Sealed_four s (sumOf s) (u32_sumOf s) c2]
  clear c2
  unfold sealT
  by_cases h : 20000 < s.size
  · have c : (20000 : Int) < ((s.size : Nat) : Int) := by omega
    rw [if_pos c, if_pos h]
  · have c : ¬ (20000 : Int) < ((s.size : Nat) : Int) := by omega
    rw [if_neg c, if_neg h]
/- impl_Unsealed -/
theorem impl_Unsealed_eq (t : ByteArray) (hs : t.size ≤ 1048580) : g_impl_Unsealed t = some (unsealT t) := by
  unfold g_impl_Unsealed impl_Unsealed_ unsealT
  have hw : wrap64 (((t.size : Nat) : Int) - 4) = ((t.size : Nat) : Int) - 4 := w64 (by omega) (by omega)
  simp only [hw]
  by_cases h : t.size < 4
  · have c : ((t.size : Nat) : Int) - 4 < 0 := by omega
    rw [if_pos c, if_pos h]
  · have c : ¬ ((t.size : Nat) : Int) - 4 < 0 := by omega
    have c1 : 0 ≤ ((t.size : Nat) : Int) - 4 := by omega
    have c2 : ((t.size : Nat) : Int) - 4 ≤ ((t.size : Nat) : Int) := by omega
    have e : ByteArray.extract t (Int.toNat 0) (Int.toNat (((t.size : Nat) : Int) - 4)) = front t := by
      have : (Int.toNat (((t.size : Nat) : Int) - 4)) = t.size - 4 := by omega
      rw [this]; rfl
    have hf := front_size t
    have hq := impl_Sealed_eq (front t) (by omega)
    rw [if_neg c, if_neg h]
    simp only [c1, c2, if_true, e, hq, Option.bind_some]
    unfold sealT
    by_cases h2 : 20000 < (front t).size
    · have h3 : ¬ ((front t).size ≤ 20000 ∧ front t ++ four (sumOf (front t)) = t) := by omega
      rw [if_pos h2, if_neg h3]
      simp
    · rw [if_neg h2]
      by_cases h3 : front t ++ four (sumOf (front t)) = t
      · have h4 : (front t).size ≤ 20000 ∧ front t ++ four (sumOf (front t)) = t := ⟨by omega, h3⟩
        rw [if_pos h4]
        simp [h3]
      · have h4 : ¬ ((front t).size ≤ 20000 ∧ front t ++ four (sumOf (front t)) = t) := fun q => h3 q.2
        rw [if_neg h4]
        simp [h3]
/- impl_ReadOrder -/
theorem w64_byt (s : ByteArray) : wrap64 (byt s 0) = byt s 0 := by
  have e2 : byt s 0 = (byN s 0 : Int) := byt_byN s 0
  have hc := byN_le s 0
  rw [e2]
  exact w64 (by omega) (by omega)
theorem impl_ReadOrder_eq (t : ByteArray) (hs : t.size ≤ 1048580) : g_impl_ReadOrder t = some (readO t) := by
  unfold g_impl_ReadOrder impl_ReadOrder_ readO
  simp only [impl_Unsealed_eq t hs, Option.bind_some]
  by_cases hu : (unsealT t).2 = true
  case neg =>
    rw [if_neg hu, if_neg (fun q => hu q.1)]
  have hz := (unsealT_ok hu).1
  rw [if_pos hu]
  generalize (unsealT t).1 = s at hz
  by_cases h0 : 0 < s.size
  case neg =>
    have he : s = ⟨#[]⟩ := (eq_empty s).2 (by omega)
    rw [if_pos he, if_neg (fun q => h0 q.2)]
  have he : ¬ s = ⟨#[]⟩ := fun q => by rw [(eq_empty s).1 q] at h0; omega
  have c0 : (0 : Int) < ((s.size : Nat) : Int) := by omega
  rw [if_neg he, if_pos (Nat.le_refl 0), if_pos c0, if_pos ⟨hu, h0⟩]
  have k1 := numberF_keep (s, 1, false)
  have k2 := numberF_keep (numberF (s, 1, false)).2
  have e1 := impl_reader__number_eq s 1 false (by omega)
  have e2 : g_impl_reader__number (numberF (s, 1, false)).2 = some (numberF (numberF (s, 1, false)).2) := by
    have h : (numberF (s, 1, false)).2.1.size ≤ 1048580 := by rw [k1]; show s.size ≤ _; omega
    exact impl_reader__number_eq _ _ _ h
  have e3 : g_impl_reader__number (numberF (numberF (s, 1, false)).2).2 = some (numberF (numberF (numberF (s, 1, false)).2).2) := by
    have h : (numberF (numberF (s, 1, false)).2).2.1.size ≤ 1048580 := by rw [k2, k1]; show s.size ≤ _; omega
    exact impl_reader__number_eq _ _ _ h
  simp only [e1, e2, e3, Option.bind_some, w64_byt, impl_OrderOk_eq]
  by_cases hb : (numberF (numberF (numberF (s, 1, false)).2).2).2.2.2 = true
  · rw [if_pos hb, if_pos hb]
  · rw [if_neg hb, if_neg hb]
    by_cases ha : (numberF (numberF (numberF (s, 1, false)).2).2).2.2.1 = ((s.size : Nat) : Int)
    · rw [if_pos ha]
      split
      · rename_i hk; rw [if_pos ⟨ha, hk⟩]
      · rename_i hk; rw [if_neg (fun q => hk q.2)]
    · rw [if_neg ha, if_neg (fun q => ha q.1)]
/- laws_turned -/
theorem laws_turned_ex (s : ByteArray) (q : List Int) (hs0 : 0 < s.size) (hs : s.size ≤ 1048580) (hq : q.length = 12) (hx : ∀ x ∈ q, 0 ≤ x) : ∃ t, g_laws_turned (s, q) = some t ∧ ∃ i y, i < s.size ∧ bl t = (bl s).set i y ∧ (bl s)[i]? ≠ some y := by
  have a0 : 0 ≤ List.getD q (Int.toNat 0) 0 := by
    have : q.getD (Int.toNat ((0 : Nat) : Int)) 0 = q[0]'(by omega) := getD_lt (i := 0) (by omega)
    show 0 ≤ q.getD (Int.toNat ((0 : Nat) : Int)) 0
    rw [this]; exact hx _ (List.getElem_mem _)
  have a1 : 0 ≤ List.getD q (Int.toNat 1) 0 := by
    have : q.getD (Int.toNat ((1 : Nat) : Int)) 0 = q[1]'(by omega) := getD_lt (i := 1) (by omega)
    show 0 ≤ q.getD (Int.toNat ((1 : Nat) : Int)) 0
    rw [this]; exact hx _ (List.getElem_mem _)
  have l0 : (0 : Int) < ((q.length : Nat) : Int) := by omega
  have l1 : (1 : Int) < ((q.length : Nat) : Int) := by omega
  have bl_ := byl_len s
  have c0 : ¬ (((byl s).length : Nat) : Int) = 0 := by omega
  have c1 : ((s.size : Nat) : Int) ≤ 9223372036854775807 := by omega
  have e0 := tmod_at a0 (byl s).length
  have hi : (List.getD q (Int.toNat 0) 0).toNat % (byl s).length < (byl s).length := Nat.mod_lt _ (by omega)
  have p0 : 0 ≤ Int.tmod (List.getD q (Int.toNat 0) 0) (((byl s).length : Nat) : Int) := by rw [e0]; exact Int.natCast_nonneg _
  have p1 : Int.tmod (List.getD q (Int.toNat 0) 0) (((byl s).length : Nat) : Int) < (((byl s).length : Nat) : Int) := by rw [e0]; exact Int.ofNat_lt.2 hi
  have e1 := turn_wr a1
  have v1 : 1 + (List.getD q (Int.toNat 1) 0).toNat % 255 < 256 := by
    have := Nat.mod_lt (List.getD q (Int.toNat 1) 0).toNat (show 0 < 255 by decide)
    omega
  unfold g_laws_turned laws_turned_
  refine ex_pos c1 (ex_neg c0 (ex_pos (Nat.le_refl 0) (ex_pos l0 (ex_neg c0 (ex_pos p0 (ex_pos p1 (ex_pos (by decide) (ex_pos l1 (ex_neg (by decide) (ex_pos p0 (ex_pos p1 ?_)))))))))))
  rw [e1, e0, Int.toNat_natCast]
  obtain ⟨y, h1, h2⟩ := turn_val (s := s) (i := (List.getD q (Int.toNat 0) 0).toNat % (byl s).length) (by omega) (v := 1 + (List.getD q (Int.toNat 1) 0).toNat % 255) (by omega) v1
  exact ⟨_, rfl, _, y, by omega, h1, h2⟩
theorem laws_turned_empty (s : ByteArray) (q : List Int) (hs0 : s.size = 0) : g_laws_turned (s, q) = some (⟨#[120]⟩ : ByteArray) := by
  have bl_ := byl_len s
  have c0 : (((byl s).length : Nat) : Int) = 0 := by omega
  have c1 : ((s.size : Nat) : Int) ≤ 9223372036854775807 := by omega
  unfold g_laws_turned laws_turned_
  exact (if_pos c1).trans (if_pos c0)
/- spec_l01Byte -/
theorem and255 (x : Int) : 0 ≤ iand .i64 x 255 ∧ iand .i64 x 255 ≤ 255 := by
  have e : iand .i64 x 255 = IntKind.i64.wrap (((BitVec.ofInt 64 x &&& BitVec.ofInt 64 255).toNat : Nat) : Int) := rfl
  have h : (BitVec.ofInt 64 x &&& BitVec.ofInt 64 255).toNat ≤ 255 := by
    rw [BitVec.toNat_and]
    exact Nat.le_trans Nat.and_le_right (by decide)
  rw [e, IntKind.wrap_i64]
  omega
theorem l01Byte_some (l : List Int) (i s : Int) (hl : l.length ≤ 1048576) (hi : 0 ≤ i) : ∃ b i' s', g_spec_l01Byte (l, i, s) = some (b, ((), i', s')) ∧ 0 ≤ b ∧ b ≤ 255 ∧ 0 ≤ i' := by
  unfold g_spec_l01Byte spec_l01Byte_
  simp only []
  rw [if_pos (by omega), if_pos (by omega)]
  by_cases h : i < (l.length : Int)
  · rw [if_pos h, if_pos hi, if_pos h, w64 (n := i + 1) (by omega) (by omega)]
    exact ⟨_, _, _, rfl, (and255 _).1, (and255 _).2, by omega⟩
  · rw [if_neg h]
    exact ⟨_, _, _, rfl, (and255 _).1, (and255 _).2, hi⟩
/- spec_l01Below -/
theorem l01Below_some (l : List Int) (i s n : Int) (hl : l.length ≤ 1048576) (hi : 0 ≤ i) (hn : 0 < n) : ∃ v i' s', g_spec_l01Below ((l, i, s), n) = some (v, ((), i', s')) ∧ 0 ≤ v ∧ v < n ∧ 0 ≤ i' := by
  unfold g_spec_l01Below spec_l01Below_
  simp only []
  rw [if_neg (by omega)]
  by_cases h : n ≤ 256
  · rw [if_pos h]
    obtain ⟨b, i1, s1, e, h1, h2, h3⟩ := l01Byte_some l i s hl hi
    rw [e, Option.bind_some, if_neg (by omega)]
    exact ⟨_, _, _, rfl, Int.tmod_nonneg _ h1, Int.tmod_lt_of_pos _ hn, h3⟩
  · rw [if_neg h]
    obtain ⟨b1, i1, s1, e1, h11, h12, h13⟩ := l01Byte_some l i s hl hi
    obtain ⟨b2, i2, s2, e2, h21, h22, h23⟩ := l01Byte_some l i1 s1 hl h13
    obtain ⟨b3, i3, s3, e3, h31, h32, h33⟩ := l01Byte_some l i2 s2 hl h23
    obtain ⟨b4, i4, s4, e4, h41, h42, h43⟩ := l01Byte_some l i3 s3 hl h33
    simp only [e1, e2, e3, e4, Option.bind_some]
    rw [if_neg (by omega)]
    refine ⟨_, _, _, rfl, Int.tmod_nonneg _ ?_, Int.tmod_lt_of_pos _ hn, h43⟩
    show 0 ≤ wrap64 ((wrap64 ((wrap64 ((wrap64 (b1 * 16777216)) + (wrap64 (b2 * 65536)))) + (wrap64 (b3 * 256)))) + b4)
    unfold wrap64; omega
/- spec_l01New -/
theorem l01New_ev (l : List Int) (hl : l.length ≤ 1048576) : ∃ x, g_spec_l01New l = some ((), 0, x) := by
  have key : ∀ (d : Nat) (i : Nat), l.length = i + d → ∀ x, ∃ y, Ev (fun k => spec_l01New_L3 k (x, (i : Int), l, ())) ((), (0 : Int), y) := by
    intro d
    induction d with
    | zero =>
      intro i hi x
      exact ⟨x, Ev.step (fun q => by rw [spec_l01New_L3]) (ev_neg (by omega) ev_some)⟩
    | succ d ih =>
      intro i hi x
      by_cases h4 : (i : Int) < 4000
      · obtain ⟨y, hy⟩ := ih (i + 1) (by omega) _
        refine ⟨y, Ev.step (fun q => by rw [spec_l01New_L3]) (ev_pos (by omega) (ev_pos h4 (ev_pos (by omega) (ev_pos (by omega) ?_))))⟩
        rw [w64_succ (by omega)]
        exact hy
      · exact ⟨x, Ev.step (fun q => by rw [spec_l01New_L3]) (ev_pos (by omega) (ev_neg h4 ev_some))⟩
  obtain ⟨y, hy⟩ := key l.length 0 (by omega) _
  exact ⟨y, evG_eq hy⟩
/- spec_DrawPlaces -/
theorem spec_DrawPlaces_some (code : List Int) (hl : code.length ≤ 1048576) : ∃ q, g_spec_DrawPlaces code = some q ∧ q.length = 12 ∧ ∀ x ∈ q, 0 ≤ x ∧ x < 10000 := by
  have key : ∀ (d n : Nat), n + d = 12 → ∀ (i h : Int) (q : List Int), 0 ≤ i → q.length = n → (∀ x ∈ q, 0 ≤ x ∧ x < 10000) →
      ∃ q', Ev (fun k => spec_DrawPlaces_L5 (fun _ => g_spec_l01Below) (fun _ => g_spec_l01Byte) (fun _ => g_spec_l01New) k ((n : Int), code, i, h, q, ())) q' ∧ q'.length = 12 ∧ ∀ x ∈ q', 0 ≤ x ∧ x < 10000 := by
    intro d
    induction d with
    | zero =>
      intro n hn i h q hi hq hx
      exact ⟨q, Ev.step (fun q => by rw [spec_DrawPlaces_L5]) (ev_neg (by omega) ev_some), by omega, hx⟩
    | succ d ih =>
      intro n hn i h q hi hq hx
      obtain ⟨v, i', s', e, h1, h2, h3⟩ := l01Below_some code i h 10000 hl hi (by omega)
      obtain ⟨q', h4, h5⟩ := ih (n + 1) (by omega) i' s' (q ++ [v]) h3 (by simp [hq]) (fun x hx' => by
        rcases List.mem_append.1 hx' with hx' | hx'
        · exact hx x hx'
        · simp at hx'; subst hx'; exact ⟨h1, h2⟩)
      refine ⟨q', Ev.step (fun q => by rw [spec_DrawPlaces_L5]) (ev_pos (by omega) (ev_bind e (ev_pos ?_ ?_))), h5⟩
      · simp only [List.length_singleton, hq]; omega
      · rw [w64_succ (by omega)]
        exact h4
  obtain ⟨x, hn⟩ := l01New_ev code hl
  obtain ⟨b, i', s', e, _, _, h3⟩ := l01Byte_some code 0 x hl (by omega)
  obtain ⟨q, h4, h5⟩ := key 12 0 rfl i' s' [] h3 rfl (fun x hx => by cases hx)
  refine ⟨q, evG_eq ?_, h5⟩
  unfold spec_DrawPlaces_
  exact ev_bind hn (ev_bind e h4)
/- impl_VarText -/
theorem impl_VarText_eq (n : Int) : g_impl_VarText n = some (if 0 ≤ n ∧ n ≤ 1000000000 then (varT n.toNat, true) else (⟨#[]⟩, false)) := by
  refine evG_eq ?_
  unfold impl_VarText_
  have key : ∀ (n : Nat), n ≤ 9223372036854775807 → ∀ (l : List Int), l.length + (varL n).length ≤ 1000 → Ev (fun k => impl_VarText_L4 (fun _ => g_impl_within) k ((n : Int), l, ())) (bstr (l ++ (varL n).map fun (x : Nat) => (x : Int)), true) := by
    intro n
    induction n using varL.induct with
    | case1 n h =>
      intro hn l hl
      refine Ev.step (fun q => by rw [impl_VarText_L4]) ?_
      have hv : varL n = [n] := by unfold varL; rw [dif_pos h]
      rw [hv] at hl
      refine ev_neg (by omega) (ev_pos (by simp only [List.length_singleton] at hl ⊢; omega) (ev_eq ?_))
      rw [hv]
      have : wr .u8 (n : Int) = (n : Int) := by rw [wr8]; omega
      rw [this]
      rfl
    | case2 n h ih =>
      intro hn l hl
      refine Ev.step (fun q => by rw [impl_VarText_L4]) ?_
      have hv : varL n = (n % 128 + 128) :: varL (n / 128) := by
        conv => lhs; unfold varL
        rw [dif_neg h]
      rw [hv] at hl ⊢
      simp only [List.length_cons] at hl
      refine ev_pos (by omega) (ev_neg (by omega) (ev_pos (by simp only [List.length_singleton]; omega) (ev_neg (by omega) ?_)))
      have e1 : wrap64 (Int.tdiv (n : Int) 128) = ((n / 128 : Nat) : Int) := by
        have : Int.tdiv (n : Int) 128 = ((n / 128 : Nat) : Int) := by
          rw [Int.tdiv_eq_ediv_of_nonneg (by omega)]; omega
        rw [this]
        exact w64 (by omega) (by omega)
      have e2 : wr .u8 (wrap64 ((Int.tmod (n : Int) 128) + 128)) = ((n % 128 + 128 : Nat) : Int) := by
        have : Int.tmod (n : Int) 128 = ((n % 128 : Nat) : Int) := by
          rw [Int.tmod_eq_emod_of_nonneg (by omega)]; omega
        rw [this, w64 (by omega) (by omega), wr8]
        omega
      rw [e1, e2]
      have := ih (by omega) (l ++ [((n % 128 + 128 : Nat) : Int)]) (by simp only [List.length_append, List.length_singleton]; omega)
      rw [List.append_assoc] at this
      exact this
  refine ev_bind (impl_within_eq _ _ _) ?_
  by_cases h : 0 ≤ n ∧ n ≤ 1000000000
  · rw [if_pos h]
    refine ev_pos (by simp [h]) ?_
    have hn : n.toNat ≤ 9223372036854775807 := by omega
    have h10 := varT_size hn
    unfold varT at h10
    rw [size_bstr, List.length_map] at h10
    have := key n.toNat hn [] (by simp only [List.length_nil]; omega)
    rw [Int.toNat_of_nonneg h.1] at this
    exact this
  · rw [if_neg h]
    exact ev_neg (by simpa using h) ev_some
/- impl_numbers -/
theorem impl_numbers_eq (b c x : Int) (hb : 0 ≤ b ∧ b ≤ 1000000) (hc : 0 ≤ c ∧ c ≤ 1000000) (hx : 0 ≤ x ∧ x ≤ 1000000) : g_impl_numbers [b, c, x] = some ((⟨#[]⟩ : ByteArray) ++ varT b.toNat ++ varT c.toNat ++ varT x.toNat) := by
  have e : ∀ n : Int, 0 ≤ n ∧ n ≤ 1000000 → g_impl_VarText n = some (varT n.toNat, true) := fun n hn => by rw [impl_VarText_eq, if_pos ⟨hn.1, by omega⟩]
  have z : ∀ n : Int, 0 ≤ n ∧ n ≤ 1000000 → (varT n.toNat).size ≤ 10 := fun n hn => varT_size (n := n.toNat) (by omega)
  have zb := z b hb
  have zc := z c hc
  have zx := z x hx
  have z0 : (⟨#[]⟩ : ByteArray).size = 0 := rfl
  have c1 : (((⟨#[]⟩ : ByteArray).size + (varT b.toNat).size : Nat) : Int) ≤ 9223372036854775807 := by omega
  have c2 : ((((⟨#[]⟩ : ByteArray) ++ varT b.toNat).size + (varT c.toNat).size : Nat) : Int) ≤ 9223372036854775807 := by rw [size_append]; omega
  have c3 : ((((⟨#[]⟩ : ByteArray) ++ varT b.toNat ++ varT c.toNat).size + (varT x.toNat).size : Nat) : Int) ≤ 9223372036854775807 := by rw [size_append, size_append]; omega
  have w1 : wrap64 (0 + 1) = 1 := w64 (by decide) (by decide)
  have w2 : wrap64 (1 + 1) = 2 := w64 (by decide) (by decide)
  have w3 : wrap64 (2 + 1) = 3 := w64 (by decide) (by decide)
  have l3 : (([b, c, x].length : Nat) : Int) = 3 := rfl
  refine evG_eq ?_
  show Ev (fun k => impl_numbers_L3 (fun _ => g_impl_VarText) k ((⟨#[]⟩ : ByteArray), (([b, c, x].length : Nat) : Int), 0, [b, c, x], ())) _
  rw [l3]
  refine Ev.step (fun q => by rw [impl_numbers_L3]) ?_
  rw [l3, w1]
  refine ev_pos (by decide) (ev_pos (by decide) (ev_pos (by decide) (ev_bind (e b hb) (ev_pos c1 ?_))))
  refine Ev.step (fun q => by rw [impl_numbers_L3]) ?_
  rw [l3, w2]
  refine ev_pos (by decide) (ev_pos (by decide) (ev_pos (by decide) (ev_bind (e c hc) (ev_pos c2 ?_))))
  refine Ev.step (fun q => by rw [impl_numbers_L3]) ?_
  rw [l3, w3]
  refine ev_pos (by decide) (ev_pos (by decide) (ev_pos (by decide) (ev_bind (e x hx) (ev_pos c3 ?_))))
  refine Ev.step (fun q => by rw [impl_numbers_L3]) ?_
  exact ev_neg (by decide) ev_some
/- impl_OrderText -/
theorem impl_OrderText_eq (o : Order) : g_impl_OrderText o = some (orderT o) := by
  obtain ⟨a, b, c, x⟩ := o
  unfold g_impl_OrderText impl_OrderText_ orderT
  simp only [impl_OrderOk_eq, Option.bind_some]
  by_cases h : orderOk (a, b, c, x) = true
  · rw [if_pos h, if_pos h]
    have hp := orderOk_den h
    unfold OrderOkP at hp
    have hb : 0 ≤ b ∧ b ≤ 1000000 := by omega
    have hc : 0 ≤ c ∧ c ≤ 1000000 := by omega
    have hx : 0 ≤ x ∧ x ≤ 1000000 := by omega
    clear hp h
    have s1 : (varT b.toNat).size ≤ 10 := varT_size (n := b.toNat) (by omega)
    have s2 : (varT c.toNat).size ≤ 10 := varT_size (n := c.toNat) (by omega)
    have s3 : (varT x.toNat).size ≤ 10 := varT_size (n := x.toNat) (by omega)
    simp only [impl_numbers_eq b c x hb hc hx, Option.bind_some]
    unfold otext
    simp only []
    generalize varT b.toNat = B at *
    generalize varT c.toNat = C at *
    generalize varT x.toNat = X at *
    have s0 : (bstr [wr .u8 a]).size = 1 := by rw [size_bstr]; rfl
    generalize bstr [wr .u8 a] = A at *
    have z0 : (⟨#[]⟩ : ByteArray).size = 0 := rfl
    have e : A ++ ((⟨#[]⟩ : ByteArray) ++ B ++ C ++ X) = A ++ B ++ C ++ X := by
      apply ba_ext
      simp only [bl_append, bl_empty, List.nil_append, List.append_assoc]
    have hz : (A ++ B ++ C ++ X).size ≤ 1048580 := by rw [size_append, size_append, size_append]; omega
    rw [if_pos (by rw [size_append, size_append, size_append]; omega), e, impl_Sealed_eq _ hz]
    rfl
  · rw [if_neg h, if_neg h]
/- spec_l02Four -/
theorem spec_l02Four_eq (v : Int) : g_spec_l02Four v = some (four v) := by
  unfold g_spec_l02Four spec_l02Four_
  rw [if_pos (by decide), if_pos (by decide), if_pos (by decide)]
  have e1 := shr_u32 (v := v) 24 (by decide)
  have e2 := shr_u32 (v := v) 16 (by decide)
  have e3 := shr_u32 (v := v) 8 (by decide)
  unfold four
  have p1 : (2 : Int) ^ 24 = 16777216 := by decide
  have p2 : (2 : Int) ^ 16 = 65536 := by decide
  have p3 : (2 : Int) ^ 8 = 256 := by decide
  rw [p1] at e1; rw [p2] at e2; rw [p3] at e3
  rw [← e1, ← e2, ← e3]
  rfl
/- spec_SumMore -/
theorem spec_SumMore_eq (s : ByteArray) (b : Int) (hs : s.size ≤ 1048580) : g_spec_SumMore (b, s) = some (sumF (bl s) b) := by
  have inner : ∀ (d j : Nat), j + d = 8 → ∀ (b i r : Int), Ev (fun k => spec_SumMore_L2 k (rnds d b, s, wrap64 (i + 1), ())) r → Ev (fun k => spec_SumMore_L6 k (b, s, i, (j : Int), ())) r := by
    intro d
    induction d with
    | zero =>
      intro j hj b i r h
      refine Ev.step (fun q => by rw [spec_SumMore_L6]) ?_
      exact ev_neg (by omega) h
    | succ d ih =>
      intro j hj b i r h
      refine Ev.step (fun q => by rw [spec_SumMore_L6]) ?_
      refine ev_pos (by omega) (ev_neg (by omega) (ev_neg (by omega) (ev_dom (fun hc => ?_) (fun hc => ?_))))
      · rw [w64_succ (by omega)]
        refine ih (j + 1) (by omega) _ i r ?_
        have e : rnds (d + 1) b = rnds d (ixor .u32 (wr .u32 (Int.tdiv b 2)) 3558460437) := by
          show rnds d (rnd b) = _
          unfold rnd; rw [if_pos hc]
        rw [← e]; exact h
      · rw [w64_succ (by omega)]
        refine ih (j + 1) (by omega) _ i r ?_
        have e : rnds (d + 1) b = rnds d (wr .u32 (Int.tdiv b 2)) := by
          show rnds d (rnd b) = _
          unfold rnd; rw [if_neg hc]
        rw [← e]; exact h
  refine evG_eq ?_
  unfold spec_SumMore_
  refine bytes_loop s (fun k z i => spec_SumMore_L2 k (z, s, i, ())) sumF (fun z => ?_) (fun i z x rest hx hi h => ?_) b
  · refine Ev.step (fun q => by rw [spec_SumMore_L2]) ?_
    exact ev_neg (by omega) ev_some
  · refine Ev.step (fun q => by rw [spec_SumMore_L2]) ?_
    refine ev_pos (by omega) (ev_pos (by omega) (ev_pos (by omega) ?_))
    rw [byt_drop hx]
    refine inner 8 0 rfl _ _ _ ?_
    rw [w64_succ (by omega)]
    exact h _
/- spec_SumOf -/
theorem spec_SumOf_eq (s : ByteArray) (hs : s.size ≤ 1048580) : g_spec_SumOf s = some (sumOf s) := by
  unfold g_spec_SumOf spec_SumOf_
  simp only [spec_SumMore_eq s _ hs, Option.bind_some]
  rfl
/- spec_Sealed -/
theorem size_fourS (s : ByteArray) (v : Int) (hs : s.size ≤ 1048580) : ((s.size + (four v).size : Nat) : Int) ≤ 9223372036854775807 := by
  rw [four_size]
  omega
theorem spec_Sealed_eq (s : ByteArray) (hs : s.size ≤ 1048580) : g_spec_Sealed s = some (sealT s) := by
  have c2 := size_fourS s (sumOf s) hs
  show (if 20000 < ((ByteArray.size s : Nat) : Int) then some ((⟨#[]⟩ : ByteArray), false) else (g_spec_SumOf s).bind fun v0 => (g_spec_l02Four v0).bind fun v1 => if ((ByteArray.size s + ByteArray.size v1 : Nat) : Int) ≤ 9223372036854775807 then some ((s ++ v1), true) else none) = _
  rw [spec_SumOf_eq s hs, Option.bind_some, spec_l02Four_eq, Option.bind_some, if_pos c2]
  clear c2
  unfold sealT
  by_cases h : 20000 < s.size
  · have c : (20000 : Int) < ((s.size : Nat) : Int) := by omega
    rw [if_pos c, if_pos h]
  · have c : ¬ (20000 : Int) < ((s.size : Nat) : Int) := by omega
    rw [if_neg c, if_neg h]
/- spec_l01Var -/
theorem spec_l01Var_eq (n : Nat) (hn : n ≤ 9223372036854775807) : g_spec_l01Var (n : Int) = some (varT n) := by
  refine evG_eq ?_
  unfold spec_l01Var_
  have key : ∀ (n : Nat), n ≤ 9223372036854775807 → ∀ (l : List Int), l.length + (varL n).length ≤ 1000 → Ev (fun k => spec_l01Var_L2 k ((n : Int), l, ())) (bstr (l ++ (varL n).map fun (x : Nat) => (x : Int))) := by
    intro n
    induction n using varL.induct with
    | case1 n h =>
      intro hn l hl
      refine Ev.step (fun q => by rw [spec_l01Var_L2]) ?_
      have hv : varL n = [n] := by unfold varL; rw [dif_pos h]
      rw [hv] at hl
      refine ev_neg (by omega) (ev_pos (by simp only [List.length_singleton] at hl ⊢; omega) (ev_eq ?_))
      rw [hv]
      have : wr .u8 (n : Int) = (n : Int) := by rw [wr8]; omega
      rw [this]
      rfl
    | case2 n h ih =>
      intro hn l hl
      refine Ev.step (fun q => by rw [spec_l01Var_L2]) ?_
      have hv : varL n = (n % 128 + 128) :: varL (n / 128) := by
        conv => lhs; unfold varL
        rw [dif_neg h]
      rw [hv] at hl ⊢
      simp only [List.length_cons] at hl
      refine ev_pos (by omega) (ev_neg (by omega) (ev_pos (by simp only [List.length_singleton]; omega) (ev_neg (by omega) ?_)))
      have e1 : wrap64 (Int.tdiv (n : Int) 128) = ((n / 128 : Nat) : Int) := by
        have : Int.tdiv (n : Int) 128 = ((n / 128 : Nat) : Int) := by
          rw [Int.tdiv_eq_ediv_of_nonneg (by omega)]; omega
        rw [this]
        exact w64 (by omega) (by omega)
      have e2 : wr .u8 (wrap64 ((Int.tmod (n : Int) 128) + 128)) = ((n % 128 + 128 : Nat) : Int) := by
        have : Int.tmod (n : Int) 128 = ((n % 128 : Nat) : Int) := by
          rw [Int.tmod_eq_emod_of_nonneg (by omega)]; omega
        rw [this, w64 (by omega) (by omega), wr8]
        omega
      rw [e1, e2]
      have := ih (by omega) (l ++ [((n % 128 + 128 : Nat) : Int)]) (by simp only [List.length_append, List.length_singleton]; omega)
      rw [List.append_assoc] at this
      exact this
  have h10 := varT_size hn
  unfold varT at h10
  rw [size_bstr, List.length_map] at h10
  exact key n hn [] (by simp only [List.length_nil]; omega)
/- spec_l01In -/
theorem spec_l01In_eq (a b c : Int) : g_spec_l01In (a, b, c) = some (decide (b ≤ a ∧ a ≤ c)) := by
  show (if b ≤ a then some (decide (a ≤ c)) else some false) = _
  split
  · rename_i h; refine eq_dec ?_; rw [decide_eq_true_iff]; omega
  · rename_i h; exact dec_no (by omega)
/- spec_OrderOk -/
theorem spec_OrderOk_eq (o : Order) : g_spec_OrderOk o = some (orderOk o) := by
  obtain ⟨a, b, c, x⟩ := o
  show _ = some (decide (OrderOkP a b c x))
  unfold g_spec_OrderOk spec_OrderOk_
  simp only [spec_l01In_eq, Option.bind_some, decide_eq_true_eq, mn_eq]
  by_cases h : 1 ≤ c ∧ c ≤ 1000
  · have hw : wrap64 (3 * c) = 3 * c := w64 (by omega) (by omega)
    rw [hw]
    repeat' refine ite_r (fun _ => ?_) (fun _ => ?_)
    all_goals first
      | exact dec_no (by unfold OrderOkP; omega)
      | exact dec_yes (by unfold OrderOkP; omega)
      | (exfalso; omega)
      | (exfalso; simp_all; done)
      | (refine eq_dec ?_; simp only [Bool.and_eq_true, decide_eq_true_eq, decide_true, true_and]; unfold OrderOkP; omega)
  · simp only [h, if_false]
    repeat' refine ite_r (fun _ => ?_) (fun _ => ?_)
    all_goals first
      | exact dec_no (by unfold OrderOkP; omega)
      | exact dec_yes (by unfold OrderOkP; omega)
      | (exfalso; omega)
      | (exfalso; simp_all; done)
      | (refine eq_dec ?_; simp only [Bool.and_eq_true, decide_eq_true_eq, decide_true, true_and]; unfold OrderOkP; omega)
/- spec_OrderText -/
theorem spec_OrderText_eq (o : Order) : g_spec_OrderText o = some (orderT o) := by
  obtain ⟨a, b, c, x⟩ := o
  unfold g_spec_OrderText spec_OrderText_ orderT
  simp only [spec_OrderOk_eq, Option.bind_some]
  by_cases h : orderOk (a, b, c, x) = true
  · rw [if_pos h, if_pos h]
    have hp := orderOk_den h
    unfold OrderOkP at hp
    have hb : 0 ≤ b ∧ b ≤ 1000000 := by omega
    have hc : 0 ≤ c ∧ c ≤ 1000000 := by omega
    have hx : 0 ≤ x ∧ x ≤ 1000000 := by omega
    clear hp h
    obtain ⟨nb, rfl⟩ := Int.eq_ofNat_of_zero_le hb.1
    obtain ⟨nc, rfl⟩ := Int.eq_ofNat_of_zero_le hc.1
    obtain ⟨nx, rfl⟩ := Int.eq_ofNat_of_zero_le hx.1
    have e1 := spec_l01Var_eq nb (by omega)
    have e2 := spec_l01Var_eq nc (by omega)
    have e3 := spec_l01Var_eq nx (by omega)
    have s1 := varT_size (n := nb) (by omega)
    have s2 := varT_size (n := nc) (by omega)
    have s3 := varT_size (n := nx) (by omega)
    unfold otext
    simp only [e1, e2, e3, Option.bind_some, Int.toNat_natCast]
    clear e1 e2 e3
    generalize varT nb = B at *
    generalize varT nc = C at *
    generalize varT nx = X at *
    have s0 : (bstr [wr .u8 a]).size = 1 := by rw [size_bstr]; rfl
    generalize bstr [wr .u8 a] = A at *
    have c1 : ((A.size + B.size : Nat) : Int) ≤ 9223372036854775807 := by omega
    have c2 : (((A ++ B).size + C.size : Nat) : Int) ≤ 9223372036854775807 := by rw [size_append]; omega
    have c3 : (((A ++ B ++ C).size + X.size : Nat) : Int) ≤ 9223372036854775807 := by rw [size_append, size_append]; omega
    rw [if_pos c1, if_pos c2, if_pos c3]
    have hz : (A ++ B ++ C ++ X).size ≤ 1048580 := by rw [size_append, size_append, size_append]; omega
    rw [spec_Sealed_eq _ hz]
    rfl
  · rw [if_neg h, if_neg h]
/- spec_ReadVar -/
-- needs: impl_ReadVar
theorem tmod128 (c : Nat) : Int.tmod (c : Int) 128 = ((c % 128 : Nat) : Int) := by
  rw [Int.tmod_eq_emod_of_nonneg (by omega)]; omega
theorem w64_le (c : Nat) (h : c ≤ 34359738368) : wrap64 (c : Int) = (c : Int) := w64 (by omega) (by omega)
theorem lt128 {c : Nat} (h : ¬ 127 < c) : (c : Int) < 128 := by omega
theorem le_128 {c : Nat} (h : 127 < c) : ¬ (c : Int) < 128 := by omega
set_option maxHeartbeats 60000 in
theorem spec_ReadVar_eq (s : ByteArray) (i : Int) (hs : s.size ≤ 1048580) : g_spec_ReadVar (s, i) = some (readV s i) := by
  refine evG_eq ?_
  unfold spec_ReadVar_ readV
  refine ev_bind (spec_l01In_eq _ _ _) ?_
  by_cases h : 0 ≤ i ∧ i ≤ (s.size : Int)
  case neg =>
    rw [if_neg h]
    exact ev_neg (by simpa using h) ev_some
  rw [if_pos h]
  refine ev_pos (by simp [h]) ?_
  obtain ⟨a, rfl⟩ := Int.eq_ofNat_of_zero_le h.1
  have ha : a ≤ s.size := by omega
  rw [Int.toNat_natCast]
  have ea5 : wrap64 ((a : Int) + 5) = ((a + 5 : Nat) : Int) := by
    rw [w64 (by omega) (by omega)]; omega
  have key : ∀ (f j n : Nat), j + f = 5 → n < 128 ^ j → n = accV (bytN s a j) 0 → (∀ x ∈ bytN s a j, 128 ≤ x ∧ x ≤ 255) → Ev (fun k => spec_ReadVar_L6 (fun _ => g_spec_l01In) (fun _ => g_spec_l01Var) k (s, (a : Int), (n : Int), ((128 ^ j : Nat) : Int), ((a + j : Nat) : Int), ())) (rdv s a f j n) := by
    intro f
    induction f with
    | zero =>
      intro j n hj hn _ _
      refine Ev.step (fun q => by rw [spec_ReadVar_L6]) ?_
      rw [ea5]
      refine ev_dom (fun _ => ?_) (fun _ => ev_some)
      exact ev_neg (by omega) ev_some
    | succ f ih =>
      intro j n hj hn hacc hall
      have hc := byN_le s (a + j)
      have hst := readV_step j n (byN s (a + j) % 128) (by omega) hn
      have hB := Nat.lt_of_lt_of_le hst (readV_le (j + 1) (by omega))
      have hP := readV_le j (by omega)
      have hvp := fun h1 h2 => varT_part s a j n h1 hacc hall h2
      have hih := fun (h : 127 < byN s (a + j)) => ih (j + 1) (n + byN s (a + j) % 128 * 128 ^ j) (by omega) hst (by
        have e3 : bytN s a (j + 1) = bytN s a j ++ [byN s (a + j)] := rfl
        rw [e3, accV_snoc, accV_add, bytN_len, ← hacc]
        rfl) (fun x hx => by
          rcases List.mem_append.1 hx with hx | hx
          · exact hall x hx
          · rw [List.mem_singleton] at hx
            omega)
      have ec : wrap64 ((byN s (a + j) : Nat) : Int) = ((byN s (a + j) : Nat) : Int) := w64_le _ (Nat.le_trans hc (by decide))
      have em : Int.tmod ((byN s (a + j) : Nat) : Int) 128 = ((byN s (a + j) % 128 : Nat) : Int) := tmod128 _
      have ep0 : ((byN s (a + j) % 128 : Nat) : Int) * ((128 ^ j : Nat) : Int) = ((byN s (a + j) % 128 * 128 ^ j : Nat) : Int) := (Int.natCast_mul _ _).symm
      have e3 : ((128 ^ (j + 1) : Nat) : Int) = ((128 ^ j : Nat) : Int) * 128 := by rw [Nat.pow_succ, Int.natCast_mul]; rfl
      unfold rdv
      clear hst ih hn hacc hall
      refine Ev.step (fun q => by rw [spec_ReadVar_L6]) ?_
      rw [ea5, byt_byN, ec, em, ep0]
      rw [e3] at hih
      clear ec em ep0 e3
      generalize byN s (a + j) % 128 * 128 ^ j = M at *
      generalize 128 ^ j = P at *
      generalize byN s (a + j) = c at *
      have ep : wrap64 (M : Int) = (M : Int) := w64 (by omega) (by omega)
      have en : wrap64 ((n : Int) + (M : Int)) = ((n + M : Nat) : Int) := by
        rw [w64 (by omega) (by omega)]; omega
      have e2 : wrap64 ((P : Int) * 128) = (P : Int) * 128 := w64 (by omega) (by omega)
      have e1 : wrap64 (((a + j : Nat) : Int) + 1) = ((a + j + 1 : Nat) : Int) := w64_succ (by omega)
      rw [ep, en, e2, e1]
      generalize n + M = N at *
      have f5 : N ≤ 9223372036854775807 := Nat.le_of_lt (Nat.lt_of_lt_of_le hB (by decide))
      clear hB hP ep en e2 e1
      by_cases hlt : a + j < s.size
      case neg =>
        rw [if_neg hlt]
        exact ev_neg (by omega) ev_some
      rw [if_pos hlt]
      refine ev_pos (by omega) ?_
      refine ev_pos (by omega) ?_
      refine ev_pos (by omega) ?_
      refine ev_pos (by omega) ?_
      refine ev_neg (by omega) ?_
      refine ev_pos (by omega) ?_
      refine ev_pos (by omega) ?_
      by_cases h127 : 127 < c
      · rw [if_pos h127]
        exact ev_neg (le_128 h127) (hih h127)
      · rw [if_neg h127]
        clear hih
        have hvp := hvp hlt (Nat.le_of_not_lt h127)
        refine ev_pos (lt128 h127) ?_
        have f1 : 0 ≤ ((a + j + 1 : Nat) : Int) := by omega
        have f2 : ((a + j + 1 : Nat) : Int) ≤ (s.size : Int) := by omega
        have f3 : 0 ≤ (a : Int) := by omega
        have f4 : (a : Int) ≤ ((a + j + 1 : Nat) : Int) := by omega
        by_cases hb : 1000000000 < N
        · have hyes : (0 < j ∧ c = 0) ∨ 1000000000 < N := .inr hb
          rw [if_pos hyes]
          exact ev_pos (Int.ofNat_lt.2 hb) ev_some
        · refine ev_neg (fun q => hb (Int.ofNat_lt.1 q)) ?_
          refine ev_pos f1 (ev_pos f2 (ev_pos f3 (ev_pos f4 ?_)))
          refine ev_bind (spec_l01Var_eq N f5) ?_
          rw [Int.toNat_natCast, Int.toNat_natCast]
          by_cases hz : 0 < j ∧ c = 0
          · have hyes : (0 < j ∧ c = 0) ∨ 1000000000 < N := .inl hz
            rw [if_pos hyes]
            exact ev_neg (fun q => hvp.1 q hz) ev_some
          · have hng : ¬ ((0 < j ∧ c = 0) ∨ 1000000000 < N) := by
              rintro (q | q)
              · exact hz q
              · exact hb q
            rw [if_neg hng]
            exact ev_pos (hvp.2 hz) ev_some
  exact key 5 0 0 rfl (by decide) rfl (fun x hx => by cases hx)
/- spec_l11Var -/
theorem spec_l11Var_eq (s : ByteArray) (i : Int) (b : Bool) (hs : s.size ≤ 1048580) : g_spec_l11Var (s, i, b) = some (numberF (s, i, b)) := by
  unfold g_spec_l11Var spec_l11Var_ numberF
  simp only [spec_ReadVar_eq s i hs, Option.bind_some]
  split
  · rfl
  · split <;> rfl
/- spec_Unsealed -/
theorem spec_Unsealed_eq (t : ByteArray) (hs : t.size ≤ 1048580) : g_spec_Unsealed t = some (unsealT t) := by
  unfold g_spec_Unsealed spec_Unsealed_ unsealT
  have hw : wrap64 (((t.size : Nat) : Int) - 4) = ((t.size : Nat) : Int) - 4 := w64 (by omega) (by omega)
  simp only [hw]
  by_cases h : t.size < 4
  · have c : ((t.size : Nat) : Int) - 4 < 0 := by omega
    rw [if_pos c, if_pos h]
  · have c : ¬ ((t.size : Nat) : Int) - 4 < 0 := by omega
    have c1 : 0 ≤ ((t.size : Nat) : Int) - 4 := by omega
    have c2 : ((t.size : Nat) : Int) - 4 ≤ ((t.size : Nat) : Int) := by omega
    have hf := front_size t
    rw [if_neg c, if_neg h]
    by_cases h2 : 20000 < (front t).size
    · have h3 : ¬ ((front t).size ≤ 20000 ∧ front t ++ four (sumOf (front t)) = t) := by omega
      have c3 : 20000 < ((t.size : Nat) : Int) - 4 := by omega
      rw [if_pos c3, if_neg h3]
    · have c3 : ¬ 20000 < ((t.size : Nat) : Int) - 4 := by omega
      have e0 : (Int.toNat (((t.size : Nat) : Int) - 4)) = t.size - 4 := by omega
      have e : ByteArray.extract t (Int.toNat 0) (t.size - 4) = front t := rfl
      have e1 : Int.toNat ((t.size : Nat) : Int) = t.size := rfl
      have hq := spec_SumOf_eq (front t) (by omega)
      simp only [c1, c2, c3, if_true, if_false, e0, e1, e, hq, Option.bind_some, spec_l02Four_eq]
      by_cases h3 : front t ++ four (sumOf (front t)) = t
      · have h4 : (front t).size ≤ 20000 ∧ front t ++ four (sumOf (front t)) = t := ⟨by omega, h3⟩
        rw [if_pos h4, if_pos ((tail_eq t _).2 h3)]
      · have h4 : ¬ ((front t).size ≤ 20000 ∧ front t ++ four (sumOf (front t)) = t) := fun q => h3 q.2
        rw [if_neg h4, if_neg (fun q => h3 ((tail_eq t _).1 q))]
/- spec_ReadOrder -/
-- needs: impl_ReadOrder
theorem spec_ReadOrder_eq (t : ByteArray) (hs : t.size ≤ 1048580) : g_spec_ReadOrder t = some (readO t) := by
  unfold g_spec_ReadOrder spec_ReadOrder_ readO
  simp only [spec_Unsealed_eq t hs, Option.bind_some]
  by_cases hu : (unsealT t).2 = true
  case neg =>
    rw [if_neg hu, if_neg (fun q => hu q.1)]
  obtain ⟨hz, hj⟩ := unsealT_ok hu
  rw [if_pos hu]
  generalize (unsealT t).1 = s at hz hj
  by_cases h0 : 0 < s.size
  case neg =>
    have c0 : ((s.size : Nat) : Int) < 1 := by omega
    rw [if_pos c0, if_neg (fun q => h0 q.2)]
  have c1 : ¬ ((s.size : Nat) : Int) < 1 := by omega
  have c0 : (0 : Int) < ((s.size : Nat) : Int) := by omega
  rw [if_neg c1, if_pos (Nat.le_refl 0), if_pos c0, if_pos ⟨hu, h0⟩]
  have k1 := numberF_keep (s, 1, false)
  have k2 := numberF_keep (numberF (s, 1, false)).2
  have e1 := spec_l11Var_eq s 1 false (by omega)
  have e2 : g_spec_l11Var (numberF (s, 1, false)).2 = some (numberF (numberF (s, 1, false)).2) := by
    have h : (numberF (s, 1, false)).2.1.size ≤ 1048580 := by rw [k1]; show s.size ≤ _; omega
    exact spec_l11Var_eq _ _ _ h
  have e3 : g_spec_l11Var (numberF (numberF (s, 1, false)).2).2 = some (numberF (numberF (numberF (s, 1, false)).2).2) := by
    have h : (numberF (numberF (s, 1, false)).2).2.1.size ≤ 1048580 := by rw [k2, k1]; show s.size ≤ _; omega
    exact spec_l11Var_eq _ _ _ h
  simp only [e1, e2, e3, Option.bind_some, w64_byt, spec_OrderText_eq]
  by_cases hb : (numberF (numberF (numberF (s, 1, false)).2).2).2.2.2 = true
  · rw [if_pos hb, if_pos hb]
  · rw [if_neg hb, if_neg hb]
    have hb' : (numberF (numberF (numberF (s, 1, false)).2).2).2.2.2 = false := by simpa using hb
    obtain ⟨N1, N2, N3, e, r1, r2, r3, r4, le, tx⟩ := numberF_three h0 hb'
    rw [r1, r2, r3, r4]
    unfold orderT
    by_cases hk : orderOk (byt s 0, (N1 : Int), (N2 : Int), (N3 : Int)) = true
    · rw [if_pos hk, tx]
      obtain ⟨g1, g2⟩ := seal_same s e hz le
      rw [hj] at g2
      rw [if_pos g1]
      by_cases he : e = s.size
      · have hc : (e : Int) = ((s.size : Nat) : Int) ∧ orderOk (byt s 0, (N1 : Int), (N2 : Int), (N3 : Int)) = true := ⟨by omega, hk⟩
        rw [if_pos (g2.2 he), if_pos hc]
      · have hc : ¬ ((e : Int) = ((s.size : Nat) : Int) ∧ orderOk (byt s 0, (N1 : Int), (N2 : Int), (N3 : Int)) = true) := fun q => he (by have := q.1; omega)
        rw [if_neg (fun q => he (g2.1 q)), if_neg hc]
    · have hc : ¬ ((e : Int) = ((s.size : Nat) : Int) ∧ orderOk (byt s 0, (N1 : Int), (N2 : Int), (N3 : Int)) = true) := fun q => hk q.2
      rw [if_neg hk, if_neg hc]
      rfl
/- spec_l01Text -/
theorem l01Text_some (S : List Int) (i s : Int) (n : Nat) (hS : S.length ≤ 1048576) (hi : 0 ≤ i) (hn : n ≤ 5000) : ∃ v i' s', g_spec_l01Text ((S, i, s), (n : Int)) = some (v, ((), i', s')) ∧ v.size = n ∧ 0 ≤ i' := by
  have key : ∀ (d j : Nat), j + d = n → ∀ (i s : Int) (l : List Int), 0 ≤ i → l.length = j →
      ∃ v i' s', Ev (fun k => spec_l01Text_L5 (fun _ => g_spec_l01Byte) k ((n : Int), (j : Int), i, s, S, l, ())) (v, ((), i', s')) ∧ v.size = n ∧ 0 ≤ i' := by
    intro d
    induction d with
    | zero =>
      intro j hj i s l hi hl
      refine ⟨bstr l, i, s, Ev.step (fun q => by rw [spec_l01Text_L5]) ?_, by rw [size_bstr]; omega, hi⟩
      exact ev_neg (by omega) ev_some
    | succ d ih =>
      intro j hj i s l hi hl
      obtain ⟨b, i1, s1, e1, _, _, hi1⟩ := l01Byte_some S i s hS hi
      obtain ⟨v, i', s', h1, h2, h3⟩ := ih (j + 1) (by omega) i1 s1 (l ++ [wr .u8 b]) hi1 (by rw [List.length_append, List.length_singleton]; omega)
      refine ⟨v, i', s', Ev.step (fun q => by rw [spec_l01Text_L5]) ?_, h2, h3⟩
      refine ev_pos (by omega) (ev_bind e1 (ev_pos (by simp only [List.length_singleton]; omega) ?_))
      rw [w64_succ (by omega)]
      exact h1
  obtain ⟨v, i', s', h1, h2, h3⟩ := key n 0 (by omega) i s [] hi rfl
  refine ⟨v, i', s', evG_eq ?_, h2, h3⟩
  unfold spec_l01Text_
  exact ev_neg (by omega) h1
/- spec_l02Spoilt -/
theorem l02Spoilt_some (S : List Int) (i s : Int) (t : ByteArray) (hS : S.length ≤ 1048576) (hi : 0 ≤ i) (ht : t.size ≤ 1048580) : ∃ v i' s', g_spec_l02Spoilt ((S, i, s), t) = some (v, ((), i', s')) ∧ v.size ≤ t.size + 1 ∧ 0 ≤ i' := by
  obtain ⟨x, i1, s1, e1, x0, x1, hi1⟩ := l01Below_some S i s 12 hS hi (by omega)
  have tx := fun (i s : Int) (hi : 0 ≤ i) => l01Text_some S i s 1 hS hi (by omega)
  have cut : 0 < t.size → ∃ v i' s', ((g_spec_l01Below ((S, i1, s1), ((ByteArray.size t : Nat) : Int))).bind fun v3 =>
       if 0 ≤ v3.1 then
        if v3.1 ≤ ((ByteArray.size t : Nat) : Int) then
         if 0 ≤ (wrap64 (v3.1 + 1)) then
          if (wrap64 (v3.1 + 1)) ≤ ((ByteArray.size t : Nat) : Int) then (g_spec_l01Text ((S, v3.2.2), 1)).bind fun v4 =>
           if ((ByteArray.size (ByteArray.extract t (Int.toNat 0) (Int.toNat v3.1)) + ByteArray.size v4.1 : Nat) : Int) ≤ 9223372036854775807 then
            if ((ByteArray.size ((ByteArray.extract t (Int.toNat 0) (Int.toNat v3.1)) ++ v4.1) + ByteArray.size (ByteArray.extract t (Int.toNat (wrap64 (v3.1 + 1))) (Int.toNat ((ByteArray.size t : Nat) : Int))) : Nat) : Int) ≤ 9223372036854775807 then some ((((ByteArray.extract t (Int.toNat 0) (Int.toNat v3.1)) ++ v4.1) ++ (ByteArray.extract t (Int.toNat (wrap64 (v3.1 + 1))) (Int.toNat ((ByteArray.size t : Nat) : Int)))), ((), v4.2.2)) else none
           else
            none else none
         else
          none
        else
         none
       else
        none) = some (v, ((), i', s')) ∧ v.size ≤ t.size + 1 ∧ 0 ≤ i' := by
    intro hz
    obtain ⟨n, i2, s2, e2, n0, n1, hi2⟩ := l01Below_some S i1 s1 (t.size : Int) hS hi1 (by omega)
    obtain ⟨u, i3, s3, e3, hu, hi3⟩ := tx i2 s2 hi2
    have e3 : g_spec_l01Text ((S, i2, s2), 1) = some (u, ((), i3, s3)) := e3
    simp only [e2, Option.bind_some]
    have w : wrap64 (n + 1) = n + 1 := w64 (by omega) (by omega)
    have z1 : (ByteArray.extract t (Int.toNat 0) (Int.toNat n)).size ≤ n.toNat := by
      rw [size_bl, bl_extract, Int.toNat_zero, List.drop_zero, List.length_take]; omega
    have z2 : (ByteArray.extract t (Int.toNat (n + 1)) (Int.toNat ((ByteArray.size t : Nat) : Int))).size ≤ t.size - (n + 1).toNat := by
      rw [size_bl, bl_extract, List.length_drop, List.length_take, bl_len]; omega
    rw [w, if_pos n0, if_pos (by omega), if_pos (by omega), if_pos (by omega)]
    simp only [e3, Option.bind_some]
    generalize ByteArray.extract t (Int.toNat 0) (Int.toNat n) = A at *
    generalize ByteArray.extract t (Int.toNat (n + 1)) (Int.toNat ((ByteArray.size t : Nat) : Int)) = B at *
    have z3 : (A ++ u).size = A.size + u.size := size_append _ _
    rw [if_pos (by omega), if_pos (by omega)]
    exact ⟨_, _, _, rfl, by rw [size_append, size_append]; omega, hi3⟩
  unfold g_spec_l02Spoilt spec_l02Spoilt_
  simp only [e1, Option.bind_some]
  by_cases c0 : x = 0
  · rw [if_pos c0]
    obtain ⟨u, i3, s3, e3, hu, hi3⟩ := tx i1 s1 hi1
    have e3 : g_spec_l01Text ((S, i1, s1), 1) = some (u, ((), i3, s3)) := e3
    simp only [e3, Option.bind_some]
    rw [if_pos (by omega)]
    exact ⟨_, _, _, rfl, by rw [size_append]; omega, hi3⟩
  · rw [if_neg c0]
    by_cases c1 : x = 1
    · rw [if_pos c1]
      have w : wrap64 (((ByteArray.size t : Nat) : Int) + 1) = ((ByteArray.size t : Nat) : Int) + 1 := w64 (by omega) (by omega)
      obtain ⟨n, i2, s2, e2, n0, n1, hi2⟩ := l01Below_some S i1 s1 (((ByteArray.size t : Nat) : Int) + 1) hS hi1 (by omega)
      rw [w]
      simp only [e2, Option.bind_some]
      rw [if_pos n0, if_pos (by omega)]
      refine ⟨_, _, _, rfl, ?_, hi2⟩
      rw [size_bl, bl_extract, List.length_drop, List.length_take, bl_len]; omega
    · rw [if_neg c1]
      by_cases c2 : x = 2
      · rw [if_pos c2, if_pos c2]
        by_cases hz : 0 < t.size
        · rw [if_pos (by omega)]
          exact cut hz
        · rw [if_neg (by omega)]
          exact ⟨_, _, _, rfl, by omega, hi1⟩
      · rw [if_neg c2]
        by_cases c3 : x = 3
        · rw [if_pos c3]
          by_cases hz : 0 < t.size
          · rw [if_pos (by omega)]
            exact cut hz
          · rw [if_neg (by omega)]
            exact ⟨_, _, _, rfl, by omega, hi1⟩
        · rw [if_neg c3]
          exact ⟨_, _, _, rfl, by omega, hi1⟩
/- spec_l01Once -/
theorem l01Once_some (l : List Int) (i s n : Int) (hl : l.length ≤ 1048576) (hi : 0 ≤ i) (hn : 0 < n) : ∃ b i' s', g_spec_l01Once ((l, i, s), n) = some (b, ((), i', s')) ∧ 0 ≤ i' := by
  unfold g_spec_l01Once spec_l01Once_
  simp only []
  obtain ⟨v, i1, s1, e, _, _, h⟩ := l01Below_some l i s n hl hi hn
  rw [e]; exact ⟨_, _, _, rfl, h⟩
/- spec_l01PickInt -/
theorem l01PickInt_some (S : List Int) (i s : Int) (L : List Int) (hS : S.length ≤ 1048576) (hi : 0 ≤ i) (hL : 0 < L.length) : ∃ v i' s', g_spec_l01PickInt ((S, i, s), L) = some (v, ((), i', s')) ∧ v ∈ L ∧ 0 ≤ i' := by
  unfold g_spec_l01PickInt spec_l01PickInt_
  obtain ⟨n, i1, s1, e, h0, h1, h2⟩ := l01Below_some S i s (L.length : Int) hS hi (by omega)
  simp only [e, Option.bind_some]
  rw [if_pos h0, if_pos h1]
  have hn : n.toNat < L.length := by omega
  refine ⟨_, _, _, rfl, ?_, h2⟩
  have : L.getD n.toNat 0 = L[n.toNat] := by simp [List.getD_eq_getElem?_getD, hn]
  rw [this]
  exact List.getElem_mem hn
/- spec_l14Order -/
theorem l14Order_some (S : List Int) (i s : Int) (hS : S.length ≤ 1048576) (hi : 0 ≤ i) : ∃ (o : Order) (i' s' : Int), g_spec_l14Order (S, i, s) = some (o, ((), i', s')) ∧ orderOk o = true ∧ 0 ≤ i' := by
  obtain ⟨v, i1, s1, e1, hv, hi1⟩ := l01PickInt_some S i s [1, 1, 1, 2, 2, 3, 4, 5, 6] hS hi (by decide)
  have hv6 : 1 ≤ v ∧ v ≤ 6 := by simp at hv; omega
  unfold g_spec_l14Order spec_l14Order_
  simp only [e1, Option.bind_some]
  by_cases h1 : v = 1
  · rw [if_pos h1]
    obtain ⟨a, i2, s2, e2, a0, a1, hi2⟩ := l01Below_some S i1 s1 9 hS hi1 (by omega)
    simp only [e2, Option.bind_some]
    have w1 : wrap64 (1 + a) = 1 + a := w64 (by omega) (by omega)
    have w2 : wrap64 (3 * (1 + a)) = 3 * (1 + a) := w64 (by omega) (by omega)
    rw [w1, w2]
    obtain ⟨b, i3, s3, e3, b0, b1, hi3⟩ := l01Below_some S i2 s2 (3 * (1 + a)) hS hi2 (by omega)
    obtain ⟨c, i4, s4, e4, c0, c1, hi4⟩ := l01Below_some S i3 s3 60 hS hi3 (by omega)
    simp only [e3, e4, Option.bind_some]
    rw [w64 (n := 1 + b) (by omega) (by omega), w64 (n := 1 + c) (by omega) (by omega)]
    exact ⟨_, _, _, rfl, decide_eq_true (by unfold OrderOkP; omega), hi4⟩
  · rw [if_neg h1]
    by_cases h2 : v = 2
    · rw [if_pos h2]
      obtain ⟨a, i2, s2, e2, a0, a1, hi2⟩ := l01Below_some S i1 s1 40 hS hi1 (by omega)
      simp only [e2, Option.bind_some]
      rw [w64 (n := 1 + a) (by omega) (by omega)]
      exact ⟨_, _, _, rfl, decide_eq_true (by unfold OrderOkP; omega), hi2⟩
    · rw [if_neg h2]
      exact ⟨_, _, _, rfl, decide_eq_true (by unfold OrderOkP; omega), hi1⟩
/- spec_l14Any -/
theorem l14Any_some (S : List Int) (i s : Int) (hS : S.length ≤ 1048576) (hi : 0 ≤ i) : ∃ (o : Order) (i' s' : Int), g_spec_l14Any (S, i, s) = some (o, ((), i', s')) ∧ 0 ≤ i' := by
  obtain ⟨o, i1, s1, e1, _, hi1⟩ := l14Order_some S i s hS hi
  obtain ⟨x, i2, s2, e2, _, _, hi2⟩ := l01Below_some S i1 s1 12 hS hi1 (by omega)
  obtain ⟨y0, j0, t0, f0, _, _, g0⟩ := l01Below_some S i2 s2 8 hS hi2 (by omega)
  obtain ⟨y1, j1, t1, f1, _, g1⟩ := l01PickInt_some S i2 s2 [(-1), 0, 1, 1000, 1001] hS hi2 (by decide)
  obtain ⟨y2, j2, t2, f2, _, g2⟩ := l01PickInt_some S i2 s2 [0, 1, 1000, 1001] hS hi2 (by decide)
  obtain ⟨y3, j3, t3, f3, _, g3⟩ := l01PickInt_some S i2 s2 [0, 1, 100, 101, 5000, 5001] hS hi2 (by decide)
  unfold g_spec_l14Any spec_l14Any_
  simp only [e1, e2, f0, f1, f2, f3, Option.bind_some]
  by_cases c0 : x = 0
  · rw [if_pos c0]; exact ⟨_, _, _, rfl, g0⟩
  · rw [if_neg c0]
    by_cases c1 : x = 1
    · rw [if_pos c1]; exact ⟨_, _, _, rfl, g1⟩
    · rw [if_neg c1]
      by_cases c2 : x = 2
      · rw [if_pos c2]; exact ⟨_, _, _, rfl, g2⟩
      · rw [if_neg c2]
        by_cases c3 : x = 3
        · rw [if_pos c3]; exact ⟨_, _, _, rfl, g3⟩
        · rw [if_neg c3]; exact ⟨_, _, _, rfl, hi2⟩
/- spec_DrawReadOrder -/
theorem spec_DrawReadOrder_some (S : List Int) (hS : S.length ≤ 1048576) : ∃ t, g_spec_DrawReadOrder S = some t ∧ t.size ≤ 1048580 := by
  obtain ⟨x, hx⟩ := l01New_ev S hS
  obtain ⟨o, i1, s1, e1, hi1⟩ := l14Any_some S 0 x hS (by decide)
  have hz := orderT_size o
  obtain ⟨b, i2, s2, e2, hi2⟩ := l01Once_some S i1 s1 3 hS hi1 (by decide)
  have e3 := spec_OrderText_eq o
  have z1 : (orderT o).1.size ≤ 1048580 := Nat.le_trans hz (by decide)
  have e4 := spec_Unsealed_eq (orderT o).1 z1
  unfold g_spec_DrawReadOrder spec_DrawReadOrder_
  refine ex_bind hx (ex_bind e1 (ex_bind e3 (ex_bind e2 ?_)))
  by_cases hb : b = true
  · refine ex_pos hb (ex_bind e4 ?_)
    by_cases hu : (unsealT (orderT o).1).2 = true
    · have z2 := (unsealT_ok hu).1
      obtain ⟨v, i3, s3, e5, hv, _⟩ := l02Spoilt_some S i2 s2 (unsealT (orderT o).1).1 hS hi2 (Nat.le_trans z2 (by decide))
      have z3 : v.size ≤ 20001 := Nat.le_trans hv (Nat.succ_le_succ z2)
      refine ex_pos hu (ex_bind e5 (ex_bind (spec_Sealed_eq v (Nat.le_trans z3 (by decide))) ⟨_, rfl, ?_⟩))
      show (sealT v).1.size ≤ _
      unfold sealT
      split
      · exact Nat.zero_le _
      · show (v ++ four (sumOf v)).size ≤ _
        rw [size_append, four_size]; omega
    · exact ex_neg hu ⟨_, rfl, z1⟩
  · obtain ⟨v, i3, s3, e5, hv, _⟩ := l02Spoilt_some S i2 s2 (orderT o).1 hS hi2 z1
    exact ex_neg hb (ex_bind e5 ⟨_, rfl, Nat.le_trans hv (Nat.le_trans (Nat.succ_le_succ hz) (by decide))⟩)
/- spec_DrawOrderText -/
theorem spec_DrawOrderText_some (S : List Int) (hS : S.length ≤ 1048576) : ∃ o : Order, g_spec_DrawOrderText S = some o := by
  obtain ⟨x, hx⟩ := l01New_ev S hS
  obtain ⟨o, i, s, h, _⟩ := l14Any_some S 0 x hS (by decide)
  refine ⟨o, ?_⟩
  unfold g_spec_DrawOrderText spec_DrawOrderText_
  simp only [hx, h, Option.bind_some]
/- laws_big -/
theorem laws_big_eq (l : List Int) : g_laws_big l = some (decide (1048576 < (l.length : Int))) := rfl
/- laws_FnOrders -/
theorem t_FnOrders (S : List Int) : g_laws_FnOrders S = some true := by
  unfold g_laws_FnOrders laws_FnOrders_
  simp only [laws_big_eq, Option.bind_some]
  by_cases hb : decide (1048576 < (S.length : Int)) = true
  · rw [if_pos hb]
  rw [if_neg hb]
  have hS : S.length ≤ 1048576 := by
    rw [decide_eq_true_eq] at hb; omega
  clear hb
  obtain ⟨o, ho⟩ := spec_DrawOrderText_some S hS
  obtain ⟨t, ht, hz⟩ := spec_DrawReadOrder_some S hS
  obtain ⟨q, hq, h12, hx⟩ := spec_DrawPlaces_some S hS
  have hzo := orderT_size o
  have f1 := impl_OrderText_eq o
  have f2 := impl_ReadOrder_eq (orderT o).1 (Nat.le_trans hzo (by decide))
  have f3 := spec_OrderOk_eq o
  have f4 := impl_OrderOk_eq o
  have f5 := impl_ReadOrder_eq t hz
  have f6 := spec_ReadOrder_eq t hz
  have f7 := impl_OrderText_eq (readO t).1
  have hok := orderT_ok o
  simp only [ho, ht, hq, f1, f2, f3, f4, f5, f6, f7, hok, Option.bind_some, beq_self_eq_true, if_true]
  have hback : (readO t).2 = true → (orderT (readO t).1).1 = t := readO_back
  by_cases h : orderOk o = true
  · obtain ⟨h1, h2, h3, h4⟩ := readO_order h
    obtain ⟨u, g1, i, y, g2, g3, g4⟩ := laws_turned_ex (orderT o).1 q (by omega) (Nat.le_trans hzo (by decide)) h12 (fun x hh => (hx x hh).1)
    have g5 := orderT_turned h g2 g3 g4
    have hu : u.size ≤ 1048580 := by
      rw [size_bl, g3, List.length_set, ← size_bl]; omega
    have f8 := impl_ReadOrder_eq u hu
    rw [readO_bent g5] at f8
    simp only [h, h4, g1, f8, Option.bind_some, if_true, Bool.not_false]
    by_cases hm : (readO t).2 = true
    · rw [if_pos hm, if_pos (hback hm)]
    · rw [if_neg hm]
  · have he : (orderT o).1 = ⟨#[]⟩ := by unfold orderT; rw [if_neg h]
    have g1 := laws_turned_empty (orderT o).1 q (by rw [he]; rfl)
    have f8 := impl_ReadOrder_eq (⟨#[120]⟩ : ByteArray) (by decide)
    have hf : orderOk o = false := Bool.eq_false_iff.2 h
    simp only [hf, g1, f8, Option.bind_some, if_false, Bool.false_eq_true]
    by_cases hm : (readO t).2 = true
    · rw [if_pos hm, if_pos (hback hm)]
    · rw [if_neg hm]
end Go.Sx.T
