/- Functions of the program as functions of Lean, and that the program keeps to them. -/
import Derived.Test.YtogagfoikapbpaaGreatDoorFnScriptC0
set_option maxRecDepth 100000
set_option linter.unusedVariables false
set_option linter.unusedSimpArgs false
namespace Go.Proofs
end Go.Proofs
namespace Go.Sx.T
open Go Go.Sx Go.Proofs Go.RowKit
/- spec_SumMore -/
theorem spec_SumMore_eq (s : ByteArray) (b : Int) (hs : s.size ≤ 1048580) : g_spec_SumMore (b, s) = some (sumF (bl s) b) := by
  have inner : ∀ (d j : Nat), j + d = 8 → ∀ (b i r : Int), Ev (fun k => spec_SumMore_L2 k (rnds d b, s, wrap64 (i + 1), ())) r → Ev (fun k => spec_SumMore_L6 k (b, s, i, (j : Int), ())) r := by
    intro d
    induction d with
    | zero =>
      intro j hj b i r h
      refine Ev.step (fun q => by rw [spec_SumMore_L6]) ?_
      exact ev_neg (by omega) h
    | succ d ih =>
      intro j hj b i r h
      refine Ev.step (fun q => by rw [spec_SumMore_L6]) ?_
      refine ev_pos (by omega) (ev_neg (by omega) (ev_neg (by omega) (ev_dom (fun hc => ?_) (fun hc => ?_))))
      · rw [w64_succ (by omega)]
        refine ih (j + 1) (by omega) _ i r ?_
        have e : rnds (d + 1) b = rnds d (ixor .u32 (wr .u32 (Int.tdiv b 2)) 3558460437) := by
          show rnds d (rnd b) = _
          unfold rnd; rw [if_pos hc]
        rw [← e]; exact h
      · rw [w64_succ (by omega)]
        refine ih (j + 1) (by omega) _ i r ?_
        have e : rnds (d + 1) b = rnds d (wr .u32 (Int.tdiv b 2)) := by
          show rnds d (rnd b) = _
          unfold rnd; rw [if_neg hc]
        rw [← e]; exact h
  refine evG_eq ?_
  unfold spec_SumMore_
  refine bytes_loop s (fun k z i => spec_SumMore_L2 k (z, s, i, ())) sumF (fun z => ?_) (fun i z x rest hx hi h => ?_) b
  · refine Ev.step (fun q => by rw [spec_SumMore_L2]) ?_
    exact ev_neg (by omega) ev_some
  · refine Ev.step (fun q => by rw [spec_SumMore_L2]) ?_
    refine ev_pos (by omega) (ev_pos (by omega) (ev_pos (by omega) ?_))
    rw [byt_drop hx]
    refine inner 8 0 rfl _ _ _ ?_
    rw [w64_succ (by omega)]
    exact h _
/- spec_SumOf -/
theorem spec_SumOf_eq (s : ByteArray) (hs : s.size ≤ 1048580) : g_spec_SumOf s = some (sumOf s) := by
  unfold g_spec_SumOf spec_SumOf_
  simp only [spec_SumMore_eq s _ hs, Option.bind_some]
  rfl
/- spec_Sealed -/
theorem size_fourS (s : ByteArray) (v : Int) (hs : s.size ≤ 1048580) : ((s.size + (four v).size : Nat) : Int) ≤ 9223372036854775807 := by
  rw [four_size]
  omega
theorem spec_Sealed_eq (s : ByteArray) (hs : s.size ≤ 1048580) : g_spec_Sealed s = some (sealT s) := by
  have c2 := size_fourS s (sumOf s) hs
  show (if 20000 < ((ByteArray.size s : Nat) : Int) then some ((⟨#[]⟩ : ByteArray), false) else (g_spec_SumOf s).bind fun v0 => (g_spec_l02Four v0).bind fun v1 => if ((ByteArray.size s + ByteArray.size v1 : Nat) : Int) ≤ 9223372036854775807 then some ((s ++ v1), true) else none) = _
  rw [spec_SumOf_eq s hs, Option.bind_some, spec_l02Four_eq, Option.bind_some, if_pos c2]
  clear c2
  unfold sealT
  by_cases h : 20000 < s.size
  · have c : (20000 : Int) < ((s.size : Nat) : Int) := by omega
    rw [if_pos c, if_pos h]
  · have c : ¬ (20000 : Int) < ((s.size : Nat) : Int) := by omega
    rw [if_neg c, if_neg h]
/- spec_l01Var -/
theorem spec_l01Var_eq (n : Nat) (hn : n ≤ 9223372036854775807) : g_spec_l01Var (n : Int) = some (varT n) := by
  refine evG_eq ?_
  unfold spec_l01Var_
  have key : ∀ (n : Nat), n ≤ 9223372036854775807 → ∀ (l : List Int), l.length + (varL n).length ≤ 1000 → Ev (fun k => spec_l01Var_L2 k ((n : Int), l, ())) (bstr (l ++ (varL n).map fun (x : Nat) => (x : Int))) := by
    intro n
    induction n using varL.induct with
    | case1 n h =>
      intro hn l hl
      refine Ev.step (fun q => by rw [spec_l01Var_L2]) ?_
      have hv : varL n = [n] := by unfold varL; rw [dif_pos h]
      rw [hv] at hl
      refine ev_neg (by omega) (ev_pos (by simp only [List.length_singleton] at hl ⊢; omega) (ev_eq ?_))
      rw [hv]
      have : wr .u8 (n : Int) = (n : Int) := by rw [wr8]; omega
      rw [this]
      rfl
    | case2 n h ih =>
      intro hn l hl
      refine Ev.step (fun q => by rw [spec_l01Var_L2]) ?_
      have hv : varL n = (n % 128 + 128) :: varL (n / 128) := by
        conv => lhs; unfold varL
        rw [dif_neg h]
      rw [hv] at hl ⊢
      simp only [List.length_cons] at hl
      refine ev_pos (by omega) (ev_neg (by omega) (ev_pos (by simp only [List.length_singleton]; omega) (ev_neg (by omega) ?_)))
      have e1 : wrap64 (Int.tdiv (n : Int) 128) = ((n / 128 : Nat) : Int) := by
        have : Int.tdiv (n : Int) 128 = ((n / 128 : Nat) : Int) := by
          rw [Int.tdiv_eq_ediv_of_nonneg (by omega)]; omega
        rw [this]
        exact w64 (by omega) (by omega)
      have e2 : wr .u8 (wrap64 ((Int.tmod (n : Int) 128) + 128)) = ((n % 128 + 128 : Nat) : Int) := by
        have : Int.tmod (n : Int) 128 = ((n % 128 : Nat) : Int) := by
          rw [Int.tmod_eq_emod_of_nonneg (by omega)]; omega
        rw [this, w64 (by omega) (by omega), wr8]
        omega
      rw [e1, e2]
      have := ih (by omega) (l ++ [((n % 128 + 128 : Nat) : Int)]) (by simp only [List.length_append, List.length_singleton]; omega)
      rw [List.append_assoc] at this
      exact this
  have h10 := varT_size hn
  unfold varT at h10
  rw [size_bstr, List.length_map] at h10
  exact key n hn [] (by simp only [List.length_nil]; omega)
/- spec_OrderText -/
theorem spec_OrderText_eq (o : Order) : g_spec_OrderText o = some (orderT o) := by
  obtain ⟨a, b, c, x⟩ := o
  unfold g_spec_OrderText spec_OrderText_ orderT
  simp only [spec_OrderOk_eq, Option.bind_some]
  by_cases h : orderOk (a, b, c, x) = true
  · rw [if_pos h, if_pos h]
    have hp := orderOk_den h
    unfold OrderOkP at hp
    have hb : 0 ≤ b ∧ b ≤ 1000000 := by omega
    have hc : 0 ≤ c ∧ c ≤ 1000000 := by omega
    have hx : 0 ≤ x ∧ x ≤ 1000000 := by omega
    clear hp h
    obtain ⟨nb, rfl⟩ := Int.eq_ofNat_of_zero_le hb.1
    obtain ⟨nc, rfl⟩ := Int.eq_ofNat_of_zero_le hc.1
    obtain ⟨nx, rfl⟩ := Int.eq_ofNat_of_zero_le hx.1
    have e1 := spec_l01Var_eq nb (by omega)
    have e2 := spec_l01Var_eq nc (by omega)
    have e3 := spec_l01Var_eq nx (by omega)
    have s1 := varT_size (n := nb) (by omega)
    have s2 := varT_size (n := nc) (by omega)
    have s3 := varT_size (n := nx) (by omega)
    unfold otext
    simp only [e1, e2, e3, Option.bind_some, Int.toNat_natCast]
    clear e1 e2 e3
    generalize varT nb = B at *
    generalize varT nc = C at *
    generalize varT nx = X at *
    have s0 : (bstr [wr .u8 a]).size = 1 := by rw [size_bstr]; rfl
    generalize bstr [wr .u8 a] = A at *
    have c1 : ((A.size + B.size : Nat) : Int) ≤ 9223372036854775807 := by omega
    have c2 : (((A ++ B).size + C.size : Nat) : Int) ≤ 9223372036854775807 := by rw [size_append]; omega
    have c3 : (((A ++ B ++ C).size + X.size : Nat) : Int) ≤ 9223372036854775807 := by rw [size_append, size_append]; omega
    rw [if_pos c1, if_pos c2, if_pos c3]
    have hz : (A ++ B ++ C ++ X).size ≤ 1048580 := by rw [size_append, size_append, size_append]; omega
    rw [spec_Sealed_eq _ hz]
    rfl
  · rw [if_neg h, if_neg h]
/- spec_ReadVar -/
-- needs: impl_ReadVar
theorem tmod128 (c : Nat) : Int.tmod (c : Int) 128 = ((c % 128 : Nat) : Int) := by
  rw [Int.tmod_eq_emod_of_nonneg (by omega)]; omega
theorem w64_le (c : Nat) (h : c ≤ 34359738368) : wrap64 (c : Int) = (c : Int) := w64 (by omega) (by omega)
theorem lt128 {c : Nat} (h : ¬ 127 < c) : (c : Int) < 128 := by omega
theorem le_128 {c : Nat} (h : 127 < c) : ¬ (c : Int) < 128 := by omega
set_option maxHeartbeats 60000 in
theorem spec_ReadVar_eq (s : ByteArray) (i : Int) (hs : s.size ≤ 1048580) : g_spec_ReadVar (s, i) = some (readV s i) := by
  refine evG_eq ?_
  unfold spec_ReadVar_ readV
  refine ev_bind (spec_l01In_eq _ _ _) ?_
  by_cases h : 0 ≤ i ∧ i ≤ (s.size : Int)
  case neg =>
    rw [if_neg h]
    exact ev_neg (by simpa using h) ev_some
  rw [if_pos h]
  refine ev_pos (by simp [h]) ?_
  obtain ⟨a, rfl⟩ := Int.eq_ofNat_of_zero_le h.1
  have ha : a ≤ s.size := by omega
  rw [Int.toNat_natCast]
  have ea5 : wrap64 ((a : Int) + 5) = ((a + 5 : Nat) : Int) := by
    rw [w64 (by omega) (by omega)]; omega
  have key : ∀ (f j n : Nat), j + f = 5 → n < 128 ^ j → n = accV (bytN s a j) 0 → (∀ x ∈ bytN s a j, 128 ≤ x ∧ x ≤ 255) → Ev (fun k => spec_ReadVar_L6 (fun _ => g_spec_l01In) (fun _ => g_spec_l01Var) k (s, (a : Int), (n : Int), ((128 ^ j : Nat) : Int), ((a + j : Nat) : Int), ())) (rdv s a f j n) := by
    intro f
    induction f with
    | zero =>
      intro j n hj hn _ _
      refine Ev.step (fun q => by rw [spec_ReadVar_L6]) ?_
      rw [ea5]
      refine ev_dom (fun _ => ?_) (fun _ => ev_some)
      exact ev_neg (by omega) ev_some
    | succ f ih =>
      intro j n hj hn hacc hall
      have hc := byN_le s (a + j)
      have hst := readV_step j n (byN s (a + j) % 128) (by omega) hn
      have hB := Nat.lt_of_lt_of_le hst (readV_le (j + 1) (by omega))
      have hP := readV_le j (by omega)
      have hvp := fun h1 h2 => varT_part s a j n h1 hacc hall h2
      have hih := fun (h : 127 < byN s (a + j)) => ih (j + 1) (n + byN s (a + j) % 128 * 128 ^ j) (by omega) hst (by
        have e3 : bytN s a (j + 1) = bytN s a j ++ [byN s (a + j)] := rfl
        rw [e3, accV_snoc, accV_add, bytN_len, ← hacc]
        rfl) (fun x hx => by
          rcases List.mem_append.1 hx with hx | hx
          · exact hall x hx
          · rw [List.mem_singleton] at hx
            omega)
      have ec : wrap64 ((byN s (a + j) : Nat) : Int) = ((byN s (a + j) : Nat) : Int) := w64_le _ (Nat.le_trans hc (by decide))
      have em : Int.tmod ((byN s (a + j) : Nat) : Int) 128 = ((byN s (a + j) % 128 : Nat) : Int) := tmod128 _
      have ep0 : ((byN s (a + j) % 128 : Nat) : Int) * ((128 ^ j : Nat) : Int) = ((byN s (a + j) % 128 * 128 ^ j : Nat) : Int) := (Int.natCast_mul _ _).symm
      have e3 : ((128 ^ (j + 1) : Nat) : Int) = ((128 ^ j : Nat) : Int) * 128 := by rw [Nat.pow_succ, Int.natCast_mul]; rfl
      unfold rdv
      clear hst ih hn hacc hall
      refine Ev.step (fun q => by rw [spec_ReadVar_L6]) ?_
      rw [ea5, byt_byN, ec, em, ep0]
      rw [e3] at hih
      clear ec em ep0 e3
      generalize byN s (a + j) % 128 * 128 ^ j = M at *
      generalize 128 ^ j = P at *
      generalize byN s (a + j) = c at *
      have ep : wrap64 (M : Int) = (M : Int) := w64 (by omega) (by omega)
      have en : wrap64 ((n : Int) + (M : Int)) = ((n + M : Nat) : Int) := by
        rw [w64 (by omega) (by omega)]; omega
      have e2 : wrap64 ((P : Int) * 128) = (P : Int) * 128 := w64 (by omega) (by omega)
      have e1 : wrap64 (((a + j : Nat) : Int) + 1) = ((a + j + 1 : Nat) : Int) := w64_succ (by omega)
      rw [ep, en, e2, e1]
      generalize n + M = N at *
      have f5 : N ≤ 9223372036854775807 := Nat.le_of_lt (Nat.lt_of_lt_of_le hB (by decide))
      clear hB hP ep en e2 e1
      by_cases hlt : a + j < s.size
      case neg =>
        rw [if_neg hlt]
        exact ev_neg (by omega) ev_some
      rw [if_pos hlt]
      refine ev_pos (by omega) ?_
      refine ev_pos (by omega) ?_
      refine ev_pos (by omega) ?_
      refine ev_pos (by omega) ?_
      refine ev_neg (by omega) ?_
      refine ev_pos (by omega) ?_
      refine ev_pos (by omega) ?_
      by_cases h127 : 127 < c
      · rw [if_pos h127]
        exact ev_neg (le_128 h127) (hih h127)
      · rw [if_neg h127]
        clear hih
        have hvp := hvp hlt (Nat.le_of_not_lt h127)
        refine ev_pos (lt128 h127) ?_
        have f1 : 0 ≤ ((a + j + 1 : Nat) : Int) := by omega
        have f2 : ((a + j + 1 : Nat) : Int) ≤ (s.size : Int) := by omega
        have f3 : 0 ≤ (a : Int) := by omega
        have f4 : (a : Int) ≤ ((a + j + 1 : Nat) : Int) := by omega
        by_cases hb : 1000000000 < N
        · have hyes : (0 < j ∧ c = 0) ∨ 1000000000 < N := .inr hb
          rw [if_pos hyes]
          exact ev_pos (Int.ofNat_lt.2 hb) ev_some
        · refine ev_neg (fun q => hb (Int.ofNat_lt.1 q)) ?_
          refine ev_pos f1 (ev_pos f2 (ev_pos f3 (ev_pos f4 ?_)))
          refine ev_bind (spec_l01Var_eq N f5) ?_
          rw [Int.toNat_natCast, Int.toNat_natCast]
          by_cases hz : 0 < j ∧ c = 0
          · have hyes : (0 < j ∧ c = 0) ∨ 1000000000 < N := .inl hz
            rw [if_pos hyes]
            exact ev_neg (fun q => hvp.1 q hz) ev_some
          · have hng : ¬ ((0 < j ∧ c = 0) ∨ 1000000000 < N) := by
              rintro (q | q)
              · exact hz q
              · exact hb q
            rw [if_neg hng]
            exact ev_pos (hvp.2 hz) ev_some
  exact key 5 0 0 rfl (by decide) rfl (fun x hx => by cases hx)
/- spec_l11Var -/
theorem spec_l11Var_eq (s : ByteArray) (i : Int) (b : Bool) (hs : s.size ≤ 1048580) : g_spec_l11Var (s, i, b) = some (numberF (s, i, b)) := by
  unfold g_spec_l11Var spec_l11Var_ numberF
  simp only [spec_ReadVar_eq s i hs, Option.bind_some]
  split
  · rfl
  · split <;> rfl
/- spec_Unsealed -/
theorem spec_Unsealed_eq (t : ByteArray) (hs : t.size ≤ 1048580) : g_spec_Unsealed t = some (unsealT t) := by
  unfold g_spec_Unsealed spec_Unsealed_ unsealT
  have hw : wrap64 (((t.size : Nat) : Int) - 4) = ((t.size : Nat) : Int) - 4 := w64 (by omega) (by omega)
  simp only [hw]
  by_cases h : t.size < 4
  · have c : ((t.size : Nat) : Int) - 4 < 0 := by omega
    rw [if_pos c, if_pos h]
  · have c : ¬ ((t.size : Nat) : Int) - 4 < 0 := by omega
    have c1 : 0 ≤ ((t.size : Nat) : Int) - 4 := by omega
    have c2 : ((t.size : Nat) : Int) - 4 ≤ ((t.size : Nat) : Int) := by omega
    have hf := front_size t
    rw [if_neg c, if_neg h]
    by_cases h2 : 20000 < (front t).size
    · have h3 : ¬ ((front t).size ≤ 20000 ∧ front t ++ four (sumOf (front t)) = t) := by omega
      have c3 : 20000 < ((t.size : Nat) : Int) - 4 := by omega
      rw [if_pos c3, if_neg h3]
    · have c3 : ¬ 20000 < ((t.size : Nat) : Int) - 4 := by omega
      have e0 : (Int.toNat (((t.size : Nat) : Int) - 4)) = t.size - 4 := by omega
      have e : ByteArray.extract t (Int.toNat 0) (t.size - 4) = front t := rfl
      have e1 : Int.toNat ((t.size : Nat) : Int) = t.size := rfl
      have hq := spec_SumOf_eq (front t) (by omega)
      simp only [c1, c2, c3, if_true, if_false, e0, e1, e, hq, Option.bind_some, spec_l02Four_eq]
      by_cases h3 : front t ++ four (sumOf (front t)) = t
      · have h4 : (front t).size ≤ 20000 ∧ front t ++ four (sumOf (front t)) = t := ⟨by omega, h3⟩
        rw [if_pos h4, if_pos ((tail_eq t _).2 h3)]
      · have h4 : ¬ ((front t).size ≤ 20000 ∧ front t ++ four (sumOf (front t)) = t) := fun q => h3 q.2
        rw [if_neg h4, if_neg (fun q => h3 ((tail_eq t _).1 q))]
/- spec_ReadOrder -/
-- needs: impl_ReadOrder
theorem spec_ReadOrder_eq (t : ByteArray) (hs : t.size ≤ 1048580) : g_spec_ReadOrder t = some (readO t) := by
  unfold g_spec_ReadOrder spec_ReadOrder_ readO
  simp only [spec_Unsealed_eq t hs, Option.bind_some]
  by_cases hu : (unsealT t).2 = true
  case neg =>
    rw [if_neg hu, if_neg (fun q => hu q.1)]
  obtain ⟨hz, hj⟩ := unsealT_ok hu
  rw [if_pos hu]
  generalize (unsealT t).1 = s at hz hj
  by_cases h0 : 0 < s.size
  case neg =>
    have c0 : ((s.size : Nat) : Int) < 1 := by omega
    rw [if_pos c0, if_neg (fun q => h0 q.2)]
  have c1 : ¬ ((s.size : Nat) : Int) < 1 := by omega
  have c0 : (0 : Int) < ((s.size : Nat) : Int) := by omega
  rw [if_neg c1, if_pos (Nat.le_refl 0), if_pos c0, if_pos ⟨hu, h0⟩]
  have k1 := numberF_keep (s, 1, false)
  have k2 := numberF_keep (numberF (s, 1, false)).2
  have e1 := spec_l11Var_eq s 1 false (by omega)
  have e2 : g_spec_l11Var (numberF (s, 1, false)).2 = some (numberF (numberF (s, 1, false)).2) := by
    have h : (numberF (s, 1, false)).2.1.size ≤ 1048580 := by rw [k1]; show s.size ≤ _; omega
    exact spec_l11Var_eq _ _ _ h
  have e3 : g_spec_l11Var (numberF (numberF (s, 1, false)).2).2 = some (numberF (numberF (numberF (s, 1, false)).2).2) := by
    have h : (numberF (numberF (s, 1, false)).2).2.1.size ≤ 1048580 := by rw [k2, k1]; show s.size ≤ _; omega
    exact spec_l11Var_eq _ _ _ h
  simp only [e1, e2, e3, Option.bind_some, w64_byt, spec_OrderText_eq]
  by_cases hb : (numberF (numberF (numberF (s, 1, false)).2).2).2.2.2 = true
  · rw [if_pos hb, if_pos hb]
  · rw [if_neg hb, if_neg hb]
    have hb' : (numberF (numberF (numberF (s, 1, false)).2).2).2.2.2 = false := by simpa using hb
    obtain ⟨N1, N2, N3, e, r1, r2, r3, r4, le, tx⟩ := numberF_three h0 hb'
    rw [r1, r2, r3, r4]
    unfold orderT
    by_cases hk : orderOk (byt s 0, (N1 : Int), (N2 : Int), (N3 : Int)) = true
    · rw [if_pos hk, tx]
      obtain ⟨g1, g2⟩ := seal_same s e hz le
      rw [hj] at g2
      rw [if_pos g1]
      by_cases he : e = s.size
      · have hc : (e : Int) = ((s.size : Nat) : Int) ∧ orderOk (byt s 0, (N1 : Int), (N2 : Int), (N3 : Int)) = true := ⟨by omega, hk⟩
        rw [if_pos (g2.2 he), if_pos hc]
      · have hc : ¬ ((e : Int) = ((s.size : Nat) : Int) ∧ orderOk (byt s 0, (N1 : Int), (N2 : Int), (N3 : Int)) = true) := fun q => he (by have := q.1; omega)
        rw [if_neg (fun q => he (g2.1 q)), if_neg hc]
    · have hc : ¬ ((e : Int) = ((s.size : Nat) : Int) ∧ orderOk (byt s 0, (N1 : Int), (N2 : Int), (N3 : Int)) = true) := fun q => hk q.2
      rw [if_neg hk, if_neg hc]
      rfl
/- spec_MenuNew -/
theorem spec_MenuNew_eq : g_spec_MenuNew () = some menuNew := rfl
/- spec_l17Number -/
theorem spec_l17Number_eq (s : ByteArray) (hs : s.size ≤ 1048580) : g_spec_l17Number s = some (num s) := by
  refine evG_eq ?_
  unfold spec_l17Number_ num
  refine bytes_loop s (fun k z i => spec_l17Number_L3 k (s, z, i, ())) numF (fun z => ?_) (fun i z x rest hx hi h => ?_) 0
  · refine Ev.step (fun q => by rw [spec_l17Number_L3]) ?_
    exact ev_neg (by omega) ev_some
  · refine Ev.step (fun q => by rw [spec_l17Number_L3]) ?_
    refine ev_pos (by omega) (ev_pos (by omega) (ev_pos (by omega) ?_))
    have e : wrap64 (wr .u8 ((x.toNat : Int) - 48)) = ((x.toNat : Int) - 48) % 256 := by rw [wr8]; exact w64 (by omega) (by omega)
    rw [byt_drop hx, w64_succ (by omega), e]
    exact h _
/- spec_Press -/
theorem spec_Press_eq (a : Int) (b : Bool) (n d : Int) (s : ByteArray) (c : Int) (hs : s.size ≤ 1048580) : g_spec_Press ((a, b, n, d, s), c) = some (press (a, b, n, d, s) c) := by
  unfold g_spec_Press spec_Press_ press
  simp only [spec_MenuOk_eq a b n d s hs, spec_l17Number_eq s hs, spec_OrderOk_eq, spec_MenuNew_eq, Option.bind_some, wr8, size_bstr]
  have enter : (if a = 2 then some (((3, b, num s, d, ⟨#[]⟩) : Menu), ((0, 0, 0, 0) : Order), false)
        else if a = 3 then some ((4, b, n, num s, ⟨#[]⟩), (0, 0, 0, 0), false)
        else if b = true then (if orderOk (2, 0, 0, num s) = true then some (menuNew, (2, 0, 0, num s), true) else some (menuNew, (0, 0, 0, 0), false))
        else (if orderOk (1, n, d, num s) = true then some (menuNew, (1, n, d, num s), true) else some (menuNew, (0, 0, 0, 0), false))) = some (if a = 2 then ((3, b, num s, d, ⟨#[]⟩), (0, 0, 0, 0), false)
        else if a = 3 then ((4, b, n, num s, ⟨#[]⟩), (0, 0, 0, 0), false)
        else if b = true then sent 2 0 0 (num s)
        else sent 1 n d (num s)) := by
    unfold sent
    repeat' split
    all_goals rfl
  refine ite_r (fun h => ?_) (fun h => ?_)
  · rw [if_pos h]
    refine ite_r (fun h1 => ?_) (fun h1 => ?_)
    · rw [if_pos h1]
      unfold g_spec_l17Top spec_l17Top_
      simp only []
      repeat' split
      all_goals rfl
    · rw [if_neg h1]
      refine ite_r (fun h48 => ?_) (fun h48 => ?_)
      · refine ite_r (fun h57 => ?_) (fun h57 => ?_)
        · rw [if_neg (show ¬ c = 10 by omega), if_neg (show ¬ c = 99 by omega)]
          refine ite_r (fun h5 => ?_) (fun h5 => ?_)
          · rw [if_pos (show ((s.size + List.length [c % 256] : Nat) : Int) ≤ 9223372036854775807 by simp only [List.length_singleton]; omega), if_pos (show (48 ≤ c ∧ c ≤ 57) ∧ s.size < 4 from ⟨⟨h48, h57⟩, by omega⟩)]
          · rw [if_neg (show ¬ ((48 ≤ c ∧ c ≤ 57) ∧ s.size < 4) from fun q => h5 (by omega))]
        · refine ite_r (fun h99 => ?_) (fun h99 => ?_)
          · rw [if_neg (show ¬ c = 10 by omega), if_pos h99]
          · refine ite_r (fun h10 => ?_) (fun h10 => ?_)
            · omega
            · rw [if_neg h10, if_neg h99, if_neg (show ¬ ((48 ≤ c ∧ c ≤ 57) ∧ s.size < 4) from fun q => h57 q.1.2)]
      · refine ite_r (fun h99 => ?_) (fun h99 => ?_)
        · omega
        · refine ite_r (fun h10 => ?_) (fun h10 => ?_)
          · rw [if_pos h10]
            exact enter
          · rw [if_neg h10, if_neg h99, if_neg (show ¬ ((48 ≤ c ∧ c ≤ 57) ∧ s.size < 4) from fun q => h48 q.1.1)]
  · rw [if_neg h]
/- spec_PressAll -/
theorem spec_PressAll_eq (m : Menu) (s : ByteArray) (hm : m.2.2.2.2.size ≤ 1048580) (hs : s.size ≤ 1048580) : g_spec_PressAll (m, s) = some (pressAll m s) := by
  refine evG_eq ?_
  have key : ∀ (z8 : Int) (z9 : Bool) (z10 z11 : Int) (z12 : ByteArray) (i : Nat), i ≤ (bl s).length → ∀ q : Menu × List Order, q.1.2.2.2.2.size ≤ 1048580 → q.2.length ≤ i →
      Ev (fun k => spec_PressAll_L3 (fun _ => g_spec_Press) k (s, (i : Int), q.1.1, q.1.2.1, q.1.2.2.1, q.1.2.2.2.1, q.1.2.2.2.2, z8, z9, z10, z11, z12, q.2, ())) (pressL ((bl s).drop i) q.1 q.2) := by
    intro z8 z9 z10 z11 z12 i hi
    obtain ⟨d, hd⟩ : ∃ d, d = (bl s).length - i := ⟨_, rfl⟩
    have hbl := bl_len s
    induction d generalizing i with
    | zero =>
      intro q _ _
      have e : i = (bl s).length := by omega
      rw [List.drop_of_length_le (by omega)]
      refine Ev.step (fun w => by rw [spec_PressAll_L3]) ?_
      exact ev_neg (by omega) ev_some
    | succ d ih =>
      intro q h1 h2
      have hlt : i < (bl s).length := by omega
      have hc : (bl s).drop i = (bl s)[i] :: (bl s).drop (i + 1) := List.drop_eq_getElem_cons hlt
      have hx := u8_range ((bl s)[i])
      rw [hc]
      refine Ev.step (fun q => by rw [spec_PressAll_L3]) ?_
      refine ev_pos (by omega) (ev_pos (by omega) (ev_pos (by omega) ?_))
      rw [byt_drop hc, w64 (n := (((bl s)[i]).toNat : Int)) (by omega) (by omega), w64_succ (by omega)]
      refine ev_bind (spec_Press_eq _ _ _ _ _ _ h1) ?_
      have hp := press_digits q.1 (((bl s)[i]).toNat : Int) h1
      unfold pressL
      refine ev_dom (fun h => ?_) (fun h => ?_)
      · rw [if_pos h]
        refine ev_pos (by simp only [List.length_singleton]; omega) ?_
        exact ih (i + 1) (by omega) (by omega) ((press q.1 (((bl s)[i]).toNat : Int)).1, q.2 ++ [(press q.1 (((bl s)[i]).toNat : Int)).2.1]) hp (by simp only [List.length_append, List.length_singleton]; omega)
      · rw [if_neg h]
        exact ih (i + 1) (by omega) (by omega) ((press q.1 (((bl s)[i]).toNat : Int)).1, q.2) hp (by show q.2.length ≤ i + 1; omega)
  obtain ⟨a, b, n, d, t⟩ := m
  exact key 0 false 0 0 ⟨#[]⟩ 0 (by omega) ((a, b, n, d, t), []) hm (Nat.le_refl _)
/- spec_InOk -/
theorem spec_InOk_eq (i : In) : g_spec_InOk i = some (inOk i) := by
  obtain ⟨a, s, t⟩ := i
  unfold g_spec_InOk spec_InOk_ inOk
  simp only [spec_SenseOk_eq, Option.bind_some]
  by_cases h : senseOk a = true
  · rw [if_pos h, h, Bool.true_and]
    by_cases h1 : s.size ≤ 20
    · rw [if_pos (by omega), decide_eq_true h1, Bool.true_and]
      congr 1
      by_cases h2 : t.size ≤ 40
      · rw [decide_eq_true h2, decide_eq_true (by omega)]
      · rw [decide_eq_false h2, decide_eq_false (by omega)]
    · rw [if_neg (by omega), decide_eq_false h1, Bool.false_and]
  · rw [if_neg h, Bool.eq_false_iff.2 h, Bool.false_and]
/- spec_l18Copy -/
theorem spec_l18Copy_eq (p : Pump) (past : List Int) (alarm : Int) (m : Menu) (ts : List Tick) (ref : Int) (h1 : past.length ≤ 1048580) (h2 : ts.length ≤ 1048580) : g_spec_l18Copy (dev p past alarm m ts ref) = some (dev p past alarm m ts ref) := by
  have e := spec_l16Copy_eq past alarm (by omega)
  unfold g_spec_l18Copy spec_l18Copy_ dev
  simp only [e, Option.bind_some, List.nil_append, List.length_nil]
  have c : (((0 + ts.length : Nat) : Int) * ((24 : Nat) : Int)) ≤ 140737488355328 := by omega
  rw [if_pos c]
/- spec_TickDevice -/
theorem takeL_shift : ∀ (os : List Order) (p : Pump) (r : Int), takeL os p (r + 1) = ((takeL os p r).1, (takeL os p r).2 + 1)
  | [], _, _ => rfl
  | o :: os, p, r => by
    unfold takeL
    by_cases h : (takeO p o).2 = true
    · rw [if_pos h, if_pos h]
      exact takeL_shift os _ r
    · rw [if_neg h, if_neg h]
      exact takeL_shift os _ (r + 1)
def finS (past : List Int) (alarm : Int) (m' : Menu) (ts : List Tick) (b : Int) (sn : Bool) (q : Pump) (r : Int) : Device :=
  dev (tickP q past (feel past alarm b sn)) (pass past (feel past alarm b sn) (allow past (feel past alarm b sn) (wants q))) (feel past alarm b sn) m' (ts ++ [(allow past (feel past alarm b sn) (wants q), feel past alarm b sn, (tickP q past (feel past alarm b sn)).1)]) r
set_option maxHeartbeats 2000000 in
theorem spec_TickDevice_eq (p : Pump) (past : List Int) (alarm : Int) (m : Menu) (ts : List Tick) (ref : Int) (i : In) (hp : past.length ≤ 1048580) (hm : m.2.2.2.2.size ≤ 1048580) (ht : ts.length ≤ 1048580) :
    g_spec_TickDevice (dev p past alarm m ts ref, i) = some (tickD p past alarm m ts ref i) := by
  refine evG_eq ?_
  obtain ⟨a, b, n, d, s⟩ := m
  have hm : s.size ≤ 1048580 := hm
  have e1 := spec_l18Copy_eq p past alarm (a, b, n, d, s) ts ref hp ht
  have e2 := spec_DeviceOk_eq p past alarm (a, b, n, d, s) ts ref (by omega) hm
  have e3 := spec_InOk_eq i
  unfold spec_TickDevice_ tickD
  refine ev_bind e1 (ev_bind e2 ?_)
  by_cases hd : deviceOk p past alarm (a, b, n, d, s) ts ref = true
  case neg =>
    rw [if_neg (fun q => hd q.1)]
    exact ev_neg hd ev_some
  refine ev_pos hd (ev_bind e3 ?_)
  by_cases hi : inOk i = true
  case neg =>
    rw [if_neg (fun q => hi q.2.1)]
    exact ev_neg hi ev_some
  refine ev_pos hi ?_
  by_cases h2 : ts.length = 200
  case pos =>
    rw [if_neg (fun q => q.2.2.1 h2)]
    exact ev_pos (by omega) ev_some
  refine ev_neg (by omega) ?_
  by_cases h9 : ref ≤ 999999900
  case neg =>
    rw [if_neg (fun q => h9 q.2.2.2)]
    exact ev_pos (by omega) ev_some
  refine ev_neg (by omega) ?_
  rw [if_pos ⟨hd, hi, h2, h9⟩]
  obtain ⟨i1, i2, i3⟩ := inOk_den hi
  obtain ⟨q1, q2, q3, q4, q5, q6⟩ := deviceOk_den hd
  have e4 := spec_PressAll_eq (a, b, n, d, s) i.2.1 hm (by omega)
  have e5 := spec_ReadOrder_eq i.2.2 (by omega)
  have hlen := pressAll_len (a, b, n, d, s) i.2.1
  refine ev_bind e4 ?_
  have key : ∀ (os : List Order), os.length ≤ 1048580 → ∀ (m' : Menu) (d2 j : Nat), j + d2 = os.length → ∀ (sn : Bool) (q : Pump) (r : Int), 0 ≤ r → r ≤ 999999901 + (j : Int) →
      Ev (fun k => spec_TickDevice_L13 (fun _ => g_spec_Allow) (fun _ => g_spec_DeviceOk) (fun _ => g_spec_Feel) (fun _ => g_spec_Give) (fun _ => g_spec_InOk) (fun _ => g_spec_Pass) (fun _ => g_spec_PressAll) (fun _ => g_spec_ReadOrder) (fun _ => g_spec_Take) (fun _ => g_spec_Wants) (fun _ => g_spec_l18Copy) k
        (sn, (j : Int), past, ts, p.1, p.2.1, p.2.2.1, p.2.2.2.1, p.2.2.2.2.1, p.2.2.2.2.2.1, p.2.2.2.2.2.2.1, p.2.2.2.2.2.2.2, alarm, a, b, n, d, s, ref, i.1, i.2.1, i.2.2, 0, 0, 0, 0, 0, 0, 0, 0, 0, 0, false, 0, 0, (⟨#[]⟩ : ByteArray), 0, q.1, q.2.1, q.2.2.1, q.2.2.2.1, q.2.2.2.2.1, q.2.2.2.2.2.1, q.2.2.2.2.2.2.1, q.2.2.2.2.2.2.2, alarm, m'.1, m'.2.1, m'.2.2.1, m'.2.2.2.1, m'.2.2.2.2, r, os, [], [], past, ts, ()))
        (finS past alarm m' ts i.1 (sn || seenF (os.drop j)) (takeL (os.drop j) q r).1 (takeL (os.drop j) q r).2) := by
    intro os hos m' d2
    induction d2 with
    | zero =>
      intro j hj sn q r hr0 hr
      have ej : os.drop j = [] := List.drop_eq_nil_of_le (by omega)
      rw [ej]
      have e0 : (sn || seenF []) = sn := by cases sn <;> rfl
      rw [e0]
      simp only [takeL]
      refine Ev.step (fun w => by rw [spec_TickDevice_L13]) ?_
      refine ev_neg (by omega) (ev_bind (spec_Feel_eq past alarm i.1 sn (by omega)) (ev_bind (spec_Wants_eq q) (ev_bind (spec_Allow_eq past (feel past alarm i.1 sn) (wants q) (by omega)) (ev_dom (fun ha => ?_) (fun ha => ?_)))))
      · refine ev_bind (spec_Give_eq q _) (ev_bind (spec_Pass_eq past _ _ (by omega)) (ev_pos (by simp only [List.length_singleton]; omega) (ev_eq ?_)))
        have ha : feel past alarm i.1 sn = 0 := ha
        unfold finS tickP
        rw [if_pos ha]
        rfl
      · refine ev_bind (spec_Pass_eq past _ _ (by omega)) (ev_pos (by simp only [List.length_singleton]; omega) (ev_eq ?_))
        have ha : ¬ feel past alarm i.1 sn = 0 := ha
        unfold finS tickP
        rw [if_neg ha]
        rfl
    | succ d2 ih =>
      intro j hj sn q r hr0 hr
      have hlt : j < os.length := by omega
      have hc : os.drop j = os[j] :: os.drop (j + 1) := List.drop_eq_getElem_cons hlt
      rw [hc]
      simp only [takeL]
      have hsn : ∀ c : Bool, (sn || seenF (os[j] :: os.drop (j + 1))) = ((sn || decide (os[j].1 = 5)) || seenF (os.drop (j + 1))) := fun _ => by
        rw [Bool.or_assoc]; rfl
      rw [hsn true]
      refine Ev.step (fun w => by rw [spec_TickDevice_L13]) ?_
      refine ev_pos (by omega) (ev_pos (by omega) (ev_pos (by omega) ?_))
      rw [getD_drop hc, w64_succ (by omega)]
      refine ev_dom (fun h5 => ?_) (fun h5 => ?_)
      · have ht : takeO q os[j] = (q, true) := by unfold takeO; rw [if_pos h5]
        rw [decide_eq_true h5, Bool.or_true, ht]
        simp only [if_true]
        exact ih (j + 1) (by omega) true q r hr0 (by omega)
      · have ht : takeO q os[j] = take q os[j] := by unfold takeO; rw [if_neg h5]
        rw [decide_eq_false h5, Bool.or_false, ht]
        refine ev_pos (by omega) (ev_pos (by omega) (ev_bind (spec_Take_eq q os[j]) (ev_dom (fun hb => ?_) (fun hb => ?_))))
        · have hb : (take q os[j]).2 = true := hb
          rw [if_pos hb]
          exact ih (j + 1) (by omega) sn (take q os[j]).1 r hr0 (by omega)
        · have hb : ¬ (take q os[j]).2 = true := hb
          rw [if_neg hb]
          have ew : wrap64 (r + 1) = r + 1 := w64 (by omega) (by omega)
          simp only [ew]
          exact ih (j + 1) (by omega) sn (take q os[j]).1 (r + 1) (by omega) (by omega)
  unfold behind
  by_cases hz : i.2.2 = ⟨#[]⟩
  · have hz2 : i.2.2.size = 0 := (eq_empty _).1 hz
    have hk2 : ¬ (i.2.2.size ≠ 0 ∧ (readO i.2.2).2 = false) := fun w => w.1 hz2
    have ho : ordersOf (a, b, n, d, s) i = pressAll (a, b, n, d, s) i.2.1 := by
      unfold ordersOf
      rw [hz, readO_empty, if_neg (by simp)]
    rw [if_neg hk2, ho]
    refine ev_pos hz ?_
    exact key (pressAll (a, b, n, d, s) i.2.1).2 (by omega) (pressAll (a, b, n, d, s) i.2.1).1 _ 0 (Nat.zero_add _) false p ref q5 (by omega)
  · have hz2 : i.2.2.size ≠ 0 := fun w => hz ((eq_empty _).2 w)
    refine ev_neg hz (ev_bind e5 ?_)
    by_cases hk : (readO i.2.2).2 = true
    · have hk2 : ¬ (i.2.2.size ≠ 0 ∧ (readO i.2.2).2 = false) := fun w => by rw [hk] at w; cases w.2
      have ho : ordersOf (a, b, n, d, s) i = ((pressAll (a, b, n, d, s) i.2.1).1, (pressAll (a, b, n, d, s) i.2.1).2 ++ [(readO i.2.2).1]) := by
        unfold ordersOf
        rw [if_pos hk]
      rw [if_neg hk2, ho]
      refine ev_pos hk (ev_pos (by simp only [List.length_singleton]; omega) ?_)
      exact key ((pressAll (a, b, n, d, s) i.2.1).2 ++ [(readO i.2.2).1]) (by simp only [List.length_append, List.length_singleton]; omega) (pressAll (a, b, n, d, s) i.2.1).1 _ 0 (Nat.zero_add _) false p ref q5 (by omega)
    · have hk2 : i.2.2.size ≠ 0 ∧ (readO i.2.2).2 = false := ⟨hz2, by simpa using hk⟩
      have ho : ordersOf (a, b, n, d, s) i = pressAll (a, b, n, d, s) i.2.1 := by
        unfold ordersOf
        rw [if_neg hk]
      rw [if_pos hk2, ho]
      have hw : wrap64 (ref + 1) = ref + 1 := w64 (by omega) (by omega)
      have hsh := takeL_shift (pressAll (a, b, n, d, s) i.2.1).2 p ref
      have hkey := key (pressAll (a, b, n, d, s) i.2.1).2 (by omega) (pressAll (a, b, n, d, s) i.2.1).1 _ 0 (Nat.zero_add _) false p (ref + 1) (by omega) (by omega)
      rw [List.drop_zero, hsh] at hkey
      rw [← hw] at hkey
      exact ev_neg hk hkey
/- spec_PumpNew -/
theorem spec_PumpNew_eq : g_spec_PumpNew () = some (0, 0, 1, 0, 0, 0, 0, 0) := rfl
/- spec_DeviceNew -/
theorem spec_DeviceNew_eq : g_spec_DeviceNew () = some devNew := by
  unfold g_spec_DeviceNew spec_DeviceNew_
  have e1 := spec_MenuNew_eq
  have e2 := spec_PumpNew_eq
  simp only [e1, e2, Option.bind_some]
  rfl
/- spec_RunDevice -/
set_option maxHeartbeats 1000000 in
theorem spec_RunDevice_eq (l : List In) (hl : l.length ≤ 1048580) : g_spec_RunDevice l = some (runD l) := by
  refine evG_eq ?_
  unfold spec_RunDevice_
  have run : ∀ (d2 j : Nat), j + d2 = l.length → ∀ d : Device, DOk d →
      Ev (fun k => spec_RunDevice_L10 (fun _ => g_spec_DeviceNew) (fun _ => g_spec_InOk) (fun _ => g_spec_TickDevice) k ((j : Int), l, 0, 0, 0, 0, 0, 0, 0, 0, 0, 0, false, 0, 0, (⟨#[]⟩ : ByteArray), 0, d.1, d.2.1, d.2.2.1, d.2.2.2.1, d.2.2.2.2.1, d.2.2.2.2.2.1, d.2.2.2.2.2.2.1, d.2.2.2.2.2.2.2.1, d.2.2.2.2.2.2.2.2.2.1, d.2.2.2.2.2.2.2.2.2.2.1, d.2.2.2.2.2.2.2.2.2.2.2.1, d.2.2.2.2.2.2.2.2.2.2.2.2.1, d.2.2.2.2.2.2.2.2.2.2.2.2.2.1, d.2.2.2.2.2.2.2.2.2.2.2.2.2.2.1, d.2.2.2.2.2.2.2.2.2.2.2.2.2.2.2.2, [], [], d.2.2.2.2.2.2.2.2.1, d.2.2.2.2.2.2.2.2.2.2.2.2.2.2.2.1, ())) ((l.drop j).foldl tick d, true) := by
    intro d2
    induction d2 with
    | zero =>
      intro j hj d hd
      have ej : l.drop j = [] := List.drop_eq_nil_of_le (by omega)
      rw [ej]
      refine Ev.step (fun w => by rw [spec_RunDevice_L10]) ?_
      exact ev_neg (by omega) (ev_eq rfl)
    | succ d2 ih =>
      intro j hj d hd
      have hlt : j < l.length := by omega
      have hc : l.drop j = l[j] :: l.drop (j + 1) := List.drop_eq_getElem_cons hlt
      rw [hc]
      refine Ev.step (fun w => by rw [spec_RunDevice_L10]) ?_
      refine ev_pos (by omega) (ev_pos (by omega) (ev_pos (by omega) ?_))
      rw [getD_drop hc, w64_succ (by omega)]
      have hq : g_spec_TickDevice (d, l[j]) = some (tick d l[j]) := by
        obtain ⟨p, past, alarm, m, ts, ref, rfl, hk⟩ := hd
        obtain ⟨_, h2, h3, h4, _, _⟩ := deviceOk_den hk
        have h5 := menu_size h3
        have h6 := (guardOk_den h2).1
        rw [tick_dev]
        exact spec_TickDevice_eq p past alarm m ts ref l[j] (by omega) (by omega) (by omega)
      refine ev_bind hq ?_
      exact ih (j + 1) (by omega) (tick d l[j]) (hd.tick _)
  have all : ∀ (d2 j : Nat), j + d2 = l.length → ∀ ok : Bool,
      Ev (fun k => spec_RunDevice_L3 (fun _ => g_spec_DeviceNew) (fun _ => g_spec_InOk) (fun _ => g_spec_TickDevice) k (ok, (j : Int), l, 0, 0, 0, 0, 0, 0, 0, 0, 0, 0, false, 0, 0, (⟨#[]⟩ : ByteArray), 0, [], [], ())) (if (ok && (l.drop j).all inOk) = true then (l.foldl tick devNew, true) else (devZero, false)) := by
    intro d2
    induction d2 with
    | zero =>
      intro j hj ok
      have ej : l.drop j = [] := List.drop_eq_nil_of_le (by omega)
      rw [ej]
      refine Ev.step (fun w => by rw [spec_RunDevice_L3]) ?_
      cases ok with
      | true =>
        have ht : (true && ([] : List In).all inOk) = true := rfl
        rw [if_pos ht]
        exact ev_neg (by omega) (ev_pos rfl (ev_bind spec_DeviceNew_eq (run l.length 0 (by omega) devNew devNew_ok)))
      | false =>
        have ht : ¬ (false && ([] : List In).all inOk) = true := by simp
        rw [if_neg ht]
        exact ev_neg (by omega) (ev_neg (by simp) (ev_eq rfl))
    | succ d2 ih =>
      intro j hj ok
      have hlt : j < l.length := by omega
      have hc : l.drop j = l[j] :: l.drop (j + 1) := List.drop_eq_getElem_cons hlt
      rw [hc]
      refine Ev.step (fun w => by rw [spec_RunDevice_L3]) ?_
      cases ok with
      | true =>
        refine ev_pos (by omega) (ev_pos rfl (ev_pos (by omega) (ev_pos (by omega) ?_)))
        rw [getD_drop hc, w64_succ (by omega)]
        refine ev_bind (spec_InOk_eq l[j]) ?_
        have e : (true && (l[j] :: l.drop (j + 1)).all inOk) = (inOk l[j] && (l.drop (j + 1)).all inOk) := rfl
        rw [e]
        exact ih (j + 1) (by omega) (inOk l[j])
      | false =>
        have ht : ¬ (false && (l[j] :: l.drop (j + 1)).all inOk) = true := by simp
        rw [if_neg ht]
        exact ev_pos (by omega) (ev_neg (by simp) (ev_neg (by simp) (ev_eq rfl)))
  have h := all l.length 0 (by omega) (decide (((List.length l : Nat) : Int) ≤ 150))
  refine Ev.cast h ?_
  unfold runD
  rw [List.drop_zero]
  by_cases h1 : 150 < l.length
  · rw [if_pos h1, decide_eq_false (by omega), if_neg (by simp)]
  · rw [if_neg h1, decide_eq_true (by omega), Bool.true_and]
/- spec_ReadDecimal -/
theorem valL_snoc (a : Nat) (l : List UInt8) (c : UInt8) : valL a (l ++ [c]) = valL a l * 10 + (c.toNat - 48) := by
  unfold valL
  rw [List.foldl_append, List.foldl_cons, List.foldl_nil]
theorem decR_no (s : ByteArray) (h : ¬ DecP s) : decR s = (0, false) := by unfold decR; rw [if_neg h]
theorem spec_ReadDecimal_loop (s : ByteArray) (hs : s.size ≤ 10) : ∀ (d i : Nat), i + d = s.size → (∀ c ∈ (bl s).take i, dig c) → ∀ v : Nat, v = valL 0 ((bl s).take i) → v < 10 ^ i →
    Ev (fun k => spec_ReadDecimal_L5 (fun _ => g_spec_Decimal) k (s, (v : Int), (i : Int), ())) (decR s) := by
  intro d
  induction d with
  | zero =>
    intro i hi hd v hv hp
    have e : i = s.size := by omega
    subst e
    have ht : (bl s).take s.size = bl s := List.take_of_length_le (by rw [bl_len]; exact Nat.le_refl _)
    rw [ht] at hd hv
    have hp2 : v < 10000000000 := Nat.lt_of_lt_of_le hp (Nat.pow_le_pow_right (by omega) hs)
    clear hp
    refine Ev.step (fun q => by rw [spec_ReadDecimal_L5]) ?_
    refine ev_neg (by omega) (ev_dom (fun h => ?_) (fun h => ?_))
    · rw [decR_no s (fun q => by have := q.2.2.1; rw [← hv] at this; omega)]
      exact ev_some
    · refine ev_bind (spec_Decimal_big v (by omega)) (ev_dom (fun h2 => ?_) (fun h2 => ?_))
      · have hP : DecP s := ⟨hd, hs, by rw [← hv]; omega, by rw [← hv]; exact h2⟩
        unfold decR
        rw [if_pos hP, ← hv]
        exact ev_some
      · rw [decR_no s (fun q => h2 (by have := q.2.2.2; rw [← hv] at this; exact this))]
        exact ev_some
  | succ d ih =>
    intro i hi hd v hv hp
    have hl : i < (bl s).length := by rw [bl_len]; omega
    have e1 : (bl s).drop i = (bl s)[i] :: (bl s).drop (i + 1) := List.drop_eq_getElem_cons hl
    have b1 := byt_drop e1
    have hx := ((bl s)[i]).toNat_lt
    have e2 : (bl s).take (i + 1) = (bl s).take i ++ [(bl s)[i]] := by rw [List.take_succ_eq_append_getElem hl]
    have hpow : (10 : Nat) ^ (i + 1) = 10 ^ i * 10 := Nat.pow_succ ..
    have hple : (10 : Nat) ^ i ≤ 10 ^ 9 := Nat.pow_le_pow_right (by omega) (by omega)
    have bad : ¬ dig (bl s)[i] → decR s = (0, false) := fun hb => decR_no s fun q => hb (q.1 _ (List.getElem_mem hl))
    refine Ev.step (fun q => by rw [spec_ReadDecimal_L5]) ?_
    rw [b1, w64_succ (by omega)]
    refine ev_pos (by omega) (ev_pos (by omega) (ev_pos (by omega) (ev_dom (fun h => ?_) (fun h => ?_))))
    · rw [bad (fun q => by have := q.1; omega)]; exact ev_some
    refine ev_pos (by omega) (ev_pos (by omega) (ev_dom (fun h' => ?_) (fun h' => ?_)))
    · rw [bad (fun q => by have := q.2; omega)]; exact ev_some
    have hdig : dig (bl s)[i] := ⟨by omega, by omega⟩
    have w1 : wrap64 (wrap64 (wrap64 (10 * (v : Int)) + wrap64 ((((bl s)[i]).toNat : Nat) : Int)) - 48) = ((v * 10 + (((bl s)[i]).toNat - 48) : Nat) : Int) := by
      clear b1 e1 e2 bad ih hd hv
      generalize ((bl s)[i]).toNat = x at *
      generalize (10 : Nat) ^ i = p at *
      have hp9 : p ≤ 1000000000 := hple
      rw [w64 (n := 10 * (v : Int)) (by omega) (by omega), w64 (n := (x : Int)) (by omega) (by omega), w64 (n := 10 * (v : Int) + (x : Int)) (by omega) (by omega), w64 (by omega) (by omega)]
      omega
    rw [w1]
    refine ev_pos (by omega) (ev_pos (by omega) ?_)
    refine ih (i + 1) (by omega) ?_ _ ?_ ?_
    · rw [e2]
      intro c hc
      rcases List.mem_append.1 hc with h3 | h3
      · exact hd c h3
      · rw [List.mem_singleton.1 h3]; exact hdig
    · rw [e2, valL_snoc, ← hv]
    · rw [hpow]
      generalize (10 : Nat) ^ i = p at *
      have := hdig.2
      omega
theorem spec_ReadDecimal_eq (s : ByteArray) : g_spec_ReadDecimal s = some (decR s) := by
  refine evG_eq ?_
  unfold spec_ReadDecimal_
  refine ev_dom (fun h => ?_) (fun h => ?_)
  · rw [decR_no s (fun q => by have := q.2.1; omega)]; exact ev_some
  · exact spec_ReadDecimal_loop s (by omega) s.size 0 (by omega) (by simp) 0 rfl (by decide)
/- spec_l01Value -/
theorem spec_l01Value_eq (x : UInt8) : g_spec_l01Value (x.toNat : Int) = some (hexV x) := by
  have hx := x.toNat_lt
  unfold g_spec_l01Value spec_l01Value_ hexV
  simp only []
  have e0 : wrap64 (x.toNat : Int) = (x.toNat : Int) := w64 (by omega) (by omega)
  rw [e0]
  generalize x.toNat = n at *
  have e1 : wrap64 ((n : Int) - 48) = (n : Int) - 48 := w64 (by omega) (by omega)
  have e2 : wrap64 ((n : Int) - 97) = (n : Int) - 97 := w64 (by omega) (by omega)
  have e3 : wrap64 ((n : Int) - 97 + 10) = (n : Int) - 97 + 10 := w64 (by omega) (by omega)
  rw [e1, e2, e3]
  repeat' split
  all_goals first | rfl | (exfalso; omega)
/- spec_Unhex -/
-- needs: impl_Unhex
theorem spec_Unhex_loop (s : ByteArray) (hs : s.size ≤ 40000) : ∀ (n i : Nat), i + 2 * n = s.size → ∀ acc : List UInt8, acc.length ≤ i →
    Ev (fun k => spec_Unhex_L5 (fun _ => g_spec_l01Value) k (s, (i : Int), toI acc, ())) (unhexR acc ((bl s).drop i)) := by
  intro n
  induction n with
  | zero =>
    intro i hi acc ha
    rw [List.drop_eq_nil_of_le (by rw [bl_len]; omega), unhexR_nil, ← bstr_toI]
    exact Ev.step (fun q => by rw [spec_Unhex_L5]) (ev_neg (by omega) ev_some)
  | succ n ih =>
    intro i hi acc ha
    obtain ⟨x, y, r, e1, e2, e3⟩ := drop_two hi
    have b1 := byt_drop e1
    have b2 := byt_drop (i := i + 1) e2
    have w1 : wrap64 ((i : Int) + 1) = ((i + 1 : Nat) : Int) := by rw [w64_succ (by omega)]; rfl
    have w2 : wrap64 ((i : Int) + 2) = ((i + 2 : Nat) : Int) := by rw [w64 (by omega) (by omega)]; rfl
    refine Ev.step (fun q => by rw [spec_Unhex_L5]) ?_
    rw [w1, w2, b1, b2, e1]
    refine ev_pos (by omega) (ev_pos (by omega) (ev_pos (by omega) (ev_bind (spec_l01Value_eq x) (ev_pos (by omega) (ev_pos (by omega) (ev_bind (spec_l01Value_eq y) ?_))))))
    refine ev_dom (fun h => ?_) (fun h => ?_)
    · rw [unhexR_bad acc r (by omega)]; exact ev_some
    · refine ev_dom (fun h' => ?_) (fun h' => ?_)
      · rw [unhexR_bad acc r (by omega)]; exact ev_some
      · rw [hexB_wr (by omega) (by omega), toI_app, unhexR_step acc r (by omega)]
        refine ev_pos ?_ ?_
        · rw [toI_len]; simp only [List.length_singleton]; omega
        · rw [← e3]
          exact ih (i + 2) (by omega) _ (by simp only [List.length_append, List.length_singleton]; omega)
theorem spec_Unhex_eq (s : ByteArray) : g_spec_Unhex s = some (unhexF s) := by
  refine evG_eq ?_
  unfold spec_Unhex_
  refine ev_dom (fun h' => ?_) (fun h' => ?_)
  · unfold unhexF; rw [if_neg (by omega)]; exact ev_some
  · refine ev_neg (by decide) ?_
    rw [tmod2]
    refine ev_dom (fun h => ?_) (fun h => ?_)
    · rw [unhexF_R s (by omega) (by omega)]
      exact spec_Unhex_loop s (by omega) (s.size / 2) 0 (by omega) [] (Nat.le_refl _)
    · unfold unhexF; rw [if_neg (by omega)]; exact ev_some
/- spec_ReadSense -/
-- needs: spec_SenseNames impl_ReadSense
theorem spec_ReadSense_eq (s : ByteArray) : g_spec_ReadSense s = some (senseRd s) := by
  refine evG_eq ?_
  have key : ∀ (d i : Nat), i + d = 16 → Ev (fun k => spec_ReadSense_L2 (fun _ => g_spec_SenseNames) k (s, (i : Int), ())) (senseR s d i) := by
    intro d
    induction d with
    | zero =>
      intro i hi
      refine Ev.step (fun q => by rw [spec_ReadSense_L2]) ?_
      exact ev_neg (by omega) ev_some
    | succ d ih =>
      intro i hi
      refine Ev.step (fun q => by rw [spec_ReadSense_L2]) ?_
      rw [w64_succ (by omega)]
      refine ev_pos (by omega) (ev_bind (spec_SenseNames_eq i (by omega)) (ev_dom (fun h => ?_) (fun h => ?_)))
      · rw [senseR, if_pos h]; exact ev_some
      · rw [senseR, if_neg h]; exact ih (i + 1) (by omega)
  exact key 16 0 rfl
/- spec_l05Lines -/
-- needs: impl_PartsOf
theorem ofL_extract (s : ByteArray) (a b : Nat) (h1 : a ≤ b) (h2 : b ≤ s.size) : ByteArray.extract s (Int.toNat (a : Int)) (Int.toNat (b : Int)) = ofL (((bl s).drop a).take (b - a)) := by
  apply ba_ext
  rw [bl_ofL, Int.toNat_natCast, Int.toNat_natCast]
  unfold bl
  simp [ByteArray.data_extract, List.extract_eq_take_drop]
theorem take_snoc {l : List UInt8} {a i : Nat} {x : UInt8} {r : List UInt8} (h : l.drop i = x :: r) (ha : a ≤ i) : (l.drop a).take (i + 1 - a) = (l.drop a).take (i - a) ++ [x] := by
  have hi : i < l.length := by
    rcases Nat.lt_or_ge i l.length with h1 | h1
    · exact h1
    · rw [List.drop_eq_nil_of_le h1] at h; cases h
  have e : i + 1 - a = (i - a) + 1 := by omega
  have hlt : i - a < (l.drop a).length := by rw [List.length_drop]; omega
  rw [e, List.take_succ_eq_append_getElem hlt, List.getElem_drop]
  congr 2
  rw [List.drop_eq_getElem_cons hi] at h
  injection h with h _
  rw [← h]
  congr 1
  omega
theorem spec_l05Lines_loop (s : ByteArray) (hs : s.size ≤ 1048576) : ∀ (d i : Nat), i + d = s.size → ∀ (a : Nat) (out : List ByteArray), a ≤ i → out.length ≤ i →
    Ev (fun k => spec_l05Lines_L4 k (s, (a : Int), (i : Int), out, ())) (out ++ (linesP (((bl s).drop a).take (i - a)) ((bl s).drop i)).map ofL) := by
  intro d
  induction d with
  | zero =>
    intro i hi a out ha ho
    have e : i = s.size := by omega
    subst e
    rw [show (bl s).drop s.size = [] from List.drop_eq_nil_of_le (by rw [bl_len]; exact Nat.le_refl _)]
    refine Ev.step (fun q => by rw [spec_l05Lines_L4]) ?_
    refine ev_neg (by omega) ?_
    by_cases h : a < s.size
    · have hne : ((bl s).drop a).take (s.size - a) ≠ [] := by
        intro q
        have := congrArg List.length q
        rw [List.length_take, List.length_drop, bl_len] at this
        simp at this
        omega
      rw [linesP, if_neg hne]
      refine ev_pos (by omega) (ev_pos (by omega) (ev_pos (by omega) (ev_pos (by simp only [List.length_singleton]; omega) (ev_eq ?_))))
      rw [ofL_extract s a s.size (by omega) (Nat.le_refl _)]
      rfl
    · have hnil : ((bl s).drop a).take (s.size - a) = [] := by
        rw [List.drop_eq_nil_of_le (by rw [bl_len]; omega), List.take_nil]
      rw [hnil, linesP, if_pos rfl]
      refine ev_neg (by omega) (ev_eq ?_)
      simp
  | succ d ih =>
    intro i hi a out ha ho
    have hl : i < (bl s).length := by rw [bl_len]; omega
    have e1 : (bl s).drop i = (bl s)[i] :: (bl s).drop (i + 1) := List.drop_eq_getElem_cons hl
    have b1 := byt_drop e1
    refine Ev.step (fun q => by rw [spec_l05Lines_L4]) ?_
    rw [b1, w64_succ (by omega), e1]
    refine ev_pos (by omega) (ev_pos (by omega) (ev_pos (by omega) (ev_dom (fun h => ?_) (fun h => ?_))))
    · have hx : (bl s)[i] = 10 := by
        apply UInt8.toNat_inj.1
        show _ = 10
        omega
      rw [hx, linesP, if_pos rfl]
      refine ev_pos (by omega) (ev_pos (by omega) (ev_pos (by omega) (ev_pos (by omega) (ev_pos (by simp only [List.length_singleton]; omega) ?_))))
      rw [ofL_extract s a i ha (by omega)]
      have := ih (i + 1) (by omega) (i + 1) (out ++ [ofL (((bl s).drop a).take (i - a))]) (Nat.le_refl _) (by simp only [List.length_append, List.length_singleton]; omega)
      rw [Nat.sub_self, List.take_zero] at this
      simpa using this
    · have hx : ¬ (bl s)[i] = 10 := by
        intro q
        rw [q] at h
        exact h rfl
      rw [linesP, if_neg hx]
      have := ih (i + 1) (by omega) a out (by omega) (by omega)
      rw [take_snoc e1 ha] at this
      exact this
theorem spec_l05Lines_eq (s : ByteArray) (hs : s.size ≤ 1048576) : g_spec_l05Lines s = some (linesF s) := by
  refine evG_eq ?_
  have h := spec_l05Lines_loop s hs s.size 0 (by omega) 0 [] (Nat.le_refl _) (Nat.le_refl _)
  have e : linesF s = [] ++ (linesP (((bl s).drop 0).take (0 - 0)) ((bl s).drop 0)).map ofL := by
    rw [linesF_P]
    simp
  rw [e]
  exact h
/- spec_l20Line -/
-- needs: impl_readIn spec_ReadSense spec_Unhex spec_ReadDecimal spec_l05Lines
theorem bl_one (s : ByteArray) (i : Nat) (x : UInt8) (r : List UInt8) (h : (bl s).drop i = x :: r) : ByteArray.extract s (Int.toNat (i : Int)) (Int.toNat ((i + 1 : Nat) : Int)) = ofL [x] := by
  have hi : i < (bl s).length := by
    rcases Nat.lt_or_ge i (bl s).length with h1 | h1
    · exact h1
    · rw [List.drop_eq_nil_of_le h1] at h; cases h
  rw [bl_len] at hi
  rw [ofL_extract s i (i + 1) (by omega) (by omega), h]
  have : i + 1 - i = 1 := by omega
  rw [this]
  rfl
theorem ofL_app (a b : List UInt8) : ofL a ++ ofL b = ofL (a ++ b) := by
  apply ba_ext
  rw [bl_append, bl_ofL, bl_ofL, bl_ofL]
theorem turnL_cons (a b x : UInt8) (l : List UInt8) : turnL a b (x :: l) = (if x = a then b else x) :: turnL a b l := rfl
theorem spec_keys_loop (a b : ByteArray) (hb : b.size ≤ 1000) : ∀ (d i : Nat), i + d = b.size → ∀ acc : List UInt8, acc.length ≤ i →
    Ev (fun k => spec_l20Line_L13 (fun _ => g_spec_ReadDecimal) (fun _ => g_spec_ReadSense) (fun _ => g_spec_Unhex) (fun _ => g_spec_l01In) k (ofL acc, (i : Int), [a, b], 0, (⟨#[]⟩ : ByteArray), (⟨#[]⟩ : ByteArray), ())) ((0, ofL (acc ++ turnL 46 10 ((bl b).drop i)), e0), 1) := by
  have g1 : List.getD [a, b] (Int.toNat 1) (⟨#[]⟩ : ByteArray) = b := rfl
  have l2 : (1 : Int) < (([a, b].length : Nat) : Int) := by show (1 : Int) < 2; decide
  have z1 : (⟨#[10]⟩ : ByteArray).size = 1 := rfl
  intro d
  induction d with
  | zero =>
    intro i hi acc ha
    have e : i = b.size := by omega
    subst e
    rw [show (bl b).drop b.size = [] from List.drop_eq_nil_of_le (by rw [bl_len]; exact Nat.le_refl _)]
    refine Ev.step (fun q => by rw [spec_l20Line_L13]) ?_
    rw [g1]
    refine ev_pos (by omega) (ev_pos l2 (ev_neg (by omega) (ev_eq ?_)))
    simp [turnL]
  | succ d ih =>
    intro i hi acc ha
    have hl : i < (bl b).length := by rw [bl_len]; omega
    have e1 : (bl b).drop i = (bl b)[i] :: (bl b).drop (i + 1) := List.drop_eq_getElem_cons hl
    have b1 := byt_drop e1
    have ex := bl_one b i _ _ e1
    rw [e1, turnL_cons]
    refine Ev.step (fun q => by rw [spec_l20Line_L13]) ?_
    rw [g1, b1, show wrap64 ((i : Int) + 1) = ((i + 1 : Nat) : Int) from w64_succ (by omega), ex]
    refine ev_pos (by omega) (ev_pos l2 (ev_pos (by omega) (ev_pos (by omega) (ev_pos l2 (ev_pos (by omega) (ev_pos (by omega) (ev_dom (fun h => ?_) (fun h => ?_))))))))
    · have hx : (bl b)[i] = 46 := by
        apply UInt8.toNat_inj.1
        show _ = 46
        omega
      rw [if_pos hx]
      have e2 : ofL acc ++ (⟨#[10]⟩ : ByteArray) = ofL (acc ++ [10]) := ofL_app acc [10]
      rw [e2]
      refine ev_pos (by rw [size_ofL, z1]; omega) ?_
      have := ih (i + 1) (by omega) (acc ++ [10]) (by simp only [List.length_append, List.length_singleton]; omega)
      rw [List.append_assoc] at this
      exact this
    · have hx : ¬ (bl b)[i] = 46 := by
        intro q
        rw [q] at h
        exact h rfl
      rw [if_neg hx, ofL_app]
      refine ev_pos (by omega) (ev_pos l2 (ev_pos (by omega) (ev_pos (by omega) (ev_pos (by omega) (ev_pos (by omega) (ev_pos (by rw [size_ofL, size_ofL]; simp only [List.length_singleton]; omega) ?_))))))
      have := ih (i + 1) (by omega) (acc ++ [(bl b)[i]]) (by simp only [List.length_append, List.length_singleton]; omega)
      rw [List.append_assoc] at this
      exact this
theorem spec_line2 (a b : ByteArray) (hb : b.size ≤ 1000) :
    Ev (fun k => if a = tFeel then (g_spec_ReadSense b).bind fun v => if v.2 = true then some ((v.1, e0, e0), 1) else some ((0, e0, e0), 0)
      else if a = tKeys then spec_l20Line_L13 (fun _ => g_spec_ReadDecimal) (fun _ => g_spec_ReadSense) (fun _ => g_spec_Unhex) (fun _ => g_spec_l01In) k (e0, 0, [a, b], 0, e0, e0, ())
      else if a = tLink then (g_spec_Unhex b).bind fun v => if v.2 = true then some ((0, e0, v.1), 1) else some ((0, e0, e0), 0)
      else if a = tMany then (g_spec_ReadDecimal b).bind fun v => if v.2 = true then (g_spec_l01In (v.1, 1, 50)).bind fun q => if q = true then some ((0, e0, e0), v.1) else some ((0, e0, e0), 0) else some ((0, e0, e0), 0)
      else some ((0, e0, e0), 0)) (line2 a b) := by
  unfold line2
  refine ev_dom (fun h => ?_) (fun h => ?_)
  · rw [if_pos h]
    refine ev_bind (spec_ReadSense_eq b) (ev_dom (fun h => ?_) (fun h => ?_))
    · rw [if_pos h]; exact ev_some
    · rw [if_neg h]; exact ev_some
  rw [if_neg h]
  refine ev_dom (fun h => ?_) (fun h => ?_)
  · rw [if_pos h]
    exact spec_keys_loop a b hb b.size 0 (by omega) [] (Nat.le_refl _)
  rw [if_neg h]
  refine ev_dom (fun h => ?_) (fun h => ?_)
  · rw [if_pos h]
    refine ev_bind (spec_Unhex_eq b) (ev_dom (fun h => ?_) (fun h => ?_))
    · rw [if_pos h]; exact ev_some
    · rw [if_neg h]; exact ev_some
  rw [if_neg h]
  refine ev_dom (fun h => ?_) (fun h => ?_)
  · rw [if_pos h]
    refine ev_bind (spec_ReadDecimal_eq b) (ev_dom (fun h => ?_) (fun h => ?_))
    · refine ev_bind (spec_l01In_eq _ _ _) (ev_dom (fun h' => ?_) (fun h' => ?_))
      · rw [if_pos ⟨h, of_decide_eq_true h'⟩]; exact ev_some
      · rw [if_neg (fun q => h' (decide_eq_true q.2))]; exact ev_some
    · rw [if_neg (fun q => h q.1)]; exact ev_some
  · rw [if_neg h]; exact ev_some
theorem line2_tick (b : ByteArray) : line2 tTick b = ((0, e0, e0), 0) := by
  unfold line2
  rw [if_neg (by decide), if_neg (by decide), if_neg (by decide), if_neg (by decide)]
theorem spec_l20Line_eq (p : List ByteArray) (hp : p ≠ []) (hz : ∀ s ∈ p, s.size ≤ 1000) : g_spec_l20Line p = some (lineF p) := by
  refine evG_eq ?_
  unfold spec_l20Line_
  match p, hp, hz with
  | [a], _, _ =>
    have c0 : (0 : Int) < (([a].length : Nat) : Int) := by show (0 : Int) < 1; decide
    have c2 : ¬ (([a].length : Nat) : Int) = 2 := by show ¬ (1 : Int) = 2; decide
    refine ev_pos (by decide) (ev_pos c0 (ev_dom (fun h => ?_) (fun h => ?_)))
    · have e : lineF [a] = ((0, e0, e0), 1) := if_pos h
      rw [e]
      exact ev_pos rfl ev_some
    · have e : lineF [a] = ((0, e0, e0), 0) := if_neg h
      rw [e]
      exact ev_neg c2 ev_some
  | [a, b], _, hz =>
    have hb : b.size ≤ 1000 := hz b (by simp)
    have c0 : (0 : Int) < (([a, b].length : Nat) : Int) := by show (0 : Int) < 2; decide
    have c1 : (1 : Int) < (([a, b].length : Nat) : Int) := by show (1 : Int) < 2; decide
    have cn : ¬ (([a, b].length : Nat) : Int) = 1 := by show ¬ (2 : Int) = 1; decide
    have c2 : (([a, b].length : Nat) : Int) = 2 := rfl
    have eL : lineF [a, b] = line2 a b := rfl
    have h2 := spec_line2 a b hb
    rw [eL]
    simp only [if_pos c0, if_pos c1, if_neg cn, if_pos c2, Nat.le_refl, if_true, show (0 : Nat) ≤ 1 from by decide]
    refine ev_dom (fun h => ?_) (fun h => ?_)
    · exact h2
    · exact h2
  | a :: b :: c :: r, _, _ =>
    have c0 : (0 : Int) < (((a :: b :: c :: r).length : Nat) : Int) := by simp only [List.length_cons]; omega
    have c1 : ¬ (((a :: b :: c :: r).length : Nat) : Int) = 1 := by simp only [List.length_cons]; omega
    have c2 : ¬ (((a :: b :: c :: r).length : Nat) : Int) = 2 := by simp only [List.length_cons]; omega
    have e : lineF (a :: b :: c :: r) = ((0, e0, e0), 0) := rfl
    rw [e]
    refine ev_pos (by decide) (ev_pos c0 (ev_dom (fun h => ?_) (fun h => ?_)))
    · exact ev_neg c1 (ev_neg c2 ev_some)
    · exact ev_neg c2 ev_some
/- spec_PartsOf -/
-- needs: impl_PartsOf spec_l05Lines
theorem spec_parts_bad (s : ByteArray) (h : ¬ (bl s).all okB = true) : partsF s = ([], false) := by
  unfold partsF okLine
  rw [if_neg (fun q => h (by have := q.1; rw [Bool.and_eq_true] at this; exact this.2))]
theorem piece_nil {s : ByteArray} {a i : Nat} (h2 : i ≤ s.size) : ((bl s).drop a).take (i - a) = [] ↔ ¬ a < i := by
  have hl := bl_len s
  constructor
  · intro q h
    have := congrArg List.length q
    rw [List.length_take, List.length_drop] at this
    simp at this
    omega
  · intro h
    have : i - a = 0 := by omega
    rw [this, List.take_zero]
theorem spec_PartsOf_loop (s : ByteArray) (hs : s.size ≤ 600) : ∀ (d i : Nat), i + d = s.size → ((bl s).take i).all okB = true → ∀ (a : Nat) (out : List ByteArray), a ≤ i → out.length ≤ i →
    (out ++ (PartsP (((bl s).drop a).take (i - a)) ((bl s).drop i)).map ofL = (keepL (cutL 32 (bl s))).map ofL) →
    Ev (fun k => spec_PartsOf_L6 k (s, (a : Int), (i : Int), out, ())) (partsF s) := by
  intro d
  induction d with
  | zero =>
    intro i hi hok a out ha ho he
    have e : i = s.size := by omega
    subst e
    rw [List.take_of_length_le (by rw [bl_len]; exact Nat.le_refl _)] at hok
    rw [show (bl s).drop s.size = [] from List.drop_eq_nil_of_le (by rw [bl_len]; exact Nat.le_refl _), PartsP_nil] at he
    have fin : ∀ (b c : Int) (o : List ByteArray), (s.size : Int) < c → o = (keepL (cutL 32 (bl s))).map ofL → Ev (fun k => spec_PartsOf_L6 k (s, b, c, o, ())) (partsF s) := by
      intro b c o hc hoo
      refine Ev.step (fun q => by rw [spec_PartsOf_L6]) ?_
      refine ev_neg (by omega) ?_
      unfold partsF okLine
      rw [hok, decide_eq_true hs, ← hoo]
      have hlen : (keepL (cutL 32 (bl s))).length = o.length := by rw [hoo, List.length_map]
      rw [hlen]
      refine ev_dom (fun h => ?_) (fun h => ?_)
      · rw [if_neg (fun q => by have := q.2; omega)]; exact ev_some
      · rw [if_pos ⟨rfl, by omega⟩]; exact ev_some
    refine Ev.step (fun q => by rw [spec_PartsOf_L6]) ?_
    rw [w64_succ (by omega)]
    refine ev_pos (by omega) (ev_neg (by omega) (ev_neg (by omega) (ev_dom (fun h => ?_) (fun h => ?_))))
    · have hne : ¬ ((bl s).drop a).take (s.size - a) = [] := fun q => (piece_nil (Nat.le_refl _)).1 q (by omega)
      rw [if_neg hne] at he
      refine ev_pos (by omega) (ev_pos (by omega) (ev_pos (by omega) (ev_pos (by omega) (ev_pos (by simp only [List.length_singleton]; omega) ?_))))
      rw [ofL_extract s a s.size (by omega) (Nat.le_refl _)]
      exact fin _ _ _ (by omega) he
    · have hnil : ((bl s).drop a).take (s.size - a) = [] := (piece_nil (Nat.le_refl _)).2 (by omega)
      rw [if_pos hnil] at he
      simp only [List.map_nil, List.append_nil] at he
      exact fin _ _ _ (by omega) he
  | succ d ih =>
    intro i hi hok a out ha ho he
    have hl : i < (bl s).length := by rw [bl_len]; omega
    have e1 : (bl s).drop i = (bl s)[i] :: (bl s).drop (i + 1) := List.drop_eq_getElem_cons hl
    have b1 := byt_drop e1
    have e2 : (bl s).take (i + 1) = (bl s).take i ++ [(bl s)[i]] := by rw [List.take_succ_eq_append_getElem hl]
    have bad : ¬ okB (bl s)[i] = true → partsF s = ([], false) := fun hb => spec_parts_bad s fun q => hb (List.all_eq_true.1 q _ (List.getElem_mem hl))
    refine Ev.step (fun q => by rw [spec_PartsOf_L6]) ?_
    rw [b1, w64_succ (by omega)]
    refine ev_pos (by omega) (ev_pos (by omega) (ev_pos (by omega) (ev_pos (by omega) (ev_dom (fun h => ?_) (fun h => ?_)))))
    · rw [bad (fun q => by have := of_decide_eq_true q; omega)]; exact ev_some
    refine ev_pos (by omega) (ev_pos (by omega) (ev_dom (fun h' => ?_) (fun h' => ?_)))
    · rw [bad (fun q => by have := of_decide_eq_true q; omega)]; exact ev_some
    have hok2 : ((bl s).take (i + 1)).all okB = true := by
      rw [e2, List.all_append, hok]
      have : okB (bl s)[i] = true := decide_eq_true (by omega)
      simp [this]
    rw [e1] at he
    refine ev_pos (by omega) (ev_pos (by omega) (ev_pos (by omega) (ev_dom (fun h2 => ?_) (fun h2 => ?_))))
    · have hx : (bl s)[i] = 32 := by
        apply UInt8.toNat_inj.1
        show _ = 32
        omega
      rw [hx, PartsP_hit] at he
      refine ev_dom (fun h3 => ?_) (fun h3 => ?_)
      · have hne : ¬ ((bl s).drop a).take (i - a) = [] := fun q => (piece_nil (by omega)).1 q (by omega)
        rw [if_neg hne] at he
        refine ev_pos (by omega) (ev_pos (by omega) (ev_pos (by omega) (ev_pos (by omega) (ev_pos (by simp only [List.length_singleton]; omega) ?_))))
        rw [ofL_extract s a i ha (by omega)]
        refine ih (i + 1) (by omega) hok2 (i + 1) _ (Nat.le_refl _) (by simp only [List.length_append, List.length_singleton]; omega) ?_
        rw [Nat.sub_self, List.take_zero, ← he]
        simp
      · have hnil : ((bl s).drop a).take (i - a) = [] := (piece_nil (by omega)).2 (by omega)
        rw [if_pos hnil] at he
        refine ih (i + 1) (by omega) hok2 (i + 1) _ (Nat.le_refl _) (by omega) ?_
        rw [Nat.sub_self, List.take_zero, ← he]
        simp
    · have hx : (bl s)[i] ≠ 32 := by
        intro q
        rw [q] at h2
        exact h2 rfl
      rw [PartsP_step hx, ← take_snoc e1 ha] at he
      exact ih (i + 1) (by omega) hok2 a out (by omega) (by omega) he
theorem spec_PartsOf_eq (s : ByteArray) : g_spec_PartsOf s = some (partsF s) := by
  refine evG_eq ?_
  unfold spec_PartsOf_
  refine ev_dom (fun h => ?_) (fun h => ?_)
  · unfold partsF okLine
    rw [if_neg (fun q => by have := q.1; rw [Bool.and_eq_true] at this; have := of_decide_eq_true this.1; omega)]
    exact ev_some
  · refine spec_PartsOf_loop s (by omega) s.size 0 (by omega) rfl 0 [] (Nat.le_refl _) (Nat.le_refl _) ?_
    rw [Nat.sub_zero, List.take_zero, List.drop_zero]
    unfold PartsP
    rw [cutP_empty]
    rfl
/- spec_ReadScript -/
-- needs: impl_ReadScript spec_l20Line spec_PartsOf spec_l05Lines spec_InOk
noncomputable abbrev sL7 := spec_ReadScript_L7 (fun _ => g_spec_InOk) (fun _ => g_spec_PartsOf) (fun _ => g_spec_l05Lines) (fun _ => g_spec_l20Line)
noncomputable abbrev sL17 := spec_ReadScript_L17 (fun _ => g_spec_InOk) (fun _ => g_spec_PartsOf) (fun _ => g_spec_l05Lines) (fun _ => g_spec_l20Line)
theorem spec_rep (L : List ByteArray) (n i : Nat) (hi : i ≤ 1000000) (x : In) (out : List In) (ho : out.length + n ≤ 1000) (r : List In × Int)
    (h : Ev (fun k => sL7 k ((i : Int) + 1, [], L, out ++ List.replicate n x, ())) r) :
    ∀ (d j : Nat), j + d = n → Ev (fun k => sL17 k ((i : Int), (n : Int), (j : Int), [], L, out ++ List.replicate j x, x.1, x.2.1, x.2.2, ())) r := by
  intro d
  induction d with
  | zero =>
    intro j hj
    have e : j = n := by omega
    subst e
    refine Ev.step (fun q => by rw [sL17, spec_ReadScript_L17]) ?_
    rw [w64_succ (i := i) (by omega)]
    exact ev_neg (by omega) h
  | succ d ih =>
    intro j hj
    refine Ev.step (fun q => by rw [sL17, spec_ReadScript_L17]) ?_
    rw [w64_succ (i := j) (by omega)]
    refine ev_pos (by omega) (ev_pos (by simp only [List.length_append, List.length_replicate, List.length_singleton]; omega) ?_)
    have := ih (j + 1) (by omega)
    rw [← repl_snoc] at this
    exact this
theorem spec_rs_loop (L : List ByteArray) (hL : L.length ≤ 120) : ∀ (d i : Nat), i + d = L.length → ∀ acc : List In, acc.length ≤ 150 → Ev (fun k => sL7 k ((i : Int), [], L, acc, ())) (rsF (L.drop i) i acc) := by
  intro d
  induction d with
  | zero =>
    intro i hi acc ha
    rw [List.drop_eq_nil_of_le (by omega), rsF]
    refine Ev.step (fun q => by rw [sL7, spec_ReadScript_L7]) ?_
    exact ev_neg (by omega) ev_some
  | succ d ih =>
    intro i hi acc ha
    have hl : i < L.length := by omega
    have e1 : L.drop i = L[i] :: L.drop (i + 1) := List.drop_eq_getElem_cons hl
    have hm : L[i] ∈ L := List.getElem_mem hl
    have hp := parts_mem L[i]
    rw [e1, rsF]
    refine Ev.step (fun q => by rw [sL7, spec_ReadScript_L7]) ?_
    rw [getD_lt hl, w64_succ (by omega)]
    refine ev_pos (by omega) (ev_pos (by omega) (ev_pos (by omega) (ev_bind (spec_PartsOf_eq _) ?_)))
    by_cases h2 : (partsF L[i]).2 = true
    case neg =>
      rw [if_neg h2]
      exact ev_neg h2 (ev_neg h2 ev_some)
    rw [if_pos h2]
    generalize (partsF L[i]).1 = ps at hp
    refine ev_pos h2 ?_
    cases ps with
    | nil =>
      rw [if_pos (show skipL [] = true from rfl)]
      refine ev_pos rfl ?_
      exact ih (i + 1) (by omega) acc ha
    | cons p r =>
      have hp0 := hp p List.mem_cons_self
      have hlen : ¬ (((p :: r).length : Nat) : Int) = 0 := by simp only [List.length_cons]; omega
      have hlen2 : (0 : Int) < (((p :: r).length : Nat) : Int) := by simp only [List.length_cons]; omega
      have hg : (p :: r).getD (Int.toNat 0) (⟨#[]⟩ : ByteArray) = p := rfl
      rw [hg]
      refine ev_neg hlen (ev_pos (by decide) (ev_pos hlen2 (ev_pos (by decide) (ev_pos (by omega) (ev_dom (fun h => ?_) (fun h => ?_))))))
      · rw [if_pos (show skipL (p :: r) = true from decide_eq_true h)]
        exact ih (i + 1) (by omega) acc ha
      · rw [if_neg (show ¬ skipL (p :: r) = true from fun q => h (of_decide_eq_true q))]
        have hr := lineF_range (p :: r)
        refine ev_pos h2 (ev_bind (spec_l20Line_eq (p :: r) (by simp) (fun s hs => (hp s hs).2)) ?_)
        have hok : lineOk (p :: r) = (decide ((lineF (p :: r)).2 ≠ 0) && inOk (lineF (p :: r)).1) := rfl
        refine ev_dom (fun h3 => ?_) (fun h3 => ?_)
        · rw [if_neg (fun q => by have := q.1; rw [hok, h3] at this; cases this)]
          exact ev_some
        · rw [decide_eq_true h3, Bool.true_and] at hok
          refine ev_bind (spec_InOk_eq _) (ev_dom (fun h5 => ?_) (fun h5 => ?_))
          · rw [w64 (by omega) (by omega)]
            refine ev_dom (fun h4 => ?_) (fun h4 => ?_)
            · rw [if_neg (fun q => by have := q.2; omega)]
              exact ev_some
            · rw [if_pos ⟨hok.trans h5, by omega⟩]
              obtain ⟨n, hn⟩ : ∃ n : Nat, (lineF (p :: r)).2 = (n : Int) := ⟨_, (Int.toNat_of_nonneg hr.1).symm⟩
              rw [hn] at h4 ⊢
              rw [Int.toNat_natCast]
              have h6 := ih (i + 1) (by omega) (acc ++ List.replicate n (lineF (p :: r)).1) (by rw [List.length_append, List.length_replicate]; omega)
              have := spec_rep L n i (by omega) (lineF (p :: r)).1 acc (by omega) _ h6 n 0 (by omega)
              rw [List.replicate_zero, List.append_nil] at this
              exact this
          · rw [if_neg (fun q => h5 (hok.symm.trans q.1))]
            exact ev_some
theorem spec_ReadScript_eq (t : ByteArray) (ht : t.size ≤ 1048576) : g_spec_ReadScript t = some (readS t) := by
  refine evG_eq ?_
  unfold spec_ReadScript_ readS
  refine ev_dom (fun h => ?_) (fun h => ?_)
  · rw [if_neg (fun q => by have := q.1; omega)]; exact ev_some
  · refine ev_bind (spec_l05Lines_eq t ht) (ev_dom (fun h' => ?_) (fun h' => ?_))
    · rw [if_neg (fun q => by have := q.2; omega)]; exact ev_some
    · rw [if_pos ⟨by omega, by omega⟩]
      refine ev_bind (spec_l05Lines_eq t ht) ?_
      have := spec_rs_loop (linesF t) (by omega) (linesF t).length 0 (by omega) [] (by decide)
      exact this
/- spec_Console -/
-- needs: impl_Console spec_ReadScript spec_RunDevice spec_ShowDevice spec_Decimal spec_DeviceOk
theorem spec_Decimal_minus : g_spec_Decimal (-1) = some (decI (-1)) := by
  have e : decI (-1) = (⟨#[45, 49]⟩ : ByteArray) := by
    unfold decI Go.Lib.itoa
    rw [if_pos (by decide)]
    rw [Go.Lib.decDigits, dif_pos (by decide)]
    rfl
  rw [e]
  refine evG_eq ?_
  unfold spec_Decimal_
  refine ev_neg (by decide) ?_
  refine Ev.step (fun q => by rw [spec_Decimal_L5]) ?_
  refine ev_neg (by decide) (ev_neg (by decide) (ev_pos (by decide) (ev_bind (a := 49) ?_ (ev_pos (by decide) (ev_neg (by decide) ?_)))))
  · exact spec_l01Figure_eq 1 (by omega)
  · refine Ev.step (fun q => by rw [spec_Decimal_L5]) ?_
    refine ev_pos (by decide) (ev_pos rfl (ev_pos (by decide) (ev_eq ?_)))
    decide
theorem spec_Decimal_small (f : Int) (h : -1 ≤ f ∧ f ≤ 120) : g_spec_Decimal f = some (decI f) := by
  by_cases h0 : f = -1
  · subst h0; exact spec_Decimal_minus
  · obtain ⟨n, rfl⟩ : ∃ n : Nat, f = (n : Int) := ⟨f.toNat, by omega⟩
    rw [decI_nat]
    exact spec_Decimal_big n (by omega)
theorem spec_out_loop (d : Device) (ts : List Tick) (hts : ts = d.2.2.2.2.2.2.2.2.2.2.2.2.2.2.2.1) (X : ByteArray) (hX : g_spec_ShowDevice d = some X) (hXs : X.size ≤ 40000000000000) (hl : ts.length ≤ 150) (hr : ∀ t ∈ ts, 0 ≤ t.1 ∧ t.1 ≤ 30) : ∀ (n j : Nat), j + n = ts.length → ∀ w : ByteArray, w = jl (wordsF (ts.take j)) →
    Ev (fun k => spec_Console_L7 (fun _ => g_spec_Decimal) (fun _ => g_spec_ReadScript) (fun _ => g_spec_RunDevice) (fun _ => g_spec_ShowDevice) k (w, (j : Int), d.1, d.2.1, d.2.2.1, d.2.2.2.1, d.2.2.2.2.1, d.2.2.2.2.2.1, d.2.2.2.2.2.2.1, d.2.2.2.2.2.2.2.1, d.2.2.2.2.2.2.2.2.2.1, d.2.2.2.2.2.2.2.2.2.2.1, d.2.2.2.2.2.2.2.2.2.2.2.1, d.2.2.2.2.2.2.2.2.2.2.2.2.1, d.2.2.2.2.2.2.2.2.2.2.2.2.2.1, d.2.2.2.2.2.2.2.2.2.2.2.2.2.2.1, d.2.2.2.2.2.2.2.2.2.2.2.2.2.2.2.2, d.2.2.2.2.2.2.2.2.1, ts, ())) (outF ts ++ X) := by
  have y1 : (⟨#[10]⟩ : ByteArray).size = 1 := rfl
  have y3 : (⟨#[32]⟩ : ByteArray).size = 1 := rfl
  have wsz : ∀ j, (jl (wordsF (ts.take j))).size ≤ 41 * 150 := by
    intro j
    have hz := jl_size (wordsF (ts.take j)) (by
      intro x hx
      obtain ⟨t, ht, rfl⟩ := List.mem_map.1 hx
      have h1 := decB_size t.1.toNat
      have h2 := hr t (List.mem_of_mem_take ht)
      omega)
    have : (wordsF (ts.take j)).length ≤ 150 := by unfold wordsF; rw [List.length_map, List.length_take]; omega
    omega
  intro n
  induction n with
  | zero =>
    intro j hj w hw
    have ej : ts.take j = ts := List.take_of_length_le (by omega)
    have hz := wsz j
    rw [← hw] at hz
    rw [ej] at hw
    have hX' : g_spec_ShowDevice (d.1, d.2.1, d.2.2.1, d.2.2.2.1, d.2.2.2.2.1, d.2.2.2.2.2.1, d.2.2.2.2.2.2.1, d.2.2.2.2.2.2.2.1, d.2.2.2.2.2.2.2.2.1, d.2.2.2.2.2.2.2.2.2.1, d.2.2.2.2.2.2.2.2.2.2.1, d.2.2.2.2.2.2.2.2.2.2.2.1, d.2.2.2.2.2.2.2.2.2.2.2.2.1, d.2.2.2.2.2.2.2.2.2.2.2.2.2.1, d.2.2.2.2.2.2.2.2.2.2.2.2.2.2.1, ts, d.2.2.2.2.2.2.2.2.2.2.2.2.2.2.2.2) = some X := by
      rw [hts]; exact hX
    refine Ev.step (fun q => by rw [spec_Console_L7]) ?_
    refine ev_neg (by omega) ?_
    unfold outF
    by_cases h0 : ts = []
    · rw [if_pos h0]
      have e0' : w = (⟨#[]⟩ : ByteArray) := by rw [hw, h0]; rfl
      rw [e0']
      refine ev_neg (by rw [h0]; decide) (ev_bind hX' (ev_pos ?_ ev_some))
      have : (⟨#[]⟩ : ByteArray).size = 0 := rfl
      omega
    · rw [if_neg h0]
      have hp := List.length_pos_iff.2 h0
      rw [← hw]
      refine ev_pos (by omega) (ev_pos (by omega) (ev_bind hX' (ev_pos (by rw [size_append]; omega) ev_some)))
  | succ n ih =>
    intro j hj w hw
    have hz := wsz j
    rw [← hw] at hz
    have hlt : j < ts.length := by omega
    have hm : ts[j] ∈ ts := List.getElem_mem hlt
    have h2 := hr ts[j] hm
    have hdz := decB_size ts[j].1.toNat
    have eD : g_spec_Decimal ts[j].1 = some (decB ts[j].1.toNat) := by
      have : ts[j].1 = ((ts[j].1.toNat : Nat) : Int) := by omega
      conv => lhs; rw [this]
      exact spec_Decimal_big _ (by omega)
    have hnext : wordsF (ts.take (j + 1)) = wordsF (ts.take j) ++ [decB ts[j].1.toNat] := by
      unfold wordsF
      rw [List.take_succ_eq_append_getElem hlt, List.map_append]
      rfl
    have hwl : (wordsF (ts.take j)).length = j := by unfold wordsF; rw [List.length_map, List.length_take]; omega
    refine Ev.step (fun q => by rw [spec_Console_L7]) ?_
    rw [getD_lt hlt, w64_succ (by omega)]
    refine ev_pos (by omega) (ev_dom (fun h => ?_) (fun h => ?_))
    · refine ev_pos (by omega) (ev_pos (by omega) (ev_pos (by omega) (ev_bind eD (ev_pos (by rw [size_append]; omega) ?_))))
      refine ih (j + 1) (by omega) _ ?_
      rw [hnext, jl_snoc _ _ (by intro q; rw [q] at hwl; simp at hwl; omega), ← hw]
    · have hj0 : j = 0 := by omega
      refine ev_pos (by omega) (ev_pos (by omega) (ev_bind eD (ev_pos (by omega) ?_)))
      refine ih (j + 1) (by omega) _ ?_
      have hwn : wordsF (ts.take j) = [] := List.length_eq_zero_iff.1 (by omega)
      rw [hnext, hw, hwn, List.nil_append, jl_one, jl_nil]
      apply ba_ext
      rw [bl_append]
      rfl
theorem spec_Console_eq (t : ByteArray) (ht : t.size ≤ 1048576) : g_spec_Console t = some (consF t) := by
  refine evG_eq ?_
  unfold spec_Console_ consF
  obtain ⟨h1, h2, h3, h4⟩ := readS_ok t
  refine ev_bind (spec_ReadScript_eq t ht) (ev_dom (fun h => ?_) (fun h => ?_))
  · rw [if_pos h]
    generalize (readS t).1 = l at h1 h2
    have hR := spec_RunDevice_eq l (by omega)
    rw [runD_ok h2 h1] at hR
    have hL := life_run h2 h1
    obtain ⟨p, past, alarm, m, ts, ref, he, hd, _⟩ := hL.sound h1
    obtain ⟨_, g2, g3, g4, _, _⟩ := deviceOk_den hd
    have g5 := menu_size g3
    have g6 := (guardOk_den g2).1
    obtain ⟨s, g, ll, a, e0', r1, r2, r3, r4, r5, r6, r7, r8⟩ := showD_eq hd
    have hlen : ts.length = l.length := by have := hL.len; rw [he] at this; exact this
    have hrng : ∀ x ∈ ts, 0 ≤ x.1 ∧ x.1 ≤ 30 := by
      intro x hx
      have h5 : (dev p past alarm m ts ref).ticks = ts := rfl
      have h6 := hL.rng
      rw [he, h5] at h6
      exact h6 x.1 (List.mem_map.2 ⟨x, hx, rfl⟩)
    rw [he] at hR ⊢
    refine ev_bind hR ?_
    have eT : (dev p past alarm m ts ref).ticks = ts := rfl
    rw [eT, e0']
    have e2 := spec_DeviceOk_eq p past alarm m ts ref (by omega) (by omega)
    rw [hd] at e2
    have hX := spec_ShowDevice_ok e2 r1 r2 r3 r4 r5 r6 r7 r8
    exact spec_out_loop (dev p past alarm m ts ref) ts rfl _ hX (showX_size s g ll a r5 r6 r7 r8) (by omega) hrng ts.length 0 (by omega) (⟨#[]⟩ : ByteArray) rfl
  · rw [if_neg h]
    have hz := decI_small (readS t).2 ⟨h3, h4⟩
    have y1 : (⟨#[10]⟩ : ByteArray).size = 1 := rfl
    have y2 : (⟨#[102, 97, 117, 108, 116, 32]⟩ : ByteArray).size = 6 := rfl
    refine ev_bind (spec_Decimal_small _ ⟨by omega, by omega⟩) (ev_pos (by omega) (ev_pos (by rw [size_append]; omega) ev_some))
/- laws_begins -/
theorem bl_ext (s : ByteArray) (a b : Nat) : bl (s.extract a b) = ((bl s).drop a).take (b - a) := by
  unfold bl
  rw [ByteArray.data_extract, Array.toList_extract, List.extract_eq_take_drop]
theorem ext_all {a r : ByteArray} : ByteArray.extract (a ++ r) (Int.toNat 0) (Int.toNat ((a.size : Nat) : Int)) = a := by
  apply ba_ext
  have e : Int.toNat 0 = 0 := rfl
  rw [Int.toNat_natCast, e, bl_ext, bl_append, List.drop_zero, Nat.sub_zero, ← bl_len a, List.take_left]
theorem ext_end {a r : ByteArray} (n : Int) (hn : n = (a.size : Int)) : ByteArray.extract (a ++ r) (Int.toNat n) (Int.toNat (((a ++ r).size : Nat) : Int)) = r := by
  subst hn
  apply ba_ext
  rw [Int.toNat_natCast, Int.toNat_natCast, bl_ext, bl_append, size_append, ← bl_len a, List.drop_left, List.take_of_length_le]
  rw [bl_len r]
  omega
theorem laws_begins_app (a r : ByteArray) : g_laws_begins (a, a ++ r) = some true := by
  unfold g_laws_begins laws_begins_
  simp only []
  have h : ((a.size : Nat) : Int) ≤ (((a ++ r).size : Nat) : Int) := by rw [size_append]; omega
  rw [if_pos h, if_pos (by omega), if_pos h, ext_all]
  rw [decide_eq_true rfl]
/- spec_l01Long -/
theorem l01Long_some (n : Nat) (c : Int) (hn : n ≤ 5000) : ∃ v, g_spec_l01Long ((n : Int), c) = some v ∧ v.size = n := by
  have key : ∀ (d j : Nat), j + d = n → ∀ l : List Int, l.length = n → ∃ v, Ev (fun k => spec_l01Long_L3 k ((n : Int), c, (j : Int), l, ())) v ∧ v.size = n := by
    intro d
    induction d with
    | zero =>
      intro j hj l hl
      refine ⟨bstr l, Ev.step (fun q => by rw [spec_l01Long_L3]) ?_, by rw [size_bstr]; exact hl⟩
      exact ev_neg (by omega) ev_some
    | succ d ih =>
      intro j hj l hl
      obtain ⟨v, h1, h2⟩ := ih (j + 1) (by omega) (l.set (Int.toNat (j : Int)) c) (by rw [List.length_set]; exact hl)
      refine ⟨v, Ev.step (fun q => by rw [spec_l01Long_L3]) ?_, h2⟩
      rw [w64_succ (by omega)]
      exact ev_pos (by omega) (ev_pos (by omega) (ev_pos (by omega) h1))
  obtain ⟨v, h1, h2⟩ := key n 0 (by omega) (List.replicate (Int.toNat (n : Int)) 0) (by rw [List.length_replicate]; omega)
  refine ⟨v, evG_eq ?_, h2⟩
  unfold spec_l01Long_
  exact ev_pos rfl (ev_pos (by omega) (ev_pos (by omega) h1))
/- spec_l01Pick -/
theorem l01Pick_some (S : List Int) (i s : Int) (L : List ByteArray) (hS : S.length ≤ 1048576) (hi : 0 ≤ i) (hL : 0 < L.length) : ∃ v i' s', g_spec_l01Pick ((S, i, s), L) = some (v, ((), i', s')) ∧ v ∈ L ∧ 0 ≤ i' := by
  unfold g_spec_l01Pick spec_l01Pick_
  obtain ⟨n, i1, s1, e, h0, h1, h2⟩ := l01Below_some S i s (L.length : Int) hS hi (by omega)
  simp only [e, Option.bind_some]
  rw [if_pos h0, if_pos h1]
  have hn : n.toNat < L.length := by omega
  refine ⟨_, _, _, rfl, ?_, h2⟩
  have : L.getD n.toNat ⟨#[]⟩ = L[n.toNat] := by simp [List.getD_eq_getElem?_getD, hn]
  rw [this]
  exact List.getElem_mem hn
/- spec_l01Once -/
theorem l01Once_some (l : List Int) (i s n : Int) (hl : l.length ≤ 1048576) (hi : 0 ≤ i) (hn : 0 < n) : ∃ b i' s', g_spec_l01Once ((l, i, s), n) = some (b, ((), i', s')) ∧ 0 ≤ i' := by
  unfold g_spec_l01Once spec_l01Once_
  simp only []
  obtain ⟨v, i1, s1, e, _, _, h⟩ := l01Below_some l i s n hl hi hn
  rw [e]; exact ⟨_, _, _, rfl, h⟩
/- spec_Hex -/
theorem l01Figure_any (m : Nat) (h : m < 16) : ∃ v, g_spec_l01Figure (m : Int) = some v := by
  unfold g_spec_l01Figure spec_l01Figure_
  simp only []
  split
  · exact ⟨_, rfl⟩
  · exact ⟨_, rfl⟩
theorem spec_Hex_some (s : ByteArray) (hs : s.size ≤ 1000) : ∃ v, g_spec_Hex s = some (v, true) ∧ v.size = 2 * s.size := by
  have key : ∀ (d j : Nat), j + d = s.size → ∀ l : List Int, l.length = 2 * j → ∃ v, Ev (fun k => spec_Hex_L5 (fun _ => g_spec_l01Figure) k (s, (j : Int), l, ())) (v, true) ∧ v.size = 2 * s.size := by
    intro d
    induction d with
    | zero =>
      intro j hj l hl
      refine ⟨bstr l, Ev.step (fun q => by rw [spec_Hex_L5]) ?_, by rw [size_bstr]; omega⟩
      exact ev_neg (by omega) ev_some
    | succ d ih =>
      intro j hj l hl
      have hlt : j < s.size := by omega
      have hb : byt s (j : Int) = (byN s j : Int) := byt_byN s j
      have hr := byN_le s j
      obtain ⟨a, ha⟩ := l01Figure_any (byN s j / 16) (by omega)
      obtain ⟨b, hb2⟩ := l01Figure_any (byN s j % 16) (by omega)
      obtain ⟨v, h1, h2⟩ := ih (j + 1) (by omega) (l ++ [a, b]) (by simp only [List.length_append, List.length_cons, List.length_nil]; omega)
      refine ⟨v, Ev.step (fun q => by rw [spec_Hex_L5]) ?_, h2⟩
      have e0 : wrap64 ((byN s j : Nat) : Int) = ((byN s j : Nat) : Int) := w64 (by omega) (by omega)
      have e1 : wrap64 (Int.tdiv ((byN s j : Nat) : Int) 16) = ((byN s j / 16 : Nat) : Int) := by
        rw [Int.tdiv_eq_ediv_of_nonneg (by omega), w64 (by omega) (by omega)]
        omega
      have e2 : Int.tmod ((byN s j : Nat) : Int) 16 = ((byN s j % 16 : Nat) : Int) := by
        rw [Int.tmod_eq_emod_of_nonneg (by omega)]
        omega
      rw [w64_succ (by omega), hb, e0, e1, e2]
      exact ev_pos (by omega) (ev_pos (by omega) (ev_pos (by omega) (ev_neg (by decide) (ev_pos (by omega) (ev_pos (by omega) (ev_neg (by decide) (ev_bind ha (ev_bind hb2 (ev_pos (by simp only [List.length_cons, List.length_nil]; omega) h1)))))))))
  obtain ⟨v, h1, h2⟩ := key s.size 0 (by omega) [] rfl
  refine ⟨v, evG_eq ?_, h2⟩
  unfold spec_Hex_
  exact ev_neg (by omega) h1
/- spec_l01PickInt -/
theorem l01PickInt_some (S : List Int) (i s : Int) (L : List Int) (hS : S.length ≤ 1048576) (hi : 0 ≤ i) (hL : 0 < L.length) : ∃ v i' s', g_spec_l01PickInt ((S, i, s), L) = some (v, ((), i', s')) ∧ v ∈ L ∧ 0 ≤ i' := by
  unfold g_spec_l01PickInt spec_l01PickInt_
  obtain ⟨n, i1, s1, e, h0, h1, h2⟩ := l01Below_some S i s (L.length : Int) hS hi (by omega)
  simp only [e, Option.bind_some]
  rw [if_pos h0, if_pos h1]
  have hn : n.toNat < L.length := by omega
  refine ⟨_, _, _, rfl, ?_, h2⟩
  have : L.getD n.toNat 0 = L[n.toNat] := by simp [List.getD_eq_getElem?_getD, hn]
  rw [this]
  exact List.getElem_mem hn
/- spec_l14Order -/
theorem l14Order_some (S : List Int) (i s : Int) (hS : S.length ≤ 1048576) (hi : 0 ≤ i) : ∃ (o : Order) (i' s' : Int), g_spec_l14Order (S, i, s) = some (o, ((), i', s')) ∧ orderOk o = true ∧ 0 ≤ i' := by
  obtain ⟨v, i1, s1, e1, hv, hi1⟩ := l01PickInt_some S i s [1, 1, 1, 2, 2, 3, 4, 5, 6] hS hi (by decide)
  have hv6 : 1 ≤ v ∧ v ≤ 6 := by simp at hv; omega
  unfold g_spec_l14Order spec_l14Order_
  simp only [e1, Option.bind_some]
  by_cases h1 : v = 1
  · rw [if_pos h1]
    obtain ⟨a, i2, s2, e2, a0, a1, hi2⟩ := l01Below_some S i1 s1 9 hS hi1 (by omega)
    simp only [e2, Option.bind_some]
    have w1 : wrap64 (1 + a) = 1 + a := w64 (by omega) (by omega)
    have w2 : wrap64 (3 * (1 + a)) = 3 * (1 + a) := w64 (by omega) (by omega)
    rw [w1, w2]
    obtain ⟨b, i3, s3, e3, b0, b1, hi3⟩ := l01Below_some S i2 s2 (3 * (1 + a)) hS hi2 (by omega)
    obtain ⟨c, i4, s4, e4, c0, c1, hi4⟩ := l01Below_some S i3 s3 60 hS hi3 (by omega)
    simp only [e3, e4, Option.bind_some]
    rw [w64 (n := 1 + b) (by omega) (by omega), w64 (n := 1 + c) (by omega) (by omega)]
    exact ⟨_, _, _, rfl, decide_eq_true (by unfold OrderOkP; omega), hi4⟩
  · rw [if_neg h1]
    by_cases h2 : v = 2
    · rw [if_pos h2]
      obtain ⟨a, i2, s2, e2, a0, a1, hi2⟩ := l01Below_some S i1 s1 40 hS hi1 (by omega)
      simp only [e2, Option.bind_some]
      rw [w64 (n := 1 + a) (by omega) (by omega)]
      exact ⟨_, _, _, rfl, decide_eq_true (by unfold OrderOkP; omega), hi2⟩
    · rw [if_neg h2]
      exact ⟨_, _, _, rfl, decide_eq_true (by unfold OrderOkP; omega), hi1⟩
/- spec_l20Show -/
-- needs: spec_l01Below spec_l01Pick spec_l14Order spec_OrderText spec_Hex spec_Decimal spec_SenseNames impl_SenseNames impl_ShowDevice
theorem l20Show_some (S : List Int) (i s : Int) (hS : S.length ≤ 1048576) (hi : 0 ≤ i) : ∃ v i' s', g_spec_l20Show (S, i, s) = some (v, ((), i', s')) ∧ v.size ≤ 200 ∧ 0 ≤ i' := by
  obtain ⟨a, i1, s1, e1, a0, a8, hi1⟩ := l01Below_some S i s 8 hS hi (by decide)
  unfold g_spec_l20Show spec_l20Show_
  simp only [e1, Option.bind_some]
  have y1 : (⟨#[102, 101, 101, 108, 32]⟩ : ByteArray).size = 5 := rfl
  have y2 : (⟨#[107, 101, 121, 115, 32]⟩ : ByteArray).size = 5 := rfl
  have y3 : (⟨#[108, 105, 110, 107, 32]⟩ : ByteArray).size = 5 := rfl
  have y4 : (⟨#[109, 97, 110, 121, 32]⟩ : ByteArray).size = 5 := rfl
  have y5 : (⟨#[116, 105, 99, 107]⟩ : ByteArray).size = 4 := rfl
  have many : ∃ v i' s', ((g_spec_l01Below ((S, i1, s1), 9)).bind fun v7 => (g_spec_Decimal (wrap64 (1 + v7.1))).bind fun v8 =>
        if ((ByteArray.size (⟨#[109, 97, 110, 121, 32]⟩ : ByteArray) + ByteArray.size v8 : Nat) : Int) ≤ 9223372036854775807 then some (((⟨#[109, 97, 110, 121, 32]⟩ : ByteArray) ++ v8), ((), v7.2.2)) else none) = some (v, ((), i', s')) ∧ v.size ≤ 200 ∧ 0 ≤ i' := by
    obtain ⟨b, i2, s2, e2, b0, b9, hi2⟩ := l01Below_some S i1 s1 9 hS hi1 (by decide)
    have hw : wrap64 (1 + b) = ((1 + b.toNat : Nat) : Int) := by rw [w64 (by omega) (by omega)]; omega
    have e3 := spec_Decimal_big (1 + b.toNat) (by omega)
    have hz := decB_size (1 + b.toNat)
    simp only [e2, Option.bind_some, hw, e3]
    rw [if_pos (by omega)]
    exact ⟨_, _, _, rfl, by rw [size_append]; omega, hi2⟩
  have keys : ∀ L : List ByteArray, 0 < L.length → (∀ x ∈ L, x.size ≤ 50) → ∃ v i' s', ((g_spec_l01Pick ((S, i1, s1), L)).bind fun v3 =>
     if ((ByteArray.size (⟨#[107, 101, 121, 115, 32]⟩ : ByteArray) + ByteArray.size v3.1 : Nat) : Int) ≤ 9223372036854775807 then some (((⟨#[107, 101, 121, 115, 32]⟩ : ByteArray) ++ v3.1), ((), v3.2.2)) else none) = some (v, ((), i', s')) ∧ v.size ≤ 200 ∧ 0 ≤ i' := by
    intro L hL hx
    obtain ⟨b, i2, s2, e2, hb, hi2⟩ := l01Pick_some S i1 s1 L hS hi1 hL
    have hz := hx b hb
    simp only [e2, Option.bind_some]
    rw [if_pos (by omega)]
    exact ⟨_, _, _, rfl, by rw [size_append]; omega, hi2⟩
  have link : ∃ v i' s', ((g_spec_l14Order (S, i1, s1)).bind fun v4 => (g_spec_OrderText v4.1).bind fun v5 => (g_spec_Hex v5.1).bind fun v6 =>
      if ((ByteArray.size (⟨#[108, 105, 110, 107, 32]⟩ : ByteArray) + ByteArray.size v6.1 : Nat) : Int) ≤ 9223372036854775807 then some (((⟨#[108, 105, 110, 107, 32]⟩ : ByteArray) ++ v6.1), ((), v4.2.2)) else none) = some (v, ((), i', s')) ∧ v.size ≤ 200 ∧ 0 ≤ i' := by
    obtain ⟨o, i2, s2, e2, ho, hi2⟩ := l14Order_some S i1 s1 hS hi1
    have e3 := spec_OrderText_eq o
    have hz := orderT_size o
    obtain ⟨v, e4, hv⟩ := spec_Hex_some (orderT o).1 (by omega)
    simp only [e2, e3, e4, Option.bind_some]
    rw [if_pos (by omega)]
    exact ⟨_, _, _, rfl, by rw [size_append]; omega, hi2⟩
  have feel : ∃ v i' s', ((g_spec_l01Below ((S, i1, s1), 16)).bind fun v1 => (g_spec_SenseNames v1.1).bind fun v2 =>
   if ((ByteArray.size (⟨#[102, 101, 101, 108, 32]⟩ : ByteArray) + ByteArray.size v2 : Nat) : Int) ≤ 9223372036854775807 then some (((⟨#[102, 101, 101, 108, 32]⟩ : ByteArray) ++ v2), ((), v1.2.2)) else none) = some (v, ((), i', s')) ∧ v.size ≤ 200 ∧ 0 ≤ i' := by
    obtain ⟨b, i2, s2, e2, b0, b9, hi2⟩ := l01Below_some S i1 s1 16 hS hi1 (by decide)
    have e3 := spec_SenseNames_eq b.toNat (by omega)
    rw [show ((b.toNat : Nat) : Int) = b by omega] at e3
    have hz : (senseT b.toNat).size ≤ 100 := senseT_size ⟨b.toNat, by omega⟩
    simp only [e2, e3, Option.bind_some]
    rw [if_pos (by omega)]
    exact ⟨_, _, _, rfl, by rw [size_append]; omega, hi2⟩
  have tick : ∃ v i' s', (some ((⟨#[116, 105, 99, 107]⟩ : ByteArray), ((), i1, s1)) : Option (ByteArray × Unit × Int × Int)) = some (v, ((), i', s')) ∧ v.size ≤ 200 ∧ 0 ≤ i' := ⟨_, _, _, rfl, by omega, hi1⟩
  have rest : ∃ v i' s', (if a = 3 then (g_spec_l14Order (S, i1, s1)).bind fun v4 => (g_spec_OrderText v4.1).bind fun v5 => (g_spec_Hex v5.1).bind fun v6 =>
      if ((ByteArray.size (⟨#[108, 105, 110, 107, 32]⟩ : ByteArray) + ByteArray.size v6.1 : Nat) : Int) ≤ 9223372036854775807 then some (((⟨#[108, 105, 110, 107, 32]⟩ : ByteArray) ++ v6.1), ((), v4.2.2)) else none
     else
      if a = 4 then
       if a = 4 then
        (g_spec_l01Below ((S, i1, s1), 9)).bind fun v7 => (g_spec_Decimal (wrap64 (1 + v7.1))).bind fun v8 =>
        if ((ByteArray.size (⟨#[109, 97, 110, 121, 32]⟩ : ByteArray) + ByteArray.size v8 : Nat) : Int) ≤ 9223372036854775807 then some (((⟨#[109, 97, 110, 121, 32]⟩ : ByteArray) ++ v8), ((), v7.2.2)) else none
       else
        some ((⟨#[116, 105, 99, 107]⟩ : ByteArray), ((), i1, s1))
      else
       if a = 5 then
        (g_spec_l01Below ((S, i1, s1), 9)).bind fun v7 => (g_spec_Decimal (wrap64 (1 + v7.1))).bind fun v8 =>
        if ((ByteArray.size (⟨#[109, 97, 110, 121, 32]⟩ : ByteArray) + ByteArray.size v8 : Nat) : Int) ≤ 9223372036854775807 then some (((⟨#[109, 97, 110, 121, 32]⟩ : ByteArray) ++ v8), ((), v7.2.2)) else none
       else
        some ((⟨#[116, 105, 99, 107]⟩ : ByteArray), ((), i1, s1))) = some (v, ((), i', s')) ∧ v.size ≤ 200 ∧ 0 ≤ i' := by
    by_cases h3 : a = 3
    · rw [if_pos h3]; exact link
    rw [if_neg h3]
    by_cases h4 : a = 4
    · rw [if_pos h4, if_pos h4]; exact many
    rw [if_neg h4]
    by_cases h5 : a = 5
    · rw [if_pos h5]; exact many
    · rw [if_neg h5]; exact tick
  by_cases h0 : a = 0
  · rw [if_pos h0]; exact feel
  rw [if_neg h0]
  by_cases h1 : a = 1
  · rw [if_pos h1, if_pos h1]
    exact keys _ (by decide) (by decide)
  rw [if_neg h1]
  by_cases h2 : a = 2
  · rw [if_pos h2]
    exact keys _ (by decide) (by decide)
  rw [if_neg h2]
  exact rest
/- spec_l20Script -/
-- needs: spec_l01Below spec_l01Pick spec_l01Once spec_l20Show spec_l01Long
/-- From some number of rounds on something is told of which Q holds. -/
def EvX {α : Type} (f : Nat → Option α) (Q : α → Prop) : Prop := ∃ r, Ev f r ∧ Q r
theorem exv_bind {α β : Type} {g : Option α} {f : Nat → α → Option β} {a : α} {Q : β → Prop} (h : g = some a) (k : EvX (fun n => f n a) Q) : EvX (fun n => g.bind (f n)) Q := by
  obtain ⟨r, h1, h2⟩ := k
  exact ⟨r, ev_bind h h1, h2⟩
theorem exv_pos {α : Type} {c : Prop} [Decidable c] {a b : Nat → Option α} {Q : α → Prop} (h : c) (k : EvX a Q) : EvX (fun n => if c then a n else b n) Q := by
  obtain ⟨r, h1, h2⟩ := k
  exact ⟨r, ev_pos h h1, h2⟩
theorem exv_neg {α : Type} {c : Prop} [Decidable c] {a b : Nat → Option α} {Q : α → Prop} (h : ¬ c) (k : EvX b Q) : EvX (fun n => if c then a n else b n) Q := by
  obtain ⟨r, h1, h2⟩ := k
  exact ⟨r, ev_neg h h1, h2⟩
theorem exv_dom {α : Type} {c : Prop} [Decidable c] {a b : Nat → Option α} {Q : α → Prop} (h1 : c → EvX a Q) (h2 : ¬ c → EvX b Q) : EvX (fun n => if c then a n else b n) Q := by
  by_cases h : c
  · exact exv_pos h (h1 h)
  · exact exv_neg h (h2 h)
theorem exv_some {α : Type} {r : α} {Q : α → Prop} (h : Q r) : EvX (fun _ => some r) Q := ⟨r, ev_some, h⟩
theorem exv_step {α : Type} {f g : Nat → Option α} {Q : α → Prop} (h : ∀ k, f (k + 1) = g k) (k : EvX g Q) : EvX f Q := by
  obtain ⟨r, h1, h2⟩ := k
  exact ⟨r, Ev.step h h1, h2⟩
def ScrQ (v : ByteArray × (Unit × Int × Int)) : Prop := v.1.size ≤ 30000 ∧ 0 ≤ v.2.2.1
noncomputable abbrev scr3 := spec_l20Script_L3 (fun _ => g_spec_l01Below) (fun _ => g_spec_l01Long) (fun _ => g_spec_l01Once) (fun _ => g_spec_l01Pick) (fun _ => g_spec_l20Show)
noncomputable abbrev scr21 := spec_l20Script_L21 (fun _ => g_spec_l01Below) (fun _ => g_spec_l01Long) (fun _ => g_spec_l01Once) (fun _ => g_spec_l01Pick) (fun _ => g_spec_l20Show)
theorem script_nl (S : List Int) (i s : Int) (hi : 0 ≤ i) : ∀ (d j : Nat), j + d = 120 → ∀ b : ByteArray, b.size ≤ 20000 + j → EvX (fun k => scr21 k (b, (j : Int), i, s, S, ())) ScrQ := by
  have y1 : (⟨#[10]⟩ : ByteArray).size = 1 := rfl
  intro d
  induction d with
  | zero =>
    intro j hj b hb
    refine exv_step (fun q => by rw [scr21, spec_l20Script_L21]) ?_
    exact exv_neg (by omega) (exv_some ⟨by show b.size ≤ 30000; omega, hi⟩)
  | succ d ih =>
    intro j hj b hb
    refine exv_step (fun q => by rw [scr21, spec_l20Script_L21]) ?_
    rw [w64_succ (i := j) (by omega)]
    exact exv_pos (by omega) (exv_pos (by omega) (ih (j + 1) (by omega) (b ++ (⟨#[10]⟩ : ByteArray)) (by rw [size_append]; omega)))
set_option maxHeartbeats 2000000 in
theorem script_step (S : List Int) (hS : S.length ≤ 1048576) (j : Nat) (hj : j ≤ 24) (b : ByteArray) (i s : Int) (hi : 0 ≤ i) (hb : b.size ≤ 300 * j)
    (rec_ : j < 24 → ∀ (b : ByteArray) (i s : Int), 0 ≤ i → b.size ≤ 300 * (j + 1) → EvX (fun k => scr3 k (b, (j : Int) + 1, i, s, S, ())) ScrQ) : EvX (fun k => scr3 k (b, (j : Int), i, s, S, ())) ScrQ := by
  have y1 : (⟨#[10]⟩ : ByteArray).size = 1 := rfl
  have y2 : (⟨#[35]⟩ : ByteArray).size = 1 := rfl
  have y3 : (⟨#[35, 32, 102, 105, 114, 115, 116, 10]⟩ : ByteArray).size = 8 := rfl
  obtain ⟨a, i1, s1, e1, a0, a24, hi1⟩ := l01Below_some S i s 24 hS hi (by decide)
  refine exv_step (fun q => by rw [scr3, spec_l20Script_L3]) ?_
  rw [w64_succ (i := j) (by omega)]
  refine exv_bind e1 (exv_dom (fun hlt => ?_) (fun _ => ?_))
  · have rec_ := rec_ (by have : (j : Int) < a := hlt; omega)
    obtain ⟨o1, i2, s2, e2, hi2⟩ := l01Once_some S i1 s1 16 hS hi1 (by decide)
    refine exv_bind e2 (exv_dom (fun _ => ?_) (fun _ => ?_))
    · obtain ⟨p1, i3, s3, e3, hp1, hi3⟩ := l01Pick_some S i2 s2 [(⟨#[10]⟩ : ByteArray), (⟨#[32, 32, 10]⟩ : ByteArray), (⟨#[35, 32, 97, 32, 119, 111, 114, 100, 10]⟩ : ByteArray), (⟨#[32, 32, 35, 32, 98, 10]⟩ : ByteArray)] hS hi2 (by decide)
      have z1 : p1.size ≤ 50 := (show ∀ x ∈ [(⟨#[10]⟩ : ByteArray), (⟨#[32, 32, 10]⟩ : ByteArray), (⟨#[35, 32, 97, 32, 119, 111, 114, 100, 10]⟩ : ByteArray), (⟨#[32, 32, 35, 32, 98, 10]⟩ : ByteArray)], x.size ≤ 50 by decide) p1 hp1
      obtain ⟨p2, i4, s4, e4, hp2, hi4⟩ := l20Show_some S i3 s3 hS hi3
      obtain ⟨o2, i5, s5, e5, hi5⟩ := l01Once_some S i4 s4 80 hS hi4 (by decide)
      refine exv_bind e3 (exv_pos (by show ((b.size + p1.size : Nat) : Int) ≤ _; omega) (exv_bind e4 (exv_bind e5 (exv_dom (fun _ => ?_) (fun _ => ?_)))))
      · obtain ⟨p3, i6, s6, e6, hp3, hi6⟩ := l01Pick_some S i5 s5 [(⟨#[102, 101, 101, 108, 32, 97, 105, 114, 44, 98, 108, 111, 99, 107]⟩ : ByteArray), (⟨#[107, 101, 121, 115]⟩ : ByteArray), (⟨#[108, 105, 110, 107, 32, 120, 120]⟩ : ByteArray), (⟨#[109, 97, 110, 121, 32, 48]⟩ : ByteArray), (⟨#[109, 97, 110, 121, 32, 53, 49]⟩ : ByteArray), (⟨#[116, 105, 99, 107, 32, 49]⟩ : ByteArray), (⟨#[119, 104, 97, 116]⟩ : ByteArray), (⟨#[7]⟩ : ByteArray), (⟨#[107, 101, 121, 115, 32, 97, 97, 97, 97, 97, 97, 97, 97, 97, 97, 97, 97, 97, 97, 97, 97, 97, 97, 97, 97, 97, 97, 97, 97]⟩ : ByteArray)] hS hi5 (by decide)
        have z3 : p3.size ≤ 50 := (show ∀ x ∈ [(⟨#[102, 101, 101, 108, 32, 97, 105, 114, 44, 98, 108, 111, 99, 107]⟩ : ByteArray), (⟨#[107, 101, 121, 115]⟩ : ByteArray), (⟨#[108, 105, 110, 107, 32, 120, 120]⟩ : ByteArray), (⟨#[109, 97, 110, 121, 32, 48]⟩ : ByteArray), (⟨#[109, 97, 110, 121, 32, 53, 49]⟩ : ByteArray), (⟨#[116, 105, 99, 107, 32, 49]⟩ : ByteArray), (⟨#[119, 104, 97, 116]⟩ : ByteArray), (⟨#[7]⟩ : ByteArray), (⟨#[107, 101, 121, 115, 32, 97, 97, 97, 97, 97, 97, 97, 97, 97, 97, 97, 97, 97, 97, 97, 97, 97, 97, 97, 97, 97, 97, 97, 97]⟩ : ByteArray)], x.size ≤ 50 by decide) p3 hp3
        refine exv_bind e6 (exv_pos (by simp only [size_append]; omega) (exv_pos (by simp only [size_append]; omega) (rec_ _ _ _ hi6 ?_)))
        simp only [size_append]; omega
      · refine exv_pos (by simp only [size_append]; omega) (exv_pos (by simp only [size_append]; omega) (rec_ _ _ _ hi5 ?_))
        simp only [size_append]; omega
    · obtain ⟨p2, i4, s4, e4, hp2, hi4⟩ := l20Show_some S i2 s2 hS hi2
      obtain ⟨o2, i5, s5, e5, hi5⟩ := l01Once_some S i4 s4 80 hS hi4 (by decide)
      refine exv_bind e4 (exv_bind e5 (exv_dom (fun _ => ?_) (fun _ => ?_)))
      · obtain ⟨p3, i6, s6, e6, hp3, hi6⟩ := l01Pick_some S i5 s5 [(⟨#[102, 101, 101, 108, 32, 97, 105, 114, 44, 98, 108, 111, 99, 107]⟩ : ByteArray), (⟨#[107, 101, 121, 115]⟩ : ByteArray), (⟨#[108, 105, 110, 107, 32, 120, 120]⟩ : ByteArray), (⟨#[109, 97, 110, 121, 32, 48]⟩ : ByteArray), (⟨#[109, 97, 110, 121, 32, 53, 49]⟩ : ByteArray), (⟨#[116, 105, 99, 107, 32, 49]⟩ : ByteArray), (⟨#[119, 104, 97, 116]⟩ : ByteArray), (⟨#[7]⟩ : ByteArray), (⟨#[107, 101, 121, 115, 32, 97, 97, 97, 97, 97, 97, 97, 97, 97, 97, 97, 97, 97, 97, 97, 97, 97, 97, 97, 97, 97, 97, 97, 97]⟩ : ByteArray)] hS hi5 (by decide)
        have z3 : p3.size ≤ 50 := (show ∀ x ∈ [(⟨#[102, 101, 101, 108, 32, 97, 105, 114, 44, 98, 108, 111, 99, 107]⟩ : ByteArray), (⟨#[107, 101, 121, 115]⟩ : ByteArray), (⟨#[108, 105, 110, 107, 32, 120, 120]⟩ : ByteArray), (⟨#[109, 97, 110, 121, 32, 48]⟩ : ByteArray), (⟨#[109, 97, 110, 121, 32, 53, 49]⟩ : ByteArray), (⟨#[116, 105, 99, 107, 32, 49]⟩ : ByteArray), (⟨#[119, 104, 97, 116]⟩ : ByteArray), (⟨#[7]⟩ : ByteArray), (⟨#[107, 101, 121, 115, 32, 97, 97, 97, 97, 97, 97, 97, 97, 97, 97, 97, 97, 97, 97, 97, 97, 97, 97, 97, 97, 97, 97, 97, 97]⟩ : ByteArray)], x.size ≤ 50 by decide) p3 hp3
        refine exv_bind e6 (exv_pos (by simp only []; omega) (exv_pos (by simp only [size_append]; omega) (rec_ _ _ _ hi6 ?_)))
        simp only [size_append]; omega
      · refine exv_pos (by simp only []; omega) (exv_pos (by simp only [size_append]; omega) (rec_ _ _ _ hi5 ?_))
        simp only [size_append]; omega
  · obtain ⟨c, i2, s2, e2, c0, c30, hi2⟩ := l01Below_some S i1 s1 30 hS hi1 (by decide)
    refine exv_bind e2 (exv_dom (fun _ => ?_) (fun _ => exv_dom (fun _ => ?_) (fun _ => exv_dom (fun _ => ?_) (fun _ => exv_dom (fun _ => ?_) (fun _ => exv_dom (fun _ => ?_) (fun _ => ?_))))))
    · refine exv_pos (by omega) (exv_some ⟨?_, hi2⟩)
      simp only [size_append]; omega
    · obtain ⟨p3, i6, s6, e6, hp3, hi6⟩ := l01Pick_some S i2 s2 [(⟨#[]⟩ : ByteArray), (⟨#[10]⟩ : ByteArray), (⟨#[35]⟩ : ByteArray), (⟨#[116, 105, 99, 107]⟩ : ByteArray), (⟨#[109, 97, 110, 121, 32, 48, 53, 48, 10]⟩ : ByteArray), (⟨#[109, 97, 110, 121, 32, 53, 48, 10, 109, 97, 110, 121, 32, 53, 48, 10, 109, 97, 110, 121, 32, 53, 48, 10]⟩ : ByteArray), (⟨#[109, 97, 110, 121, 32, 53, 48, 10, 109, 97, 110, 121, 32, 53, 48, 10, 109, 97, 110, 121, 32, 53, 48, 10, 116, 105, 99, 107, 10]⟩ : ByteArray)] hS hi2 (by decide)
      have z3 : p3.size ≤ 50 := (show ∀ x ∈ [(⟨#[]⟩ : ByteArray), (⟨#[10]⟩ : ByteArray), (⟨#[35]⟩ : ByteArray), (⟨#[116, 105, 99, 107]⟩ : ByteArray), (⟨#[109, 97, 110, 121, 32, 48, 53, 48, 10]⟩ : ByteArray), (⟨#[109, 97, 110, 121, 32, 53, 48, 10, 109, 97, 110, 121, 32, 53, 48, 10, 109, 97, 110, 121, 32, 53, 48, 10]⟩ : ByteArray), (⟨#[109, 97, 110, 121, 32, 53, 48, 10, 109, 97, 110, 121, 32, 53, 48, 10, 109, 97, 110, 121, 32, 53, 48, 10, 116, 105, 99, 107, 10]⟩ : ByteArray)], x.size ≤ 50 by decide) p3 hp3
      exact exv_bind e6 (exv_some ⟨by show p3.size ≤ 30000; omega, hi6⟩)
    · refine exv_dom (fun h => ?_) (fun h => exv_some ⟨by show b.size ≤ 30000; omega, hi2⟩)
      rw [w64 (by omega) (by omega)]
      refine exv_pos (by omega) (exv_pos (by omega) (exv_some ⟨?_, hi2⟩))
      show (ByteArray.extract b _ _).size ≤ 30000
      have : (ByteArray.extract b (Int.toNat 0) (Int.toNat ((b.size : Int) - 1))).size ≤ b.size := by
        rw [ByteArray.size_extract]
        omega
      omega
    · exact script_nl S i2 s2 hi2 120 0 rfl b (by omega)
    · refine exv_dom (fun h => ?_) (fun h => exv_some ⟨by show b.size ≤ 30000; omega, hi2⟩)
      obtain ⟨x, i3, s3, e3, x0, x2, hi3⟩ := l01Below_some S i2 s2 2 hS hi2 (by decide)
      obtain ⟨v, hv, hz⟩ := l01Long_some (3000 - b.size - 1 + x.toNat) 32 (by omega)
      refine exv_pos (by omega) (exv_bind e3 ?_)
      have hw : wrap64 (wrap64 (wrap64 (3000 - ((b.size : Nat) : Int)) - 1) + x) = ((3000 - b.size - 1 + x.toNat : Nat) : Int) := by
        rw [w64 (n := 3000 - ((b.size : Nat) : Int)) (by omega) (by omega), w64 (n := 3000 - ((b.size : Nat) : Int) - 1) (by omega) (by omega), w64 (by omega) (by omega)]
        omega
      simp only [hw]
      refine exv_bind hv (exv_pos (by rw [size_append]; omega) (exv_some ⟨?_, hi3⟩))
      simp only [size_append]; omega
    · exact exv_some ⟨by show b.size ≤ 30000; omega, hi2⟩
theorem script_loop (S : List Int) (hS : S.length ≤ 1048576) : ∀ (d j : Nat), j + d = 24 → ∀ (b : ByteArray) (i s : Int), 0 ≤ i → b.size ≤ 300 * j → EvX (fun k => scr3 k (b, (j : Int), i, s, S, ())) ScrQ := by
  intro d
  induction d with
  | zero =>
    intro j hj b i s hi hb
    exact script_step S hS j (by omega) b i s hi hb (fun h => by omega)
  | succ d ih =>
    intro j hj b i s hi hb
    exact script_step S hS j (by omega) b i s hi hb (fun h b i s hi hb => ih (j + 1) (by omega) b i s hi hb)
theorem l20Script_some (S : List Int) (i s : Int) (hS : S.length ≤ 1048576) (hi : 0 ≤ i) : ∃ v i' s', g_spec_l20Script (S, i, s) = some (v, ((), i', s')) ∧ v.size ≤ 30000 := by
  obtain ⟨⟨v, u, i', s'⟩, h1, h2⟩ := script_loop S hS 24 0 rfl (⟨#[]⟩ : ByteArray) i s hi (by decide)
  exact ⟨v, i', s', evG_eq h1, h2.1⟩
/- spec_DrawConsole -/
-- needs: spec_l01New spec_l20Script
theorem spec_DrawConsole_some (S : List Int) (hS : S.length ≤ 1048576) : ∃ t, g_spec_DrawConsole S = some t ∧ t.size ≤ 30000 := by
  obtain ⟨x, hx⟩ := l01New_ev S hS
  obtain ⟨v, i, s, h, hz⟩ := l20Script_some S 0 x hS (by decide)
  refine ⟨v, ?_, hz⟩
  unfold g_spec_DrawConsole spec_DrawConsole_
  simp only [hx, h, Option.bind_some]
/- laws_FnScript -/
-- needs: laws_FnMany impl_Console spec_Console spec_DrawConsole laws_begins impl_RunDevice impl_ShowDevice spec_ReadScript laws_big
abbrev tSaid : ByteArray := ⟨#[35, 32, 115, 97, 105, 100, 10, 32, 32, 32, 10]⟩
abbrev tMore : ByteArray := ⟨#[32, 32, 35, 32, 109, 111, 114, 101, 10]⟩
abbrev tSaid1 : ByteArray := ⟨#[35, 32, 115, 97, 105, 100]⟩
abbrev tBlank : ByteArray := ⟨#[32, 32, 32]⟩
abbrev tMore1 : ByteArray := ⟨#[32, 32, 35, 32, 109, 111, 114, 101]⟩
theorem lines_said : linesF tSaid = [tSaid1, tBlank] := by decide +kernel
theorem lines_more : linesF tMore = [tMore1] := by decide +kernel
theorem parts_said : partsF tSaid1 = ([⟨#[35]⟩, ⟨#[115, 97, 105, 100]⟩], true) := by decide +kernel
theorem parts_blank : partsF tBlank = ([], true) := by decide +kernel
theorem parts_more : partsF tMore1 = ([⟨#[35]⟩, ⟨#[109, 111, 114, 101]⟩], true) := by decide +kernel
theorem rsF_skip {l : ByteArray} {r : List ByteArray} {i : Nat} {acc : List In} {p : List ByteArray} (hp : partsF l = (p, true)) (hs : skipL p = true) : rsF (l :: r) i acc = rsF r (i + 1) acc := by
  rw [rsF, hp, if_pos rfl, if_pos hs]
theorem rsF_shift : ∀ (L : List ByteArray) (i j : Nat) (acc : List In), (rsF L i acc).2 = 0 → rsF L j acc = rsF L i acc
  | [], i, j, acc, _ => by rw [rsF, rsF]
  | l :: r, i, j, acc, h => by
    rw [rsF] at h ⊢
    rw [rsF]
    split
    · rename_i h1
      rw [if_pos h1] at h
      split
      · rename_i h2
        rw [if_pos h2] at h
        exact rsF_shift r (i + 1) (j + 1) acc h
      · rename_i h2
        rw [if_neg h2] at h
        split
        · rename_i h3
          rw [if_pos h3] at h
          exact rsF_shift r (i + 1) (j + 1) _ h
        · rename_i h3
          rw [if_neg h3] at h
          exact absurd h (by show ¬ ((i : Int) + 1 = 0); omega)
    · rename_i h1
      rw [if_neg h1] at h
      exact absurd h (by show ¬ ((i : Int) + 1 = 0); omega)
theorem rsF_behind {l : ByteArray} {p : List ByteArray} (hp : partsF l = (p, true)) (hs : skipL p = true) : ∀ (L : List ByteArray) (i : Nat) (acc : List In), (rsF L i acc).2 = 0 → rsF (L ++ [l]) i acc = rsF L i acc
  | [], i, acc, _ => by rw [List.nil_append, rsF_skip hp hs, rsF, rsF]
  | q :: r, i, acc, h => by
    rw [List.cons_append]
    rw [rsF] at h ⊢
    rw [rsF]
    split
    · rename_i h1
      rw [if_pos h1] at h
      split
      · rename_i h2
        rw [if_pos h2] at h
        exact rsF_behind hp hs r (i + 1) acc h
      · rename_i h2
        rw [if_neg h2] at h
        split
        · rename_i h3
          rw [if_pos h3] at h
          exact rsF_behind hp hs r (i + 1) _ h
        · rfl
    · rfl
theorem readS_fine {t : ByteArray} (h : (readS t).2 = 0) : readS t = rsF (linesF t) 0 [] ∧ (rsF (linesF t) 0 []).2 = 0 := by
  unfold readS at h ⊢
  split
  · rename_i h1
    rw [if_pos h1] at h
    exact ⟨rfl, h⟩
  · rename_i h1
    rw [if_neg h1] at h
    exact absurd h (by decide)
theorem readS_said {t : ByteArray} (h : (readS t).2 = 0) : readS (tSaid ++ t) = ([], -1) ∨ readS (tSaid ++ t) = readS t := by
  obtain ⟨h1, h2⟩ := readS_fine h
  have e : linesF (tSaid ++ t) = tSaid1 :: tBlank :: linesF t := by
    rw [linesF_app ⟨bl (⟨#[35, 32, 115, 97, 105, 100, 10, 32, 32, 32]⟩ : ByteArray), rfl⟩, lines_said]
    rfl
  by_cases hc : (tSaid ++ t).size ≤ 3000 ∧ (linesF (tSaid ++ t)).length ≤ 120
  · refine .inr ?_
    rw [h1]
    unfold readS
    rw [if_pos hc, e, rsF_skip parts_said (by decide), rsF_skip parts_blank rfl]
    exact rsF_shift _ 0 2 [] h2
  · refine .inl ?_
    unfold readS
    rw [if_neg hc]
theorem readS_more {t : ByteArray} (h : (readS t).2 = 0) (he : Ends t) : readS ((tSaid ++ t) ++ tMore) = ([], -1) ∨ readS ((tSaid ++ t) ++ tMore) = readS t := by
  obtain ⟨h1, h2⟩ := readS_fine h
  have e : linesF ((tSaid ++ t) ++ tMore) = tSaid1 :: tBlank :: (linesF t ++ [tMore1]) := by
    rw [linesF_app (ends_app _ he), linesF_app ⟨bl (⟨#[35, 32, 115, 97, 105, 100, 10, 32, 32, 32]⟩ : ByteArray), rfl⟩, lines_said, lines_more]
    rfl
  by_cases hc : ((tSaid ++ t) ++ tMore).size ≤ 3000 ∧ (linesF ((tSaid ++ t) ++ tMore)).length ≤ 120
  · refine .inr ?_
    rw [h1]
    unfold readS
    rw [if_pos hc, e, rsF_skip parts_said (by decide), rsF_skip parts_blank rfl]
    have h3 := rsF_behind parts_more (by decide) (linesF t) 0 [] h2
    rw [← h3] at h2
    rw [rsF_shift _ 0 2 [] h2, h3]
  · refine .inl ?_
    unfold readS
    rw [if_neg hc]
theorem ends_of {t : ByteArray} (h0 : 0 < t.size) (h : byt t ((t.size : Int) - 1) = 10) : Ends t := by
  have hl := bl_len t
  have hlt : t.size - 1 < (bl t).length := by omega
  have e1 : (bl t).drop (t.size - 1) = (bl t)[t.size - 1] :: (bl t).drop (t.size - 1 + 1) := List.drop_eq_getElem_cons hlt
  have b1 := byt_drop e1
  rw [show ((t.size - 1 : Nat) : Int) = (t.size : Int) - 1 by omega, h] at b1
  have hx : (bl t)[t.size - 1] = 10 := by
    apply UInt8.toNat_inj.1
    show _ = 10
    omega
  refine ⟨(bl t).take (t.size - 1), ?_⟩
  have e2 : (bl t).drop (t.size - 1 + 1) = [] := List.drop_eq_nil_of_le (by omega)
  rw [e2, hx] at e1
  rw [← e1, List.take_append_drop]
theorem consF_same {a b : ByteArray} (h : readS a = readS b) : consF a = consF b := by
  unfold consF
  rw [h]
theorem showX_begins (s g l a : Nat) : ∃ r, showX s g l a = (⟨#[115, 116, 97, 116, 101, 32]⟩ : ByteArray) ++ r := by
  refine ⟨(((((((decB s) ++ (⟨#[32, 103, 105, 118, 101, 110, 32]⟩ : ByteArray)) ++ decB g) ++ (⟨#[32, 108, 101, 102, 116, 32]⟩ : ByteArray)) ++ decB l) ++ (⟨#[32, 97, 108, 97, 114, 109, 32]⟩ : ByteArray)) ++ senseT a) ++ (⟨#[10]⟩ : ByteArray), ?_⟩
  unfold showX
  apply ba_ext
  simp only [bl_append, List.append_assoc]
set_option maxHeartbeats 2000000 in
theorem t_FnScript (S : List Int) : g_laws_FnScript S = some true := by
  unfold g_laws_FnScript laws_FnScript_
  simp only [laws_big_eq, Option.bind_some]
  by_cases hb : decide (1048576 < (S.length : Int)) = true
  · rw [if_pos hb]
  rw [if_neg hb]
  have hS : S.length ≤ 1048576 := by
    rw [decide_eq_true_eq] at hb; omega
  obtain ⟨t, ht, hz⟩ := spec_DrawConsole_some S hS
  have y1 : (⟨#[10]⟩ : ByteArray).size = 1 := rfl
  have y2 : (⟨#[102, 97, 117, 108, 116, 32]⟩ : ByteArray).size = 6 := rfl
  have y3 : (⟨#[35, 32, 115, 97, 105, 100, 10, 32, 32, 32, 10]⟩ : ByteArray).size = 11 := rfl
  have y4 : (⟨#[32, 32, 35, 32, 109, 111, 114, 101, 10]⟩ : ByteArray).size = 9 := rfl
  obtain ⟨k1, k2, k3, k4⟩ := readS_ok t
  simp only [ht, spec_ReadScript_eq t (by omega), impl_Console_eq t (by omega), Option.bind_some]
  by_cases hf : (readS t).2 = 0
  case neg =>
    rw [if_neg hf]
    have e := spec_Decimal_small (readS t).2 ⟨k3, k4⟩
    have hz2 := decI_small (readS t).2 ⟨k3, k4⟩
    simp only [e, Option.bind_some]
    rw [if_pos (by omega), if_pos (by rw [size_append]; omega)]
    have : consF t = faultT (readS t).2 := by unfold consF; rw [if_neg hf]
    rw [this]
    unfold faultT
    rw [decide_eq_true rfl]
  rw [if_pos hf]
  have hR := impl_RunDevice_eq (readS t).1 (by omega)
  rw [runD_ok k2 k1] at hR
  have hL := life_run k2 k1
  obtain ⟨p, past, alarm, m, ts, ref, he, hd, _⟩ := hL.sound k1
  obtain ⟨_, g2, g3, g4, _, _⟩ := deviceOk_den hd
  have g5 := menu_size g3
  have g6 := (guardOk_den g2).1
  obtain ⟨s, g, ll, a, e0', r1, r2, r3, r4, r5, r6, r7, r8⟩ := showD_eq hd
  have hlen : ts.length = (readS t).1.length := by have := hL.len; rw [he] at this; exact this
  have e2 := impl_DeviceOk_eq p past alarm m ts ref (by omega) (by omega)
  rw [hd] at e2
  have hX := impl_ShowDevice_ok e2 r1 r2 r3 r4 r5 r6 r7 r8
  have hXz := showX_size s g ll a r5 r6 r7 r8
  obtain ⟨xr, hxr⟩ := showX_begins s g ll a
  have hc : consF t = outF ts ++ showX s g ll a := by
    unfold consF
    rw [if_pos hf, he, e0']
    rfl
  rw [he] at hR
  have hlt : ((List.length (dev p past alarm m ts ref).2.2.2.2.2.2.2.2.2.2.2.2.2.2.2.1 : Nat) : Int) = (((readS t).1.length : Nat) : Int) := by
    show ((ts.length : Nat) : Int) = _
    omega
  have hbeg : g_laws_begins ((⟨#[115, 116, 97, 116, 101, 32]⟩ : ByteArray), showX s g ll a) = some true := by
    rw [hxr]; exact laws_begins_app _ _
  have hcz : (consF t).size = (outF ts).size + (showX s g ll a).size := by rw [hc, size_append]
  have hoz : (outF ts).size ≤ 100000 := by
    unfold outF
    split
    · decide
    · have hz3 := jl_size (wordsF ts) (by
        intro x hx
        obtain ⟨u, hu, rfl⟩ := List.mem_map.1 hx
        have h6 := hL.rng
        rw [he] at h6
        have h7 := h6 u.1 (List.mem_map.2 ⟨u, hu, rfl⟩)
        have h8 := decB_size u.1.toNat
        omega)
      have : (wordsF ts).length = ts.length := List.length_map _
      rw [size_append]
      omega
  have hw : wrap64 (((consF t).size : Int) - ((showX s g ll a).size : Int)) = ((outF ts).size : Int) := by
    rw [hcz, w64 (by omega) (by omega)]; omega
  have hext : ByteArray.extract (consF t) (Int.toNat ((outF ts).size : Int)) (Int.toNat (((consF t).size : Nat) : Int)) = showX s g ll a := by
    rw [hc]; exact ext_end _ rfl
  simp only [hR, hX, Option.bind_some, hlt, if_true, hw, hext, hbeg]
  rw [if_neg (by omega), if_pos (by omega), if_pos (by omega), if_pos (by omega)]
  have hsz : (tSaid ++ t).size = 11 + t.size := by rw [size_append, y3]
  have hsz2 : ((tSaid ++ t) ++ tMore).size = 11 + t.size + 9 := by rw [size_append, size_append, y3, y4]
  have eC : g_spec_Console t = some (consF t) := spec_Console_eq t (by omega)
  have eA : g_spec_ReadScript (tSaid ++ t) = some (readS (tSaid ++ t)) := spec_ReadScript_eq _ (by omega)
  have eB : g_impl_Console (tSaid ++ t) = some (consF (tSaid ++ t)) := impl_Console_eq _ (by omega)
  have eD : g_spec_ReadScript ((tSaid ++ t) ++ tMore) = some (readS ((tSaid ++ t) ++ tMore)) := spec_ReadScript_eq _ (by omega)
  have eE : g_impl_Console ((tSaid ++ t) ++ tMore) = some (consF ((tSaid ++ t) ++ tMore)) := impl_Console_eq _ (by omega)
  have said : ((g_spec_ReadScript (tSaid ++ t)).bind fun v10 => (g_spec_Console t).bind fun v11 => if consF t = v11 then (if v10.2 = (-1) then some true else (g_impl_Console (tSaid ++ t)).bind fun v12 => some (decide (v12 = consF t))) else some false) = some true := by
    simp only [eA, eC, eB, Option.bind_some, if_true]
    rcases readS_said hf with h | h
    · rw [h, if_pos rfl]
    · rw [consF_same h, decide_eq_true rfl]
      split <;> rfl
  by_cases h0 : 0 < ((t.size : Nat) : Int)
  · rw [if_pos h0]
    have hw2 : wrap64 (((t.size : Nat) : Int) - 1) = ((t.size : Nat) : Int) - 1 := w64 (by omega) (by omega)
    rw [hw2, if_pos (by omega), if_pos (by omega)]
    by_cases h10 : byt t (((t.size : Nat) : Int) - 1) = 10
    · rw [if_pos h10, if_pos (by rw [size_append]; omega)]
      show ((g_spec_ReadScript ((tSaid ++ t) ++ tMore)).bind fun v10 => (g_spec_Console t).bind fun v11 => if consF t = v11 then (if v10.2 = (-1) then some true else (g_impl_Console ((tSaid ++ t) ++ tMore)).bind fun v12 => some (decide (v12 = consF t))) else some false) = some true
      simp only [eD, eC, eE, Option.bind_some, if_true]
      rcases readS_more hf (ends_of (by omega) h10) with h | h
      · rw [h, if_pos rfl]
      · rw [consF_same h, decide_eq_true rfl]
        split <;> rfl
    · rw [if_neg h10]
      exact said
  · rw [if_neg h0]
    exact said
end Go.Sx.T
