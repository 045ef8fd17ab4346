/- Functions of the program as functions of Lean, and that the program keeps to them. -/
import Derived.Test.YtkcfdkfdmglamaaFnApartOfA3
set_option maxRecDepth 100000
set_option linter.unusedVariables false
set_option linter.unusedSimpArgs false
namespace Go.Proofs
end Go.Proofs
namespace Go.Sx.T
open Go Go.Sx Go.Proofs Go.RowKit
/- slices_Equal___int_int_ -/
theorem slices_Equal___int_int__dec (l m : List Int) (hl : l.length ≤ 1048576) : g_slices_Equal___int_int_ (l, m) = some (decide (l = m)) := by
  refine evG_eq ?_
  unfold slices_Equal___int_int__
  refine ev_dom (fun h => ?_) (fun h => ?_)
  case refine_2 =>
    have : decide (l = m) = false := decide_eq_false (fun e => h (by rw [e]))
    rw [this]
    exact ev_some
  have hlm : l.length = m.length := by omega
  have key : ∀ (d i : Nat), i + d = l.length → l.take i = m.take i → Ev (fun k => slices_Equal___int_int__L4 k ((l.length : Nat), (i : Int), l, m, ())) (decide (l = m)) := by
    intro d
    induction d with
    | zero =>
      intro i hi ht
      have hd : decide (l = m) = true := by
        refine decide_eq_true ?_
        rw [List.take_of_length_le (by omega), List.take_of_length_le (by omega)] at ht
        exact ht
      rw [hd]
      refine Ev.step (fun q => by rw [slices_Equal___int_int__L4]) ?_
      exact ev_neg (by omega) ev_some
    | succ d ih =>
      intro i hi ht
      have h1 : i < l.length := by omega
      have h2 : i < m.length := by omega
      refine Ev.step (fun q => by rw [slices_Equal___int_int__L4]) ?_
      refine ev_pos (by omega) (ev_pos (by omega) (ev_pos (by omega) (ev_pos (by omega) (ev_pos (by omega) ?_))))
      rw [getD_lt h1, getD_lt h2, w64_succ (by omega)]
      refine ev_dom (fun he => ?_) (fun he => ?_)
      · exact ih (i + 1) (by omega) (by rw [List.take_succ_eq_append_getElem h1, List.take_succ_eq_append_getElem h2, ht, he])
      · have hd : decide (l = m) = false := decide_eq_false (fun e => he (by subst e; rfl))
        rw [hd]
        exact ev_some
  exact key l.length 0 (by omega) rfl
/- impl_samePart -/
theorem impl_samePart_dec (x y : Int × ((Int × List Int) × (Int × (Int × Int)))) (hl : x.2.1.2.length ≤ 1048576) : g_impl_samePart ((x.1, x.2.1.1, x.2.1.2, x.2.2), (y.1, y.2.1.1, y.2.1.2, y.2.2)) = some (decide (x = y)) := by
  obtain ⟨a, ⟨b, c⟩, d, e, f⟩ := x
  obtain ⟨a', ⟨b', c'⟩, d', e', f'⟩ := y
  unfold g_impl_samePart impl_samePart_
  simp only [slices_Equal___int_int__dec c c' hl, Option.bind_some]
  repeat' split
  all_goals simp_all
/- impl_copyInts -/
theorem impl_copyInts_eq (l : List Int) (hl : l.length ≤ 1048576) : g_impl_copyInts l = some l := by
  show (if (((List.length ([] : List Int) + List.length l : Nat) : Int) * ((8 : Nat) : Int)) ≤ 140737488355328 then some (([] : List Int) ++ l) else none) = _
  rw [if_pos (by simp only [List.length_nil]; omega)]
  rfl
/- impl_cellAt -/
/-- The cells that a region has. -/
def cnt (n : Nat) (b s : Int) : Nat := if 0 ≤ b then (min s ((n : Int) - b)).toNat else 0
theorem impl_cellAt_lt (l : List Int) (b s : Int) (i : Nat) (hl : l.length ≤ 1048576) (hb : I64 b) (h : i < cnt l.length b s) : g_impl_cellAt (l, (b, s), (i : Int)) = some (b + i) ∧ 0 ≤ b ∧ b + i < l.length ∧ (i : Int) < s := by
  unfold cnt at h
  unfold I64 at hb
  split at h
  · rename_i h0
    refine ⟨?_, h0, by omega, by omega⟩
    unfold g_impl_cellAt impl_cellAt_
    simp only []
    rw [w64 (by omega) (by omega), if_neg (by omega), if_neg (by omega), if_neg (by omega), if_neg (by omega), w64 (by omega) (by omega)]
  · omega
theorem impl_cellAt_ge (l : List Int) (b s : Int) (i : Nat) (hl : l.length ≤ 1048576) (hb : I64 b) (h : cnt l.length b s ≤ i) : g_impl_cellAt (l, (b, s), (i : Int)) = some (-1) := by
  unfold cnt at h
  unfold I64 at hb
  unfold g_impl_cellAt impl_cellAt_
  simp only []
  split at h
  · rename_i h0
    rw [w64 (by omega) (by omega), if_neg (by omega), if_neg (by omega)]
    by_cases h1 : s ≤ i
    · rw [if_pos h1]
    · rw [if_neg h1, if_pos (by omega)]
  · rw [if_pos (by omega)]
/- impl_CellsOf -/
theorem take_next (l : List Int) (b : Int) (i : Nat) (h0 : 0 ≤ b) (h : b + i < l.length) : (l.drop b.toNat).take i ++ [l.getD (b + i).toNat 0] = (l.drop b.toNat).take (i + 1) := by
  have hlt : i < (l.drop b.toNat).length := by rw [List.length_drop]; omega
  rw [List.take_succ_eq_append_getElem hlt, List.getElem_drop, List.getD_eq_getElem?_getD, List.getElem?_eq_getElem (by omega), Option.getD_some]
  congr 3
  omega
theorem impl_CellsOf_eq (l : List Int) (b s : Int) (hl : l.length ≤ 1048576) (hb : I64 b) : g_impl_CellsOf (l, (b, s)) = some ((l.drop b.toNat).take (cnt l.length b s)) := by
  refine evG_eq ?_
  unfold impl_CellsOf_
  have key : ∀ (d i : Nat), i + d = cnt l.length b s → Ev (fun k => impl_CellsOf_L3 (fun _ => g_impl_cellAt) k ((i : Int), l, b, s, (l.drop b.toNat).take i, ())) ((l.drop b.toNat).take (cnt l.length b s)) := by
    intro d
    induction d with
    | zero =>
      intro i hi
      refine Ev.step (fun q => by rw [impl_CellsOf_L3]) ?_
      refine ev_bind (impl_cellAt_ge l b s i hl hb (by omega)) (ev_neg (by omega) ?_)
      rw [show i = cnt l.length b s by omega]
      exact ev_some
    | succ d ih =>
      intro i hi
      obtain ⟨e, h0, h1, h2⟩ := impl_cellAt_lt l b s i hl hb (by omega)
      have hw : wrap64 (b + (i : Int)) = b + i := w64 (by omega) (by omega)
      refine Ev.step (fun q => by rw [impl_CellsOf_L3]) ?_
      refine ev_bind e (ev_pos (by omega) ?_)
      rw [hw, w64_succ (by omega)]
      refine ev_pos (by omega) (ev_pos (by omega) (ev_pos ?_ ?_))
      · simp only [List.length_take, List.length_cons, List.length_nil]
        omega
      · rw [take_next l b i h0 h1]
        exact ih (i + 1) (by omega)
  exact key (cnt l.length b s) 0 (by omega)
/- impl_copyCpu -/
theorem impl_copyCpu_eq (p : Int) (l : List Int) (hl : l.length ≤ 1048576) : g_impl_copyCpu (p, l) = some (p, l) := by
  unfold g_impl_copyCpu impl_copyCpu_
  simp only [impl_copyInts_eq l hl, Option.bind_some]
/- impl_copyPart -/
theorem impl_copyPart_eq (s p : Int) (l : List Int) (r : Int × Int × Int) (hl : l.length ≤ 1048576) : g_impl_copyPart (s, p, l, r) = some (s, p, l, r) := by
  obtain ⟨x, y, w⟩ := r
  unfold g_impl_copyPart impl_copyPart_
  simp only [impl_copyCpu_eq p l hl, Option.bind_some]
/- impl_within -/
theorem impl_within_eq (a b c : Int) : g_impl_within (a, b, c) = some (decide (b ≤ a ∧ a ≤ c)) := by
  show (if b ≤ a then some (decide (a ≤ c)) else some false) = _
  split
  · rename_i h; refine eq_dec ?_; rw [decide_eq_true_iff]; omega
  · rename_i h; exact dec_no (by omega)
/- impl_PartView -/
-- needs: laws_szKernel
theorem drop_two (l : List Int) (p : Nat) (h0 : 1 ≤ p) (h : 2 * p ≤ l.length) : (l.take (2 * p)).drop (2 * p - 2) = [l.getD (2 * p - 2) 0, l.getD (2 * p - 1) 0] := by
  apply List.ext_getElem?
  intro j
  rw [List.getElem?_drop, List.getElem?_take]
  match j with
  | 0 =>
    rw [if_pos (by omega)]
    simp [List.getD_eq_getElem?_getD, List.getElem?_eq_getElem (show 2 * p - 2 < l.length by omega)]
  | 1 =>
    rw [if_pos (by omega)]
    have e : 2 * p - 2 + 1 = 2 * p - 1 := by omega
    rw [e]
    simp [List.getD_eq_getElem?_getD, List.getElem?_eq_getElem (show 2 * p - 1 < l.length by omega)]
  | j + 2 =>
    rw [if_neg (by omega)]
    simp
/-- What there is to be seen of a part. -/
def pview (a0 : List (Int × Int)) (a5 : List Int) (a6 : List (Int × ((Int × List Int) × (Int × (Int × Int))))) (a8 : List Int) (p : Int) : (Int × ((Int × List Int) × (Int × (Int × Int)))) × List Int × List Int :=
  if (1 ≤ p ∧ p ≤ a6.length) ∧ p ≤ a0.length ∧ 2 * p ≤ a8.length then (a6.getD (p - 1).toNat (0, ((0, []), (0, (0, 0)))), (a5.drop (a0.getD (p - 1).toNat (0, 0)).1.toNat).take (cnt a5.length (a0.getD (p - 1).toNat (0, 0)).1 (a0.getD (p - 1).toNat (0, 0)).2), [a8.getD (2 * p - 2).toNat 0, a8.getD (2 * p - 1).toNat 0])
  else ((0, ((0, []), (0, (0, 0)))), [], [])
/-- The same, as the walk has its parts. -/
def flatP (x : (Int × ((Int × List Int) × (Int × (Int × Int)))) × List Int × List Int) : (Int × Int × List Int × Int × Int × Int) × List Int × List Int := ((x.1.1, x.1.2.1.1, x.1.2.1.2, x.1.2.2), x.2)
theorem impl_PartView_eq (a0 a1 : List (Int × Int)) (a2 : List (Int × (Int × (Int × (Int × Int))))) (a3 : List (Int × (Int × Int))) (a4 : List ByteArray) (a5 : List Int) (a6 : List (Int × ((Int × List Int) × (Int × (Int × Int))))) (a7 : List (List (Int × Int))) (a8 : List Int) (a9 : Int) (a10 : Bool) (a11 : List (Int × (Int × (Int × (Int × Int))))) (h : KSm a0 a1 a2 a3 a4 a5 a6 a7 a8 a9 a10 a11) (hr : ∀ x ∈ a0, I64 x.1) (p : Int) : g_impl_PartView ((a0, a1, a2, a3, a4, a5, a6, a7, a8, a9, a10, a11), p) = some (flatP (pview a0 a5 a6 a8 p)) := by
  have q6 := h.h6
  have q8 := h.h8
  unfold g_impl_PartView impl_PartView_
  simp only [impl_within_eq, Option.bind_some]
  by_cases h1 : 1 ≤ p ∧ p ≤ ((List.length a6 : Nat) : Int)
  case neg =>
    rw [if_neg (by simpa using h1)]
    unfold pview
    rw [if_neg (fun q => h1 q.1)]
    rfl
  rw [if_pos (decide_eq_true h1)]
  by_cases h2 : ((List.length a0 : Nat) : Int) < p
  · rw [if_pos h2]
    unfold pview
    rw [if_neg (fun q => by omega)]
    rfl
  rw [if_neg h2, w64 (n := 2 * p) (by omega) (by omega)]
  by_cases h3 : ((List.length a8 : Nat) : Int) < 2 * p
  · rw [if_pos h3]
    unfold pview
    rw [if_neg (fun q => by omega)]
    rfl
  rw [if_neg h3, w64 (n := p - 1) (by omega) (by omega), w64 (n := 2 * p - 2) (by omega) (by omega)]
  have hlt6 : (p - 1).toNat < a6.length := by omega
  have hlt0 : (p - 1).toNat < a0.length := by omega
  have hst : (a6.getD (p - 1).toNat (0, ((0, []), (0, (0, 0))))).2.1.2.length ≤ 1048576 := by
    rw [List.getD_eq_getElem?_getD, List.getElem?_eq_getElem hlt6, Option.getD_some]
    exact h.p6 _ (List.getElem_mem hlt6)
  have hrg : I64 (a0.getD (p - 1).toNat (0, 0)).1 := by
    rw [List.getD_eq_getElem?_getD, List.getElem?_eq_getElem hlt0, Option.getD_some]
    exact hr _ (List.getElem_mem hlt0)
  rw [if_pos (by omega), if_pos (by omega), if_pos (by omega), if_pos (by omega), impl_copyPart_eq _ _ _ _ hst, Option.bind_some]
  rw [show a0.getD (p - 1).toNat (0, 0) = ((a0.getD (p - 1).toNat (0, 0)).1, (a0.getD (p - 1).toNat (0, 0)).2) from rfl, impl_CellsOf_eq a5 _ _ h.h5 hrg, Option.bind_some]
  rw [if_pos (by omega), if_pos (by omega), if_pos (by omega), if_pos (by omega)]
  have e1 : (2 * p).toNat = 2 * p.toNat := by omega
  have e2 : (2 * p - 2).toNat = 2 * p.toNat - 2 := by omega
  have e3 : (2 * p - 1).toNat = 2 * p.toNat - 1 := by omega
  rw [e1, e2, drop_two a8 p.toNat (by omega) (by omega), impl_copyInts_eq _ (by simp), Option.bind_some]
  unfold pview
  rw [if_pos ⟨h1, by omega, by omega⟩, e2, e3]
  rfl
/- impl_Apart -/
theorem pview_small (a0 a1 : List (Int × Int)) (a2 : List (Int × (Int × (Int × (Int × Int))))) (a3 : List (Int × (Int × Int))) (a4 : List ByteArray) (a5 : List Int) (a6 : List (Int × ((Int × List Int) × (Int × (Int × Int))))) (a7 : List (List (Int × Int))) (a8 : List Int) (a9 : Int) (a10 : Bool) (a11 : List (Int × (Int × (Int × (Int × Int))))) (h : KSm a0 a1 a2 a3 a4 a5 a6 a7 a8 a9 a10 a11) (p : Int) : (pview a0 a5 a6 a8 p).1.2.1.2.length ≤ 1048576 ∧ (pview a0 a5 a6 a8 p).2.1.length ≤ 1048576 ∧ (pview a0 a5 a6 a8 p).2.2.length ≤ 1048576 := by
  unfold pview
  have h5 := h.h5
  split
  · rename_i hp
    have hlt6 : (p - 1).toNat < a6.length := by omega
    refine ⟨?_, ?_, ?_⟩
    · rw [List.getD_eq_getElem?_getD, List.getElem?_eq_getElem hlt6, Option.getD_some]
      exact h.p6 _ (List.getElem_mem hlt6)
    · simp only [List.length_take, List.length_drop]
      omega
    · simp
  · simp
theorem impl_Apart_eq (a0 a1 : List (Int × Int)) (a2 : List (Int × (Int × (Int × (Int × Int))))) (a3 : List (Int × (Int × Int))) (a4 : List ByteArray) (a5 : List Int) (a6 : List (Int × ((Int × List Int) × (Int × (Int × Int))))) (a7 : List (List (Int × Int))) (a8 : List Int) (a9 : Int) (a10 : Bool) (a11 : List (Int × (Int × (Int × (Int × Int))))) (h : KSm a0 a1 a2 a3 a4 a5 a6 a7 a8 a9 a10 a11) (hr : ∀ x ∈ a0, I64 x.1) (b0 b1 : List (Int × Int)) (b2 : List (Int × (Int × (Int × (Int × Int))))) (b3 : List (Int × (Int × Int))) (b4 : List ByteArray) (b5 : List Int) (b6 : List (Int × ((Int × List Int) × (Int × (Int × Int))))) (b7 : List (List (Int × Int))) (b8 : List Int) (b9 : Int) (b10 : Bool) (b11 : List (Int × (Int × (Int × (Int × Int))))) (h' : KSm b0 b1 b2 b3 b4 b5 b6 b7 b8 b9 b10 b11) (hr' : ∀ x ∈ b0, I64 x.1) (p : Int) : g_impl_Apart ((a0, a1, a2, a3, a4, a5, a6, a7, a8, a9, a10, a11), (b0, b1, b2, b3, b4, b5, b6, b7, b8, b9, b10, b11), p) = some (decide (pview a0 a5 a6 a8 p = pview b0 b5 b6 b8 p)) := by
  obtain ⟨s1, s2, s3⟩ := pview_small a0 a1 a2 a3 a4 a5 a6 a7 a8 a9 a10 a11 h p
  unfold g_impl_Apart impl_Apart_
  simp only []
  rw [impl_PartView_eq a0 a1 a2 a3 a4 a5 a6 a7 a8 a9 a10 a11 h hr p, Option.bind_some, impl_PartView_eq b0 b1 b2 b3 b4 b5 b6 b7 b8 b9 b10 b11 h' hr' p, Option.bind_some]
  generalize pview a0 a5 a6 a8 p = u at s1 s2 s3
  generalize pview b0 b5 b6 b8 p = v
  obtain ⟨u1, u2, u3⟩ := u
  obtain ⟨v1, v2, v3⟩ := v
  show ((g_impl_samePart ((u1.1, u1.2.1.1, u1.2.1.2, u1.2.2), (v1.1, v1.2.1.1, v1.2.1.2, v1.2.2))).bind fun v2_1 => if v2_1 = true then (g_slices_Equal___int_int_ (u2, v2)).bind fun v3_1 => if v3_1 = true then (g_slices_Equal___int_int_ (u3, v3)).bind fun v4 => some v4 else some false else some false) = _
  rw [impl_samePart_dec u1 v1 s1, slices_Equal___int_int__dec u2 v2 s2, slices_Equal___int_int__dec u3 v3 s3]
  simp only [Option.bind_some]
  repeat' split
  all_goals simp_all
/- spec_l19Same -/
theorem spec_l19Same_dec (l m : List Int) (hl : l.length ≤ 1048576) : g_spec_l19Same (l, m) = some (decide (l = m)) := by
  refine evG_eq ?_
  unfold spec_l19Same_
  refine ev_dom (fun h => ?_) (fun h => ?_)
  case refine_2 =>
    have : decide (l = m) = false := decide_eq_false (fun e => h (by rw [e]))
    rw [this]
    exact ev_some
  have hlm : l.length = m.length := by omega
  have key : ∀ (d i : Nat), i + d = l.length → l.take i = m.take i → Ev (fun k => spec_l19Same_L4 k ((i : Int), l, m, ())) (decide (l = m)) := by
    intro d
    induction d with
    | zero =>
      intro i hi ht
      have hd : decide (l = m) = true := by
        refine decide_eq_true ?_
        rw [List.take_of_length_le (by omega), List.take_of_length_le (by omega)] at ht
        exact ht
      rw [hd]
      refine Ev.step (fun q => by rw [spec_l19Same_L4]) ?_
      exact ev_neg (by omega) ev_some
    | succ d ih =>
      intro i hi ht
      have h1 : i < l.length := by omega
      have h2 : i < m.length := by omega
      refine Ev.step (fun q => by rw [spec_l19Same_L4]) ?_
      refine ev_pos (by omega) (ev_pos (by omega) (ev_pos (by omega) (ev_pos (by omega) (ev_pos (by omega) ?_))))
      rw [getD_lt h1, getD_lt h2, w64_succ (by omega)]
      refine ev_dom (fun he => ?_) (fun he => ?_)
      · exact ih (i + 1) (by omega) (by rw [List.take_succ_eq_append_getElem h1, List.take_succ_eq_append_getElem h2, ht, he])
      · have hd : decide (l = m) = false := decide_eq_false (fun e => he (by subst e; rfl))
        rw [hd]
        exact ev_some
  exact key l.length 0 (by omega) rfl
/- spec_l01In -/
theorem spec_l01In_eq (a b c : Int) : g_spec_l01In (a, b, c) = some (decide (b ≤ a ∧ a ≤ c)) := by
  show (if b ≤ a then some (decide (a ≤ c)) else some false) = _
  split
  · rename_i h; refine eq_dec ?_; rw [decide_eq_true_iff]; omega
  · rename_i h; exact dec_no (by omega)
/- spec_l04At -/
-- needs: impl_cellAt
theorem spec_l04At_lt (l : List Int) (b s : Int) (i : Nat) (hl : l.length ≤ 1048576) (hb : I64 b) (h : i < cnt l.length b s) : g_spec_l04At (l, (b, s), (i : Int)) = some (b + i) := by
  unfold cnt at h
  unfold I64 at hb
  split at h
  · rename_i h0
    unfold g_spec_l04At spec_l04At_
    simp only [spec_l01In_eq, Option.bind_some]
    rw [w64 (n := ((List.length l : Nat) : Int) - 1) (by omega) (by omega), if_neg (by omega), if_neg (by omega), if_pos (decide_eq_true (by omega)), w64 (by omega) (by omega), if_neg (by omega), w64 (by omega) (by omega)]
  · omega
theorem spec_l04At_ge (l : List Int) (b s : Int) (i : Nat) (hl : l.length ≤ 1048576) (hb : I64 b) (h : cnt l.length b s ≤ i) : g_spec_l04At (l, (b, s), (i : Int)) = some (-1) := by
  unfold cnt at h
  unfold I64 at hb
  unfold g_spec_l04At spec_l04At_
  simp only [spec_l01In_eq, Option.bind_some]
  rw [w64 (n := ((List.length l : Nat) : Int) - 1) (by omega) (by omega), if_neg (by omega)]
  by_cases h1 : s ≤ i
  · rw [if_pos h1]
  · rw [if_neg h1]
    by_cases h2 : 0 ≤ b ∧ b ≤ ((List.length l : Nat) : Int) - 1
    · rw [if_pos (decide_eq_true h2), w64 (by omega) (by omega), if_pos]
      rw [if_pos h2.1] at h
      omega
    · rw [if_neg (by simpa using h2)]
/- spec_CellsOf -/
-- needs: impl_CellsOf
theorem spec_CellsOf_eq (l : List Int) (b s : Int) (hl : l.length ≤ 1048576) (hb : I64 b) : g_spec_CellsOf (l, (b, s)) = some ((l.drop b.toNat).take (cnt l.length b s)) := by
  refine evG_eq ?_
  unfold spec_CellsOf_
  have hc : cnt l.length b s ≤ min s.toNat l.length := by unfold cnt; split <;> omega
  have key : ∀ (d i : Nat), i + d = min s.toNat l.length → Ev (fun k => spec_CellsOf_L3 (fun _ => g_spec_l04At) k ((i : Int), l, b, s, (l.drop b.toNat).take (min i (cnt l.length b s)), ())) ((l.drop b.toNat).take (cnt l.length b s)) := by
    intro d
    induction d with
    | zero =>
      intro i hi
      refine Ev.step (fun q => by rw [spec_CellsOf_L3]) ?_
      rw [Nat.min_eq_right (by omega)]
      refine ev_dom (fun h1 => ?_) (fun h1 => ev_some)
      exact ev_neg (by omega) ev_some
    | succ d ih =>
      intro i hi
      refine Ev.step (fun q => by rw [spec_CellsOf_L3]) ?_
      refine ev_pos (by omega) (ev_pos (by omega) ?_)
      by_cases hlt : i < cnt l.length b s
      · obtain ⟨_, h0, h1, h2⟩ := impl_cellAt_lt l b s i hl hb hlt
        refine ev_bind (spec_l04At_lt l b s i hl hb hlt) (ev_pos (by omega) ?_)
        rw [w64_succ (by omega), Nat.min_eq_left (by omega)]
        refine ev_pos (by omega) (ev_pos (by omega) (ev_pos ?_ ?_))
        · simp only [List.length_take, List.length_cons, List.length_nil]
          omega
        · rw [take_next l b i h0 h1]
          have := ih (i + 1) (by omega)
          rw [Nat.min_eq_left (by omega)] at this
          exact this
      · refine ev_bind (spec_l04At_ge l b s i hl hb (by omega)) (ev_neg (by omega) ?_)
        rw [w64_succ (by omega), Nat.min_eq_right (by omega)]
        have := ih (i + 1) (by omega)
        rw [Nat.min_eq_right (by omega)] at this
        exact this
  have := key (min s.toNat l.length) 0 (by omega)
  rw [Nat.min_eq_left (by omega)] at this
  exact this
/- spec_l06Copy -/
theorem spec_l06Copy_eq (p : Int) (l : List Int) (hl : l.length ≤ 1048576) : g_spec_l06Copy (p, l) = some (p, l) := by
  show (if (((List.length ([] : List Int) + List.length l : Nat) : Int) * ((8 : Nat) : Int)) ≤ 140737488355328 then some (p, (([] : List Int) ++ l)) else none) = _
  rw [if_pos (by simp only [List.length_nil]; omega)]
  rfl
/- spec_PartView -/
-- needs: impl_PartView
theorem spec_PartView_eq (a0 a1 : List (Int × Int)) (a2 : List (Int × (Int × (Int × (Int × Int))))) (a3 : List (Int × (Int × Int))) (a4 : List ByteArray) (a5 : List Int) (a6 : List (Int × ((Int × List Int) × (Int × (Int × Int))))) (a7 : List (List (Int × Int))) (a8 : List Int) (a9 : Int) (a10 : Bool) (a11 : List (Int × (Int × (Int × (Int × Int))))) (h : KSm a0 a1 a2 a3 a4 a5 a6 a7 a8 a9 a10 a11) (hr : ∀ x ∈ a0, I64 x.1) (p : Int) : g_spec_PartView ((a0, a1, a2, a3, a4, a5, a6, a7, a8, a9, a10, a11), p) = some (flatP (pview a0 a5 a6 a8 p)) := by
  have q6 := h.h6
  have q8 := h.h8
  unfold g_spec_PartView spec_PartView_
  simp only [spec_l01In_eq, Option.bind_some]
  by_cases h1 : 1 ≤ p ∧ p ≤ ((List.length a6 : Nat) : Int)
  case neg =>
    rw [if_neg (by simpa using h1)]
    unfold pview
    rw [if_neg (fun q => h1 q.1)]
    rfl
  rw [if_pos (decide_eq_true h1)]
  by_cases h2 : ((List.length a0 : Nat) : Int) < p
  · rw [if_pos h2]
    unfold pview
    rw [if_neg (fun q => by omega)]
    rfl
  rw [if_neg h2, w64 (n := 2 * p) (by omega) (by omega)]
  by_cases h3 : ((List.length a8 : Nat) : Int) < 2 * p
  · rw [if_pos h3]
    unfold pview
    rw [if_neg (fun q => by omega)]
    rfl
  rw [if_neg h3, w64 (n := p - 1) (by omega) (by omega), w64 (n := 2 * p - 2) (by omega) (by omega), w64 (n := 2 * p - 1) (by omega) (by omega)]
  have hlt6 : (p - 1).toNat < a6.length := by omega
  have hlt0 : (p - 1).toNat < a0.length := by omega
  have hst : (a6.getD (p - 1).toNat (0, ((0, []), (0, (0, 0))))).2.1.2.length ≤ 1048576 := by
    rw [List.getD_eq_getElem?_getD, List.getElem?_eq_getElem hlt6, Option.getD_some]
    exact h.p6 _ (List.getElem_mem hlt6)
  have hrg : I64 (a0.getD (p - 1).toNat (0, 0)).1 := by
    rw [List.getD_eq_getElem?_getD, List.getElem?_eq_getElem hlt0, Option.getD_some]
    exact hr _ (List.getElem_mem hlt0)
  rw [if_pos (by omega), if_pos (by omega)]
  rw [show (a6.getD (p - 1).toNat (0, ((0, []), (0, (0, 0))))).2.1 = ((a6.getD (p - 1).toNat (0, ((0, []), (0, (0, 0))))).2.1.1, (a6.getD (p - 1).toNat (0, ((0, []), (0, (0, 0))))).2.1.2) from rfl, spec_l06Copy_eq _ _ hst, Option.bind_some]
  rw [if_pos (by omega), if_pos (by omega), if_pos (by omega), if_pos (by omega), if_pos (by omega), if_pos (by omega)]
  rw [show a0.getD (p - 1).toNat (0, 0) = ((a0.getD (p - 1).toNat (0, 0)).1, (a0.getD (p - 1).toNat (0, 0)).2) from rfl, spec_CellsOf_eq a5 _ _ h.h5 hrg, Option.bind_some]
  unfold pview
  rw [if_pos ⟨h1, by omega, by omega⟩]
  rfl
/- spec_Apart -/
-- needs: impl_Apart
theorem spec_Apart_eq (a0 a1 : List (Int × Int)) (a2 : List (Int × (Int × (Int × (Int × Int))))) (a3 : List (Int × (Int × Int))) (a4 : List ByteArray) (a5 : List Int) (a6 : List (Int × ((Int × List Int) × (Int × (Int × Int))))) (a7 : List (List (Int × Int))) (a8 : List Int) (a9 : Int) (a10 : Bool) (a11 : List (Int × (Int × (Int × (Int × Int))))) (h : KSm a0 a1 a2 a3 a4 a5 a6 a7 a8 a9 a10 a11) (hr : ∀ x ∈ a0, I64 x.1) (b0 b1 : List (Int × Int)) (b2 : List (Int × (Int × (Int × (Int × Int))))) (b3 : List (Int × (Int × Int))) (b4 : List ByteArray) (b5 : List Int) (b6 : List (Int × ((Int × List Int) × (Int × (Int × Int))))) (b7 : List (List (Int × Int))) (b8 : List Int) (b9 : Int) (b10 : Bool) (b11 : List (Int × (Int × (Int × (Int × Int))))) (h' : KSm b0 b1 b2 b3 b4 b5 b6 b7 b8 b9 b10 b11) (hr' : ∀ x ∈ b0, I64 x.1) (p : Int) : g_spec_Apart ((a0, a1, a2, a3, a4, a5, a6, a7, a8, a9, a10, a11), (b0, b1, b2, b3, b4, b5, b6, b7, b8, b9, b10, b11), p) = some (decide (pview a0 a5 a6 a8 p = pview b0 b5 b6 b8 p)) := by
  obtain ⟨s1, s2, s3⟩ := pview_small a0 a1 a2 a3 a4 a5 a6 a7 a8 a9 a10 a11 h p
  unfold g_spec_Apart spec_Apart_
  simp only []
  rw [spec_PartView_eq a0 a1 a2 a3 a4 a5 a6 a7 a8 a9 a10 a11 h hr p, Option.bind_some, spec_PartView_eq b0 b1 b2 b3 b4 b5 b6 b7 b8 b9 b10 b11 h' hr' p, Option.bind_some]
  generalize pview a0 a5 a6 a8 p = u at s1 s2 s3
  generalize pview b0 b5 b6 b8 p = v
  obtain ⟨⟨x1, ⟨x2, x3⟩, x4, x5, x6⟩, u2, u3⟩ := u
  obtain ⟨⟨y1, ⟨y2, y3⟩, y4, y5, y6⟩, v2, v3⟩ := v
  simp only [flatP]
  simp only [] at s1 s2 s3
  rw [spec_l19Same_dec x3 y3 s1, spec_l19Same_dec u2 v2 s2, spec_l19Same_dec u3 v3 s3]
  simp only [Option.bind_some]
  repeat' split
  all_goals simp_all
/- spec_PlanOk -/
theorem PlanOk_sat (l : List Reg) (hl : l.length ≤ 1048576) : Sat (g_spec_PlanOk l) (fun b => b = true → PlanP l) := by
  refine EvS.sat ?_
  unfold spec_PlanOk_
  have key : ∀ (d i : Nat), i + d = l.length → (∀ x ∈ l.take i, 1 ≤ x.1 ∧ x.1 ≤ 4) → EvS (fun k => spec_PlanOk_L2 (fun _ => g_spec_l01In) k ((i : Int), l, ())) (fun b => b = true → PlanP l) := by
    intro d
    induction d with
    | zero =>
      intro i hi h
      refine EvS.step (fun q => by rw [spec_PlanOk_L2]) (EvS.neg (by omega) ?_)
      refine EvS.eq (spec_l01In_eq _ _ _) (EvS.ret fun hb => ?_)
      have hb := of_decide_eq_true hb
      rw [List.take_of_length_le (by omega)] at h
      exact ⟨by omega, by omega, h⟩
    | succ d ih =>
      intro i hi h
      refine EvS.step (fun q => by rw [spec_PlanOk_L2]) (EvS.pos (by omega) (EvS.pos (by omega) (EvS.pos (by omega) ?_)))
      refine EvS.eq (spec_l01In_eq _ _ _) (EvS.ite (fun h1 => ?_) (fun _ => EvS.ret (fun q => by cases q)))
      refine EvS.pos (by omega) (EvS.pos (by omega) (EvS.eq (spec_l01In_eq _ _ _) (EvS.ite (fun h2 => ?_) (fun _ => EvS.ret (fun q => by cases q)))))
      rw [w64_succ (by omega)]
      exact ih (i + 1) (by omega) (take_all (by omega) h (of_decide_eq_true h1))
  exact key l.length 0 (by omega) (by simp)
/- spec_WindowAt -/
theorem WindowAt_sat (l : List Reg) (n : Int) (hl : l.length ≤ 1048576) : Sat (g_spec_WindowAt (l, n)) (fun w => g_spec_PlanOk l = some true → 0 ≤ n → w ∈ l) := by
  obtain ⟨b, e, hb⟩ := PlanOk_sat l hl
  show Sat ((g_spec_PlanOk l).bind _) _
  refine Sat.eq e (Sat.ite (fun h => ?_) (fun h => Sat.ret fun q => ?_))
  · have hP := hb h
    obtain ⟨p1, p2, p3⟩ := hP
    refine Sat.ite (fun h1 => Sat.ret fun _ q => by omega) (fun h1 => ?_)
    have m0 : 0 ≤ Int.tmod n (l.length : Int) := Int.tmod_nonneg _ (by omega)
    have m1 : Int.tmod n (l.length : Int) < (l.length : Int) := Int.tmod_lt_of_pos _ (by omega)
    refine Sat.neg (by omega) (Sat.pos m0 (Sat.pos m1 (Sat.ret fun _ _ => getD_mem m0 m1)))
  · rw [e] at q
    injection q with q
    exact absurd q h
/- spec_l04Copy -/
theorem l04Copy_eq (l : List Int) (hl : l.length ≤ 1048576) : g_spec_l04Copy l = some l := by
  show (if (((List.length ([] : List Int) + List.length l : Nat) : Int) * ((8 : Nat) : Int)) ≤ 140737488355328 then some (([] : List Int) ++ l) else none) = _
  rw [if_pos (by simp only [List.length_nil]; omega)]
  rfl
/- spec_l04Mod -/
theorem l04Mod_sat (n : Int) : Sat (g_spec_l04Mod n) (fun _ => True) := by
  unfold g_spec_l04Mod spec_l04Mod_
  refine Sat.neg (by decide) (Sat.ite (fun _ => Sat.ret trivial) (fun _ => Sat.ret trivial))
/- spec_LoadCell -/
theorem l04At_sat (l : List Int) (b s i : Int) (hl : l.length ≤ 1048576) : Sat (g_spec_l04At (l, (b, s), i)) (fun r => r < 0 ∨ (0 ≤ r ∧ r < (l.length : Int) ∧ r = b + i ∧ 0 ≤ i ∧ i < s)) := by
  have hw : wrap64 (((List.length l : Nat) : Int) - 1) = (l.length : Int) - 1 := w64 (by omega) (by omega)
  show Sat (if i < 0 then _ else _) _
  refine Sat.ite (fun _ => Sat.ret (.inl (by omega))) (fun h1 => Sat.ite (fun _ => Sat.ret (.inl (by omega))) (fun h2 => Sat.eq (spec_l01In_eq _ _ _) (Sat.ite (fun h3 => Sat.ite (fun _ => Sat.ret (.inl (by omega))) (fun h4 => Sat.ret (.inr ?_))) (fun _ => Sat.ret (.inl (by omega))))))
  have h3 := of_decide_eq_true h3
  rw [hw] at h3
  rw [w64 (n := ((List.length l : Nat) : Int) - b) (by omega) (by omega)] at h4
  rw [w64 (by omega) (by omega)]
  omega
theorem LoadCell_sat (l : List Int) (b s i : Int) (hl : l.length ≤ 1048576) : Sat (g_spec_LoadCell (l, (b, s), i)) (fun _ => True) := by
  show Sat ((g_spec_l04At (l, (b, s), i)).bind _) _
  refine Sat.bind (l04At_sat l b s i hl) fun v hv => Sat.ite (fun _ => Sat.ret trivial) (fun h => Sat.pos (by omega) (Sat.pos (by omega) (Sat.ret trivial)))
/- spec_StoreCell -/
-- needs: spec_LoadCell
/-- Cells are alike but for a region. -/
def SameBut (b s : Int) (l m : List Int) : Prop := m.length = l.length ∧ ∀ j : Nat, ¬ (b ≤ (j : Int) ∧ (j : Int) < b + s) → m[j]? = l[j]?
theorem SameBut.refl (b s : Int) (l : List Int) : SameBut b s l l := ⟨rfl, fun _ _ => rfl⟩
theorem SameBut.trans {b s : Int} {l m n : List Int} (h : SameBut b s l m) (k : SameBut b s m n) : SameBut b s l n := ⟨k.1.trans h.1, fun j hj => (k.2 j hj).trans (h.2 j hj)⟩
theorem SameBut.set {b s : Int} {l m : List Int} (h : SameBut b s l m) {k v : Int} (hk : 0 ≤ k ∧ b ≤ k ∧ k < b + s) : SameBut b s l (m.set k.toNat v) :=
  ⟨by rw [List.length_set]; exact h.1, fun j hj => by
    rw [List.getElem?_set_ne (fun e => hj (by omega))]
    exact h.2 j hj⟩
theorem StoreCell_sat (l : List Int) (b s i n : Int) (hl : l.length ≤ 1048576) : Sat (g_spec_StoreCell (l, (b, s), i, n)) (fun r => SameBut b s l r.1) := by
  show Sat ((g_spec_l04Copy l).bind _) _
  refine Sat.eq (l04Copy_eq l hl) (Sat.bind (l04At_sat l b s i hl) fun v hv => Sat.ite (fun _ => Sat.ret (.refl _ _ _)) (fun h => Sat.bind (l04Mod_sat n) fun x _ => Sat.pos (by omega) (Sat.pos (by omega) (Sat.ret ?_))))
  exact (SameBut.refl b s l).set (by omega)
/- spec_ClearCells -/
-- needs: spec_StoreCell
theorem ClearCells_sat (l : List Int) (b s : Int) (hl : l.length ≤ 1048576) : Sat (g_spec_ClearCells (l, (b, s))) (fun r => SameBut b s l r) := by
  refine EvS.sat ?_
  unfold spec_ClearCells_
  refine EvS.eq (l04Copy_eq l hl) ?_
  have key : ∀ (d i : Nat) (m : List Int), i + d = l.length → SameBut b s l m → EvS (fun k => spec_ClearCells_L3 (fun _ => g_spec_l04At) (fun _ => g_spec_l04Copy) k ((i : Int), l, b, s, [], m, ())) (fun r => SameBut b s l r) := by
    intro d
    induction d with
    | zero =>
      intro i m hi hm
      exact EvS.step (fun q => by rw [spec_ClearCells_L3]) (EvS.ite (fun _ => EvS.neg (by omega) (EvS.ret hm)) (fun _ => EvS.ret hm))
    | succ d ih =>
      intro i m hi hm
      have hml := hm.1
      refine EvS.step (fun q => by rw [spec_ClearCells_L3]) (EvS.ite (fun h1 => EvS.pos (by omega) (EvS.bind (l04At_sat l b s i hl) fun v hv => ?_)) (fun _ => EvS.ret hm))
      rw [w64_succ (by omega)]
      refine EvS.ite (fun h2 => EvS.pos h2 (EvS.pos (by omega) ?_)) (fun _ => ih (i + 1) m (by omega) hm)
      exact ih (i + 1) _ (by omega) (hm.set (by omega))
  exact key l.length 0 l (by omega) (.refl _ _ _)
/- spec_CpuOk -/
theorem CpuOk_sat (p : Int) (l : List Int) (hl : l.length ≤ 1048576) : Sat (g_spec_CpuOk (p, l)) (fun b => b = true → 0 ≤ p ∧ p ≤ 60 ∧ l.length ≤ 8) := by
  refine EvS.sat ?_
  unfold spec_CpuOk_
  have key : ∀ (d i : Nat), i + d = l.length → EvS (fun k => spec_CpuOk_L2 (fun _ => g_spec_l01In) k ((i : Int), l, p, ())) (fun b => b = true → 0 ≤ p ∧ p ≤ 60 ∧ l.length ≤ 8) := by
    intro d
    induction d with
    | zero =>
      intro i hi
      refine EvS.step (fun q => by rw [spec_CpuOk_L2]) (EvS.neg (by omega) ?_)
      refine EvS.eq (spec_l01In_eq _ _ _) (EvS.ite (fun h1 => EvS.ret fun hb => ?_) (fun _ => EvS.ret (fun q => by cases q)))
      have hb := of_decide_eq_true hb
      have h1 := of_decide_eq_true h1
      omega
    | succ d ih =>
      intro i hi
      refine EvS.step (fun q => by rw [spec_CpuOk_L2]) (EvS.pos (by omega) (EvS.pos (by omega) (EvS.pos (by omega) ?_)))
      refine EvS.eq (spec_l01In_eq _ _ _) (EvS.ite (fun h1 => ?_) (fun _ => EvS.ret (fun q => by cases q)))
      rw [w64_succ (by omega)]
      exact ih (i + 1) (by omega)
  exact key l.length 0 (by omega)
/- spec_Answer -/
theorem Answer_sat (p : Int) (l : List Int) (n : Int) (hl : l.length ≤ 1000000) : Sat (g_spec_Answer ((p, l), n)) (fun r => r.1.2.length ≤ l.length + 1 ∧ r.1.1 = p) := by
  show Sat ((g_spec_l06Copy (p, l)).bind _) _
  refine Sat.eq (spec_l06Copy_eq p l (by omega)) (Sat.bind (CpuOk_sat p l (by omega)) fun b _ => Sat.ite (fun _ => Sat.ite (fun _ => Sat.ret ⟨by show l.length ≤ _; omega, rfl⟩) (fun _ => Sat.bind (l04Mod_sat n) fun v _ => ?_)) (fun _ => Sat.ret ⟨by show l.length ≤ _; omega, rfl⟩))
  refine Sat.pos (by simp only [List.length_singleton]; omega) (Sat.ret ⟨?_, rfl⟩)
  show (l ++ [v]).length ≤ _
  simp
/- spec_CodeOk -/
theorem CodeOk_sat (l : List (Int × Int)) (hl : l.length ≤ 1048576) : Sat (g_spec_CodeOk l) (fun b => b = true → (∀ x ∈ l, (0 ≤ x.1 ∧ x.1 ≤ 255) ∧ 0 ≤ x.2 ∧ x.2 ≤ 255) ∧ l.length ≤ 60) := by
  refine EvS.sat ?_
  unfold spec_CodeOk_
  have key : ∀ (d i : Nat), i + d = l.length → (∀ x ∈ l.take i, (0 ≤ x.1 ∧ x.1 ≤ 255) ∧ 0 ≤ x.2 ∧ x.2 ≤ 255) → EvS (fun k => spec_CodeOk_L2 (fun _ => g_spec_l01In) k ((i : Int), l, ())) (fun b => b = true → (∀ x ∈ l, (0 ≤ x.1 ∧ x.1 ≤ 255) ∧ 0 ≤ x.2 ∧ x.2 ≤ 255) ∧ l.length ≤ 60) := by
    intro d
    induction d with
    | zero =>
      intro i hi h
      refine EvS.step (fun q => by rw [spec_CodeOk_L2]) (EvS.neg (by omega) (EvS.ret fun hb => ?_))
      have hb := of_decide_eq_true hb
      rw [List.take_of_length_le (by omega)] at h
      exact ⟨h, by omega⟩
    | succ d ih =>
      intro i hi h
      refine EvS.step (fun q => by rw [spec_CodeOk_L2]) (EvS.pos (by omega) (EvS.pos (by omega) (EvS.pos (by omega) ?_)))
      refine EvS.eq (spec_l01In_eq _ _ _) (EvS.ite (fun h1 => ?_) (fun _ => EvS.ret (fun q => by cases q)))
      refine EvS.pos (by omega) (EvS.pos (by omega) (EvS.eq (spec_l01In_eq _ _ _) (EvS.ite (fun h2 => ?_) (fun _ => EvS.ret (fun q => by cases q)))))
      rw [w64_succ (by omega)]
      exact ih (i + 1) (by omega) (take_all (by omega) h ⟨of_decide_eq_true h1, of_decide_eq_true h2⟩)
  exact key l.length 0 (by omega) (by simp)
/- spec_l06Needs -/
theorem l06Needs_sat (o : Int) (h0 : 0 ≤ o) (h1 : o ≤ 17) : Sat (g_spec_l06Needs o) (fun r => 0 ≤ r.1 ∧ r.1 ≤ 2 ∧ 0 ≤ r.2 ∧ r.2 ≤ 2 ∧ ((o = 2 ∨ o = 10 ∨ o = 11 ∨ o = 12 ∨ o = 13 ∨ o = 16) → r.1 = 1) ∧ ((o = 3 ∨ o = 4 ∨ o = 5 ∨ o = 6 ∨ o = 7 ∨ o = 8) → r.1 = 2)) := by
  have hl : ((List.length [0, 0, 1, 2, 2, 2, 2, 2, 2, 0, 1, 1, 1, 1, 0, 0, 1, 0] : Nat) : Int) = 18 := rfl
  show Sat (if 0 ≤ o then _ else _) _
  refine Sat.pos h0 (Sat.pos (by show o < 18; omega) (Sat.pos h0 (Sat.pos (by show o < 18; omega) (Sat.ret ?_))))
  have : o = 0 ∨ o = 1 ∨ o = 2 ∨ o = 3 ∨ o = 4 ∨ o = 5 ∨ o = 6 ∨ o = 7 ∨ o = 8 ∨ o = 9 ∨ o = 10 ∨ o = 11 ∨ o = 12 ∨ o = 13 ∨ o = 14 ∨ o = 15 ∨ o = 16 ∨ o = 17 := by omega
  rcases this with rfl | rfl | rfl | rfl | rfl | rfl | rfl | rfl | rfl | rfl | rfl | rfl | rfl | rfl | rfl | rfl | rfl | rfl <;> decide
/- spec_l06Sum -/
theorem l06Sum_sat (o a b : Int) : Sat (g_spec_l06Sum (o, a, b)) (fun _ => True) := by
  show Sat (if o = 4 then _ else _) _
  refine Sat.ite (fun _ => Sat.bind (l04Mod_sat _) fun _ _ => Sat.ret trivial) (fun _ => Sat.ite (fun _ => Sat.bind (l04Mod_sat _) fun _ _ => Sat.ret trivial) (fun _ => Sat.ite (fun _ => Sat.bind (l04Mod_sat _) fun _ _ => Sat.ret trivial) (fun _ => Sat.ite (fun _ => ?_) (fun _ => ?_))))
  · refine Sat.ite (fun _ => Sat.ret trivial) (fun h => Sat.neg h (Sat.ret trivial))
  · exact Sat.ite (fun _ => Sat.ret trivial) (fun _ => Sat.ret trivial)
/- spec_StepCpu -/
-- needs: spec_StoreCell
/-- What one instruction comes to, as far as it is needed. -/
def StepP (pc : Int) (cl : Nat) (b s : Int) (ar : List Int) : ((Int × List Int) × List Int × (Int × Int × Int × Int)) → Prop
  | ((q, st), ar', (_, po, _, tr)) => SameBut b s ar ar' ∧ (tr = 0 → 0 ≤ pc ∧ pc < (cl : Int) ∧ 0 ≤ po ∧ st.length ≤ 10 ∧ 0 ≤ q)
theorem StepP.trap {pc : Int} {cl : Nat} {b s : Int} {ar : List Int} {c : Int × List Int} {k p n t : Int} (ht : t ≠ 0) : StepP pc cl b s ar (c, ar, (k, p, n, t)) := ⟨.refl _ _ _, fun h => absurd h ht⟩
theorem StepCpu_sat (pc : Int) (st : List Int) (code : List (Int × Int)) (ar : List Int) (b s t : Int) (h1 : st.length ≤ 1000000) (h2 : code.length ≤ 1000000) (h3 : ar.length ≤ 1000000) :
    Sat (g_spec_StepCpu ((pc, st), code, ar, (b, s), t)) (StepP pc code.length b s ar) := by
  have e3 := l04Copy_eq ar (by omega)
  unfold g_spec_StepCpu spec_StepCpu_
  simp only [e3, Option.bind_some]
  refine Sat.eq (spec_l06Copy_eq pc st (by omega)) (Sat.bind (CpuOk_sat pc st (by omega)) fun v hv => Sat.ite (fun hc => ?_) (fun _ => Sat.ret (.trap (by decide))))
  obtain ⟨c0, c1, c2⟩ := hv hc
  refine Sat.bind (CodeOk_sat code (by omega)) fun v2 hv2 => Sat.ite (fun hc2 => ?_) (fun _ => Sat.ret (.trap (by decide)))
  obtain ⟨d0, d1⟩ := hv2 hc2
  refine Sat.ite (fun _ => Sat.ret (.trap (by decide))) (fun hl => Sat.pos (by omega) (Sat.pos (by omega) ?_))
  have hx := d0 _ (getD_mem (l := code) (i := pc) (z := (0, 0)) (by omega) (by omega))
  generalize List.getD code (Int.toNat pc) (0, 0) = x at hx ⊢
  obtain ⟨o, a⟩ := x
  obtain ⟨⟨o0, o1⟩, a0, a1⟩ := hx
  simp only [] at o0 o1 a0 a1 ⊢
  refine Sat.ite (fun _ => Sat.ret (.trap (by decide))) (fun ho => ?_)
  refine Sat.bind (l06Needs_sat o (by omega) (by omega)) fun v5 hv5 => ?_
  obtain ⟨tk, pu⟩ := v5
  obtain ⟨t0, t1, u0, u1, t2, t3⟩ := hv5
  simp only [] at t0 t1 u0 u1 t2 t3 ⊢
  refine Sat.ite (fun _ => Sat.ret (.trap (by decide))) (fun hn => ?_)
  have w1 : wrap64 (((List.length st : Nat) : Int) - tk) = (st.length : Int) - tk := w64 (by omega) (by omega)
  have w2 : wrap64 (((List.length st : Nat) : Int) - 1) = (st.length : Int) - 1 := w64 (by omega) (by omega)
  have w3 : wrap64 (((List.length st : Nat) : Int) - 2) = (st.length : Int) - 2 := w64 (by omega) (by omega)
  have w4 : wrap64 (((st.length : Int) - tk) + pu) = (st.length : Int) - tk + pu := w64 (by omega) (by omega)
  have w5 : wrap64 (pc + 1) = pc + 1 := w64 (by omega) (by omega)
  simp only [w1, w2, w3, w4, w5]
  have hbase : (([] : List Int) ++ (List.drop (Int.toNat 0) (List.take (Int.toNat ((st.length : Int) - tk)) st))).length ≤ 8 := by
    simp only [List.nil_append, List.length_drop, List.length_take]
    omega
  have hbase' : (List.drop (Int.toNat 0) (List.take (Int.toNat ((st.length : Int) - tk)) st)).length ≤ 8 := hbase
  generalize List.drop (Int.toNat 0) (List.take (Int.toNat ((st.length : Int) - tk)) st) = base at hbase hbase' ⊢
  have lf0 : ∀ (k p : Int) (m : List Int), m.length ≤ 10 → 0 ≤ p → ∀ (q n : Int), 0 ≤ q → StepP pc code.length b s ar ((q, m), ar, (k, p, n, 0)) := fun k p m hm hp q n hq => ⟨.refl _ _ _, fun _ => ⟨by omega, by omega, hp, hm, hq⟩⟩
  have lf1 : ∀ (k p : Int) (m : List Int) (ar' : List Int), SameBut b s ar ar' → m.length ≤ 10 → 0 ≤ p → ∀ (q n : Int), 0 ≤ q → StepP pc code.length b s ar ((q, m), ar', (k, p, n, 0)) := fun k p m ar' hs hm hp q n hq => ⟨hs, fun _ => ⟨by omega, by omega, hp, hm, hq⟩⟩
  repeat' (first
    | (with_reducible refine Sat.ite (fun _ => ?_) (fun _ => ?_))
    | (with_reducible refine Sat.ret (StepP.trap ?_); decide)
    | (with_reducible refine Sat.bind (l04Mod_sat _) fun _ _ => ?_)
    | (with_reducible refine Sat.bind (LoadCell_sat _ _ _ _ (Nat.le_trans h3 (by decide))) fun _ _ => ?_)
    | (with_reducible refine Sat.bind (StoreCell_sat _ _ _ _ _ (Nat.le_trans h3 (by decide))) fun _ hst => ?_)
    | (with_reducible refine Sat.bind (l06Sum_sat _ _ _) fun _ _ => ?_)
    | (with_reducible refine Sat.ret (lf0 _ _ _ ?_ ?_ _ _ ?_) <;> (try simp only [List.nil_append, List.length_append, List.length_singleton, List.length_cons, List.length_nil]) <;> omega)
    | (with_reducible refine Sat.ret (lf1 _ _ _ _ ‹_› ?_ ?_ _ _ ?_) <;> (try simp only [List.nil_append, List.length_append, List.length_singleton, List.length_cons, List.length_nil]) <;> omega)
    | (exfalso; simp only [List.nil_append, List.length_append, List.length_singleton, List.length_cons, List.length_nil] at *; omega))
/- spec_l07Answers -/
theorem l07Answers_sat (n : Int) : Sat (g_spec_l07Answers n) (fun _ => True) := by
  show Sat (if n = 13 then _ else _) _
  repeat' (first | refine Sat.ite (fun _ => ?_) (fun _ => ?_) | exact Sat.ret trivial)
/- spec_PortOk -/
theorem PortOk_sat (p : PortT) : Sat (g_spec_PortOk p) (fun b => b = true → p.2.2.2.1 ≤ 6) := by
  obtain ⟨a, b, c, d, e⟩ := p
  show Sat ((g_spec_l01In (b, (1, 4))).bind _) _
  refine Sat.eq (spec_l01In_eq _ _ _) (Sat.ite (fun _ => ?_) (fun _ => Sat.ret fun q => by cases q))
  refine Sat.eq (spec_l01In_eq _ _ _) (Sat.ite (fun _ => ?_) (fun _ => Sat.ret fun q => by cases q))
  refine Sat.ite (fun _ => Sat.ret fun q => by cases q) (fun _ => ?_)
  refine Sat.ite (fun _ => ?_) (fun _ => ?_)
  · refine Sat.eq (spec_l01In_eq _ _ _) (Sat.ite (fun h => Sat.ret fun _ => (of_decide_eq_true h).2) (fun _ => Sat.ret fun q => by cases q))
  · refine Sat.ite (fun _ => ?_) (fun _ => Sat.ret fun q => by cases q)
    refine Sat.ite (fun h => Sat.eq (spec_l01In_eq _ _ _) (Sat.ret fun _ => by show d ≤ 6; omega)) (fun _ => Sat.ret fun q => by cases q)
/- spec_l08Copy -/
theorem l08Copy_eq (l : LineT) (hl : l.length ≤ 1048576) : g_spec_l08Copy l = some l := by
  show (if (((List.length ([] : List (Int × Int)) + List.length l : Nat) : Int) * ((16 : Nat) : Int)) ≤ 140737488355328 then some (([] : List (Int × Int)) ++ l) else none) = _
  rw [if_pos (by simp only [List.length_nil]; omega)]
  rfl
/- spec_SendPort -/
theorem SendPort_sat (p : PortT) (l : LineT) (n t : Int) (hl : l.length ≤ 1000000) : Sat (g_spec_SendPort (p, l, n, t)) (fun r => r.1.length ≤ max l.length 6) := by
  obtain ⟨a, b, c, d, e⟩ := p
  show Sat ((g_spec_l08Copy l).bind _) _
  have app : ∀ m : Int × Int, (((List.length l + List.length [m] : Nat) : Int) * ((16 : Nat) : Int)) ≤ 140737488355328 := fun m => by simp only [List.length_singleton]; omega
  refine Sat.eq (l08Copy_eq l (by omega)) (Sat.bind (PortOk_sat _) fun v hv => Sat.ite (fun h1 => ?_) (fun h1 => ?_))
  · have hd : d ≤ 6 := hv h1
    refine Sat.ite (fun _ => Sat.ret (by show 1 ≤ max l.length 6; omega)) (fun _ => Sat.bind (PortOk_sat _) fun v2 hv2 => Sat.ite (fun h2 => ?_) (fun _ => Sat.ret (by show l.length ≤ _; omega)))
    refine Sat.ite (fun _ => Sat.ret (by show l.length ≤ _; omega)) (fun h3 => Sat.pos (app _) (Sat.ret ?_))
    show (l ++ [_]).length ≤ _
    simp only [List.length_append, List.length_singleton]
    omega
  · refine Sat.bind (PortOk_sat _) fun v2 hv2 => Sat.ite (fun h2 => ?_) (fun _ => Sat.ret (by show l.length ≤ _; omega))
    have hd : d ≤ 6 := hv2 h2
    refine Sat.ite (fun _ => Sat.ret (by show l.length ≤ _; omega)) (fun h3 => Sat.pos (app _) (Sat.ret ?_))
    show (l ++ [_]).length ≤ _
    simp only [List.length_append, List.length_singleton]
    omega
/- spec_TakePort -/
theorem TakePort_sat (p : PortT) (l : LineT) (t : Int) (hl : l.length ≤ 1000000) : Sat (g_spec_TakePort (p, l, t)) (fun r => r.1.length ≤ l.length) := by
  obtain ⟨a, b, c, d, e⟩ := p
  show Sat ((g_spec_l08Copy l).bind _) _
  refine Sat.eq (l08Copy_eq l (by omega)) (Sat.bind (PortOk_sat _) fun v hv => Sat.ite (fun h1 => ?_) (fun h1 => Sat.ret (Nat.le_refl _)))
  refine Sat.ite (fun _ => Sat.ret (Nat.le_refl _)) (fun h2 => ?_)
  refine Sat.pos (by omega) (Sat.pos (by omega) (Sat.ite (fun _ => ?_) (fun _ => ?_)))
  · refine Sat.pos (by omega) (Sat.pos (by omega) (Sat.pos ?_ (Sat.ret ?_)))
    · simp only [List.length_drop, List.length_take, List.length_nil]
      omega
    · show (([] : LineT) ++ _).length ≤ _
      simp only [List.nil_append, List.length_drop, List.length_take]
      omega
  · refine Sat.ite (fun _ => Sat.ite (fun _ => Sat.ret (Nat.le_refl _)) (fun _ => Sat.ite (fun _ => Sat.ret (Nat.le_refl _)) (fun _ => Sat.ret (Nat.le_refl _)))) (fun _ => Sat.ret (Nat.le_refl _))
/- spec_l12Effect -/
-- needs: spec_StoreCell
def EffP (p : Int) (a5 : List Int) (a6 : List PartT) (a7 : List LineT) (a8 : List Int) (a9 : Int) (a10 : Bool) : (List Int × Int × (Unit × Unit × Unit × Unit × Unit × List Int × List PartT × List LineT × List Int × Int × Bool × Unit)) → Prop
  | (ans, _, (_, _, _, _, _, b5, b6, b7, b8, b9, b10, _)) => ans.length ≤ 2 ∧ b5 = a5 ∧ b6 = a6 ∧ LnR a7 b7 ∧ OutR p a8 b8 ∧ b9 = a9 ∧ b10 = a10
theorem EffP.same {p : Int} {a5 : List Int} {a6 : List PartT} {a7 : List LineT} {a8 : List Int} {a9 : Int} {a10 : Bool} {ans : List Int} {t : Int} (h : ans.length ≤ 2) : EffP p a5 a6 a7 a8 a9 a10 (ans, t, ((), (), (), (), (), a5, a6, a7, a8, a9, a10, ())) := ⟨h, rfl, rfl, .refl _, .refl _ _, rfl, rfl⟩
theorem EffP.line {p : Int} {a5 : List Int} {a6 : List PartT} {a7 : List LineT} {a8 : List Int} {a9 : Int} {a10 : Bool} {ans : List Int} {t : Int} {i : Nat} {x : LineT} (h : ans.length ≤ 2) (hx : (∀ x ∈ a7, x.length ≤ 1000) → x.length ≤ 1000) : EffP p a5 a6 a7 a8 a9 a10 (ans, t, ((), (), (), (), (), a5, a6, a7.set i x, a8, a9, a10, ())) := ⟨h, rfl, rfl, .set hx, .refl _ _, rfl, rfl⟩
theorem l12Effect_sat (a0 a1 : List Reg) (a2 : List PortT) (a3 : List RuleT) (a4 : List ByteArray) (a5 : List Int) (a6 : List PartT) (a7 : List LineT) (a8 : List Int) (a9 : Int) (a10 : Bool) (a11 : List PortT) (p ki po nu : Int) (ins : List Int) (hp : 1 ≤ p ∧ p ≤ 4) (hpo : 0 ≤ po) (n7 : a7.length = a2.length) (n8 : a8.length = 8) (s7 : ∀ x ∈ a7, x.length ≤ 1000) :
    Sat (g_spec_l12Effect ((a0, a1, a2, a3, a4, a5, a6, a7, a8, a9, a10, a11), p, (ki, po, nu, 0), ins)) (EffP p a5 a6 a7 a8 a9 a10) := by
  have hw : wrap64 ((wrap64 ((wrap64 (2 * p)) - 2)) + (Int.tmod po 2)) = 2 * p - 2 + Int.tmod po 2 := by
    have : Int.tmod po 2 = po % 2 := Int.tmod_eq_emod_of_nonneg hpo
    rw [w64 (n := 2 * p) (by omega) (by omega), w64 (n := 2 * p - 2) (by omega) (by omega), w64 (by omega) (by omega)]
  have hm : Int.tmod po 2 = 0 ∨ Int.tmod po 2 = 1 := by
    have : Int.tmod po 2 = po % 2 := Int.tmod_eq_emod_of_nonneg hpo
    omega
  have hln : po < (a7.length : Int) → (List.getD a7 (Int.toNat po) ([] : List (Int × Int))).length ≤ 1000 := fun h => s7 _ (getD_mem hpo h)
  unfold g_spec_l12Effect spec_l12Effect_
  simp only [hw]
  repeat' (first
    | refine Sat.ite (fun _ => ?_) (fun _ => ?_)
    | refine Sat.ret (EffP.same (by simp))
    | (refine Sat.bind (SendPort_sat _ _ _ _ (Nat.le_trans (hln (by omega)) (by decide))) fun v hv => ?_)
    | (refine Sat.bind (TakePort_sat _ _ _ (Nat.le_trans (hln (by omega)) (by decide))) fun v hv => ?_)
    | (refine Sat.ret (EffP.line (by simp) fun _ => ?_); have := hln (by omega); omega)
    | (refine Sat.ret ⟨by simp, rfl, rfl, .refl _, (OutR.refl p a8).set (by omega) (by omega), rfl, rfl⟩)
    | (exfalso; omega))
/- spec_l12Step -/
/-- What a step leaves alone. -/
def TurnR (b s p : Int) (a5 : List Int) (a6 : List PartT) (a7 : List LineT) (a8 : List Int) (b5 : List Int) (b6 : List PartT) (b7 : List LineT) (b8 : List Int) : Prop := SameBut b s a5 b5 ∧ PtR p a6 b6 ∧ LnR a7 b7 ∧ OutR p a8 b8
theorem TurnR.refl (b s p : Int) (a5 : List Int) (a6 : List PartT) (a7 : List LineT) (a8 : List Int) : TurnR b s p a5 a6 a7 a8 a5 a6 a7 a8 := ⟨.refl _ _ _, .refl _ _, .refl _, .refl _ _⟩
theorem TurnR.trans {b s p : Int} {a5 b5 c5 : List Int} {a6 b6 c6 : List PartT} {a7 b7 c7 : List LineT} {a8 b8 c8 : List Int} (h : TurnR b s p a5 a6 a7 a8 b5 b6 b7 b8) (k : TurnR b s p b5 b6 b7 b8 c5 c6 c7 c8) : TurnR b s p a5 a6 a7 a8 c5 c6 c7 c8 :=
  ⟨h.1.trans k.1, h.2.1.trans k.2.1, h.2.2.1.trans k.2.2.1, h.2.2.2.trans k.2.2.2⟩
def StpP (b s p : Int) (a5 : List Int) (a6 : List PartT) (a7 : List LineT) (a8 : List Int) (a9 : Int) (a10 : Bool) : (Bool × Int × Int × (Unit × Unit × Unit × Unit × Unit × List Int × List PartT × List LineT × List Int × Int × Bool × Unit)) → Prop
  | (_, _, _, (_, _, _, _, _, b5, b6, b7, b8, b9, b10, _)) => TurnR b s p a5 a6 a7 a8 b5 b6 b7 b8 ∧ b9 = a9 ∧ b10 = a10
theorem l12Step_sat (a0 a1 : List Reg) (a2 : List PortT) (a3 : List RuleT) (a4 : List ByteArray) (a5 : List Int) (a6 : List PartT) (a7 : List LineT) (a8 : List Int) (a9 : Int) (a10 : Bool) (a11 : List PortT) (p : Int) (code : List (Int × Int)) (ins : List Int) (hp : 1 ≤ p ∧ p ≤ 4) (hp6 : p ≤ (a6.length : Int)) (hp0 : p ≤ (a0.length : Int)) (hc : code.length ≤ 1000) (h5 : a5.length ≤ 1000) (n7 : a7.length = a2.length) (n8 : a8.length = 8)
    (g6 : ∀ x ∈ a6, PGood x) (s7 : ∀ x ∈ a7, x.length ≤ 1000) :
    Sat (g_spec_l12Step ((a0, a1, a2, a3, a4, a5, a6, a7, a8, a9, a10, a11), p, code, ins)) (StpP (a0.getD (p - 1).toNat (0, 0)).1 (a0.getD (p - 1).toNat (0, 0)).2 p a5 a6 a7 a8 a9 a10) := by
  have hw : wrap64 (p - 1) = p - 1 := w64 (by omega) (by omega)
  have hx := g6 _ (getD_mem (l := a6) (i := p - 1) (z := (0, ((0, ([] : List Int)), (0, (0, 0))))) (by omega) (by omega))
  refine EvS.sat ?_
  unfold spec_l12Step_
  simp only [hw]
  refine EvS.pos (by omega) (EvS.pos (by omega) (EvS.pos (by omega) (EvS.pos (by omega) ?_)))
  have hcpu := StepCpu_sat (List.getD a6 (Int.toNat (p - 1)) (0, ((0, ([] : List Int)), (0, (0, 0))))).2.1.1 (List.getD a6 (Int.toNat (p - 1)) (0, ((0, ([] : List Int)), (0, (0, 0))))).2.1.2 code a5 (a0.getD (p - 1).toNat (0, 0)).1 (a0.getD (p - 1).toNat (0, 0)).2 a9 (Nat.le_trans hx.1 (by decide)) (by omega) (by omega)
  generalize hX : List.getD a6 (Int.toNat (p - 1)) (0, ((0, ([] : List Int)), (0, (0, 0)))) = X at hx hcpu ⊢
  obtain ⟨xs, ⟨xpc, xst⟩, xr⟩ := X
  generalize hR : a0.getD (p - 1).toNat (0, 0) = R at hcpu ⊢
  obtain ⟨b, s⟩ := R
  simp only [] at hx hcpu ⊢
  refine EvS.bind hcpu fun v hv => ?_
  obtain ⟨⟨npc, nst⟩, nar, ⟨ek, ep, en, et⟩⟩ := v
  obtain ⟨hsame, htr⟩ := hv
  simp only []
  have leaf : ∀ (d : Bool) (x y : Int), StpP b s p a5 a6 a7 a8 a9 a10 (d, x, y, ((), (), (), (), (), a5, a6, a7, a8, a9, a10, ())) := fun d x y => ⟨.refl _ _ _ _ _ _ _, rfl, rfl⟩
  refine EvS.ite (fun ht => ?_) (fun _ => EvS.ret (leaf _ _ _))
  obtain ⟨c0, c1, c2, c3, c4⟩ := htr ht
  subst ht
  refine EvS.pos c0 (EvS.pos c1 (EvS.ite (fun _ => ?_) (fun _ => ?_)))
  · refine EvS.pos (by omega) (EvS.pos (by omega) ?_)
    simp only [List.length_set]
    refine EvS.pos (by omega) (EvS.pos (by omega) (EvS.pos (by omega) (EvS.pos (by omega) (EvS.ret ?_))))
    have hget : List.getD (a6.set (p - 1).toNat (xs, ((0, ([] : List Int)), xr))) (p - 1).toNat (0, ((0, ([] : List Int)), (0, (0, 0)))) = (xs, ((0, ([] : List Int)), xr)) := getD_set_self (by omega)
    rw [hget]
    refine ⟨⟨.refl _ _ _, ?_, .refl _, .refl _ _⟩, rfl, rfl⟩
    exact ((PtR.refl p a6).set rfl (by omega) (fun _ => ⟨by simp, by simp⟩)).set rfl (by omega) (fun _ => ⟨by simp, by simp⟩)
  · have key : ∀ (ans : List Int) (b7 : List LineT) (b8 : List Int), ans.length ≤ 2 → LnR a7 b7 → OutR p a8 b8 → ∀ (d i : Nat), i + d = ans.length → ∀ (m : List Int), m.length ≤ 10 + i →
        EvS (fun k => spec_l12Step_L16 (fun _ => g_spec_Answer) (fun _ => g_spec_StepCpu) (fun _ => g_spec_l07Answers) (fun _ => g_spec_l12Effect) k (p, (i : Int), a9, a10, a0, a1, a2, a3, a4, a11, npc, ans, a5, a6, b7, b8, m, nar, ())) (StpP b s p a5 a6 a7 a8 a9 a10) := by
      intro ans b7 b8 hans hl7 ho8 d
      induction d with
      | zero =>
        intro i hi m hm
        refine EvS.step (fun q => by rw [spec_l12Step_L16]) (EvS.neg (by omega) ?_)
        rw [hw]
        refine EvS.pos (by omega) (EvS.pos (by omega) (EvS.ret ?_))
        exact ⟨⟨hsame, (PtR.refl p a6).set rfl (by omega) (fun _ => ⟨by show m.length ≤ 1000; omega, c4⟩), hl7, ho8⟩, rfl, rfl⟩
      | succ d ih =>
        intro i hi m hm
        refine EvS.step (fun q => by rw [spec_l12Step_L16]) (EvS.pos (by omega) (EvS.pos (by omega) (EvS.pos (by omega) (EvS.bind (Answer_sat npc m _ (by omega)) fun v hv => ?_))))
        obtain ⟨⟨vp, vm⟩, vb⟩ := v
        obtain ⟨h1, h2⟩ := hv
        have h2 : vp = npc := h2
        subst h2
        rw [w64_succ (by omega)]
        exact ih (i + 1) (by omega) vm (by have : vm.length ≤ m.length + 1 := h1; omega)
    have eff := l12Effect_sat a0 a1 a2 a3 a4 a5 a6 a7 a8 a9 a10 a11 p ek ep en ins hp c2 n7 n8 s7
    refine EvS.bind (l07Answers_sat _) fun v1 _ => ?_
    have go : EvS (fun k => (g_spec_l12Effect (((a0, a1, a2, a3, a4, a5, a6, a7, a8, a9, a10, a11), p, (ek, ep, en, 0), ins))).bind fun v2 =>
            if v2.2.1 = 0 then
             spec_l12Step_L16 (fun _ => g_spec_Answer) (fun _ => g_spec_StepCpu) (fun _ => g_spec_l07Answers) (fun _ => g_spec_l12Effect) k (p, 0, v2.2.2.2.2.2.2.2.2.2.2.2.1, v2.2.2.2.2.2.2.2.2.2.2.2.2.1, a0, a1, a2, a3, a4, a11, npc, v2.1, v2.2.2.2.2.2.2.2.1, v2.2.2.2.2.2.2.2.2.1, v2.2.2.2.2.2.2.2.2.2.1, v2.2.2.2.2.2.2.2.2.2.2.1, nst, nar, ())
            else
             some (true, (1, (v2.2.1, ((), ((), ((), ((), ((), (v2.2.2.2.2.2.2.2.1, (v2.2.2.2.2.2.2.2.2.1, (v2.2.2.2.2.2.2.2.2.2.1, (v2.2.2.2.2.2.2.2.2.2.2.1, (v2.2.2.2.2.2.2.2.2.2.2.2.1, (v2.2.2.2.2.2.2.2.2.2.2.2.2.1, ()))))))))))))))) (StpP b s p a5 a6 a7 a8 a9 a10) := by
      refine EvS.bind eff fun v2 hv2 => ?_
      obtain ⟨ans, tr, _, _, _, _, _, b5, b6, b7, b8, b9, b10, _⟩ := v2
      obtain ⟨q1, q2, q3, q4, q5, q6, q7⟩ := hv2
      subst q2 q3 q6 q7
      refine EvS.ite (fun _ => ?_) (fun _ => EvS.ret ⟨⟨.refl _ _ _, .refl _ _, q4, q5⟩, rfl, rfl⟩)
      exact key ans b7 b8 q1 q4 q5 ans.length 0 (by omega) nst (by omega)
    exact EvS.ite (fun _ => EvS.ite (fun _ => EvS.ret (leaf _ _ _)) (fun _ => go)) (fun _ => go)
/- spec_l12Act -/
-- needs: spec_l12Step
def ActP (b s p : Int) (a5 : List Int) (a6 : List PartT) (a7 : List LineT) (a8 : List Int) (a9 : Int) (a10 : Bool) : (Unit × Unit × Unit × Unit × Unit × List Int × List PartT × List LineT × List Int × Int × Bool × Unit) → Prop
  | (_, _, _, _, _, b5, b6, b7, b8, b9, b10, _) => SameBut b s a5 b5 ∧ PtR p a6 b6 ∧ b7 = a7 ∧ b8.length = 8 ∧ b9 = a9 ∧ (b10 = true ∨ (b10 = a10 ∧ OutR p a8 b8))
theorem l12Act_sat (a0 a1 : List Reg) (a2 : List PortT) (a3 : List RuleT) (a4 : List ByteArray) (a5 : List Int) (a6 : List PartT) (a7 : List LineT) (a8 : List Int) (a9 : Int) (a10 : Bool) (a11 : List PortT) (p act : Int) (hp : 1 ≤ p ∧ p ≤ 4) (hp6 : p ≤ (a6.length : Int)) (hp0 : p ≤ (a0.length : Int)) (h5 : a5.length ≤ 1000) (n8 : a8.length = 8) :
    Sat (g_spec_l12Act ((a0, a1, a2, a3, a4, a5, a6, a7, a8, a9, a10, a11), p, act)) (ActP (a0.getD (p - 1).toNat (0, 0)).1 (a0.getD (p - 1).toNat (0, 0)).2 p a5 a6 a7 a8 a9 a10) := by
  have hw : wrap64 (p - 1) = p - 1 := w64 (by omega) (by omega)
  have hw2 : wrap64 ((wrap64 (2 * p)) - 2) = 2 * p - 2 := by rw [w64 (n := 2 * p) (by omega) (by omega), w64 (by omega) (by omega)]
  have hw3 : wrap64 ((wrap64 (2 * p)) - 1) = 2 * p - 1 := by rw [w64 (n := 2 * p) (by omega) (by omega), w64 (by omega) (by omega)]
  have hX : (∀ x ∈ a6, PGood x) → PGood (List.getD a6 (Int.toNat (p - 1)) (0, ((0, ([] : List Int)), (0, (0, 0))))) := fun h => h _ (getD_mem (by omega) (by omega))
  have hclr := ClearCells_sat a5 (a0.getD (p - 1).toNat (0, 0)).1 (a0.getD (p - 1).toNat (0, 0)).2 (by omega)
  unfold g_spec_l12Act spec_l12Act_
  simp only [hw, hw2, hw3, List.length_set]
  generalize hXX : List.getD a6 (Int.toNat (p - 1)) (0, ((0, ([] : List Int)), (0, (0, 0)))) = X at hX ⊢
  obtain ⟨xs, ⟨xpc, xst⟩, x1, x2, x3⟩ := X
  generalize a0.getD (p - 1).toNat (0, 0) = R at hclr ⊢
  obtain ⟨b, s⟩ := R
  simp only [] at hX hclr ⊢
  have pc : ∀ (n1 : Int), PtR p a6 (a6.set (p - 1).toNat (xs, ((0, ([] : List Int)), (n1, (x2, x3))))) := fun n1 => (PtR.refl p a6).set rfl (by omega) fun _ => ⟨by simp, by simp⟩
  have ps : ∀ (n1 : Int), PtR p a6 (a6.set (p - 1).toNat (n1, ((xpc, xst), (x1, (x2, x3))))) := fun n1 => (PtR.refl p a6).set rfl (by omega) fun h => hX h
  have l1 : ∀ (n1 : Int) (b5 : List Int), SameBut b s a5 b5 → ActP b s p a5 a6 a7 a8 a9 a10 ((), (), (), (), (), b5, a6.set (p - 1).toNat (xs, ((0, ([] : List Int)), (n1, (x2, x3)))), a7, a8, a9, a10, ()) := fun n1 b5 h => ⟨h, pc n1, rfl, n8, rfl, .inr ⟨rfl, .refl _ _⟩⟩
  have l2 : ∀ (n1 : Int), ActP b s p a5 a6 a7 a8 a9 a10 ((), (), (), (), (), a5, a6.set (p - 1).toNat (n1, ((xpc, xst), (x1, (x2, x3)))), a7, (a8.set (2 * p - 2).toNat 0).set (2 * p - 1).toNat 0, a9, a10, ()) := fun n1 => ⟨.refl _ _ _, ps n1, rfl, by simp [n8], rfl, .inr ⟨rfl, ((OutR.refl p a8).set (.inl rfl) (by omega)).set (.inr rfl) (by omega)⟩⟩
  have l3 : ∀ (n1 : Int) (b8 : List Int), b8.length = 8 → ActP b s p a5 a6 a7 a8 a9 a10 ((), (), (), (), (), a5, a6.set (p - 1).toNat (n1, ((xpc, xst), (x1, (x2, x3)))), a7, b8, a9, true, ()) := fun n1 b8 h => ⟨.refl _ _ _, ps n1, rfl, h, rfl, .inl rfl⟩
  have l4 : ∀ (n1 : Int), ActP b s p a5 a6 a7 a8 a9 a10 ((), (), (), (), (), a5, a6.set (p - 1).toNat (n1, ((xpc, xst), (x1, (x2, x3)))), a7, a8, a9, a10, ()) := fun n1 => ⟨.refl _ _ _, ps n1, rfl, n8, rfl, .inr ⟨rfl, .refl _ _⟩⟩
  repeat' (first
    | (with_reducible refine Sat.ite (fun _ => ?_) (fun _ => ?_))
    | (with_reducible refine Sat.bind hclr fun _ hst => ?_)
    | (with_reducible exact Sat.ret (l1 _ _ ‹_›))
    | (with_reducible exact Sat.ret (l1 _ _ (SameBut.refl _ _ _)))
    | (with_reducible exact Sat.ret (l2 _))
    | (with_reducible refine Sat.ret (l3 _ _ ?_); (simp; done))
    | (with_reducible exact Sat.ret (l4 _))
    | (exfalso; omega)
    | exact absurd trivial ‹¬ True›)
/- spec_ActFor -/
theorem ActFor_sat (l : List RuleT) (p f s : Int) (hl : l.length ≤ 1048576) : Sat (g_spec_ActFor (l, p, f, s)) (fun _ => True) := by
  refine EvS.sat ?_
  unfold spec_ActFor_
  have key : ∀ (i : Nat) (a : Int), i ≤ l.length → EvS (fun k => spec_ActFor_L5 k (p, f, s, a, (i : Int) - 1, l, ())) (fun _ => True) := by
    intro i
    induction i with
    | zero =>
      intro a hi
      refine EvS.step (fun q => by rw [spec_ActFor_L5]) (EvS.neg (by omega) ?_)
      exact EvS.ite (fun _ => EvS.ite (fun _ => EvS.ret trivial) (fun _ => EvS.ret trivial)) (fun _ => EvS.ite (fun _ => EvS.ite (fun _ => EvS.ret trivial) (fun _ => EvS.ret trivial)) (fun _ => EvS.ret trivial))
    | succ i ih =>
      intro a hi
      have hw : wrap64 (((i + 1 : Nat) : Int) - 1 - 1) = (i : Int) - 1 := by rw [w64 (by omega) (by omega)]; omega
      refine EvS.step (fun q => by rw [spec_ActFor_L5]) ?_
      rw [hw]
      refine EvS.pos (by omega) (EvS.pos (by omega) (EvS.pos (by omega) (EvS.ite (fun _ => EvS.pos (by omega) (EvS.pos (by omega) (EvS.ite (fun _ => EvS.pos (by omega) (EvS.pos (by omega) (ih _ (by omega)))) (fun _ => ih a (by omega))))) (fun _ => ih a (by omega)))))
  have hw : wrap64 (((List.length l : Nat) : Int) - 1) = (l.length : Int) - 1 := w64 (by omega) (by omega)
  show EvS (fun k => if f = 1 then spec_ActFor_L5 k (p, f, s, 3, wrap64 (((List.length l : Nat) : Int) - 1), l, ()) else spec_ActFor_L5 k (p, f, s, 0, wrap64 (((List.length l : Nat) : Int) - 1), l, ())) _
  rw [hw]
  exact EvS.ite (fun _ => key l.length 3 (Nat.le_refl _)) (fun _ => key l.length 0 (Nat.le_refl _))
/- spec_CostOf -/
theorem CostOf_sat (n : Int) : Sat (g_spec_CostOf n) (fun c => 1 ≤ c ∧ c ≤ 4) := by
  show Sat (if n = 2 then _ else _) _
  repeat' (first | refine Sat.ite (fun _ => ?_) (fun _ => ?_) | exact Sat.ret ⟨by decide, by decide⟩)
/- spec_ReadCode -/
theorem ReadCode_sat (s : ByteArray) : Sat (g_spec_ReadCode s) (fun r => r.1.length ≤ 60 ∧ ∀ x ∈ r.1, 0 ≤ x.1) := by
  refine EvS.sat ?_
  unfold spec_ReadCode_
  refine EvS.neg (by omega) (EvS.ite (fun h2 => EvS.ite (fun _ => EvS.ret ⟨by simp, by simp⟩) (fun h3 => ?_)) (fun _ => EvS.ret ⟨by simp, by simp⟩))
  have hev : s.size % 2 = 0 := by
    rw [Int.tmod_eq_emod_of_nonneg (by omega)] at h2
    omega
  have key : ∀ (d i : Nat) (l : List (Int × Int)), 2 * i + 2 * d = s.size → l.length = i → (∀ x ∈ l, 0 ≤ x.1) → EvS (fun k => spec_ReadCode_L5 k (s, ((2 * i : Nat) : Int), l, ())) (fun r => r.1.length ≤ 60 ∧ ∀ x ∈ r.1, 0 ≤ x.1) := by
    intro d
    induction d with
    | zero =>
      intro i l hi hl hx
      exact EvS.step (fun q => by rw [spec_ReadCode_L5]) (EvS.neg (by omega) (EvS.ret ⟨by show l.length ≤ 60; omega, hx⟩))
    | succ d ih =>
      intro i l hi hl hx
      have w1 : wrap64 (((2 * i : Nat) : Int) + 1) = ((2 * i + 1 : Nat) : Int) := by rw [w64 (by omega) (by omega)]; omega
      have w2 : wrap64 (((2 * i : Nat) : Int) + 2) = ((2 * (i + 1) : Nat) : Int) := by rw [w64 (by omega) (by omega)]; omega
      refine EvS.step (fun q => by rw [spec_ReadCode_L5]) (EvS.pos (by omega) (EvS.pos (by omega) (EvS.pos (by omega) ?_)))
      rw [w1, w2]
      refine EvS.pos (by omega) (EvS.pos (by omega) (EvS.pos (by simp only [List.length_singleton]; omega) ?_))
      refine ih (i + 1) _ (by omega) (by simp [hl]) (fun x hxm => ?_)
      rw [List.mem_append, List.mem_singleton] at hxm
      rcases hxm with hxm | rfl
      · exact hx x hxm
      · show 0 ≤ wrap64 (byt s ((2 * i : Nat) : Int))
        rw [byt_lt (show 2 * i < s.size by omega)]
        have := u8_range ((bl s)[2 * i]'(by rw [bl_len]; omega))
        rw [w64 (by omega) (by omega)]
        exact this.1
  exact key (s.size / 2) 0 [] (by omega) rfl (by simp)
/- spec_l12Words -/
theorem l12Words_sat (l : List Int) (hl : l.length ≤ 1048576) : Sat (g_spec_l12Words l) (fun _ => True) := by
  refine EvS.sat ?_
  unfold spec_l12Words_
  have key : ∀ (d i : Nat), i + d = l.length → EvS (fun k => spec_l12Words_L2 (fun _ => g_spec_l01In) k ((i : Int), l, ())) (fun _ => True) := by
    intro d
    induction d with
    | zero =>
      intro i hi
      exact EvS.step (fun q => by rw [spec_l12Words_L2]) (EvS.neg (by omega) (EvS.ret trivial))
    | succ d ih =>
      intro i hi
      refine EvS.step (fun q => by rw [spec_l12Words_L2]) (EvS.pos (by omega) (EvS.pos (by omega) (EvS.pos (by omega) ?_)))
      refine EvS.eq (spec_l01In_eq _ _ _) (EvS.ite (fun h1 => ?_) (fun _ => EvS.ret trivial))
      rw [w64_succ (by omega)]
      exact ih (i + 1) (by omega)
  exact key l.length 0 (by omega)
/- spec_l11Parts -/
theorem l11Parts_sat (a0 a1 : List Reg) (a2 : List PortT) (a3 : List RuleT) (a4 : List ByteArray) (h1 : a1.length ≤ 1048576) (h2 : a2.length ≤ 1048576) (h3 : a3.length ≤ 1048576) :
    Sat (g_spec_l11Parts (a0, a1, a2, a3, a4)) (fun n => n = 0 → ∀ x ∈ a1, x.1 ≤ (a0.length : Int)) := by
  refine EvS.sat ?_
  unfold spec_l11Parts_
  have k3 : (∀ x ∈ a1, x.1 ≤ (a0.length : Int)) → ∀ (d i : Nat), i + d = a3.length → EvS (fun k => spec_l11Parts_L13 k (((List.length a0 : Nat) : Int), (i : Int), a0, a1, a2, a3, a4, ())) (fun n => n = 0 → ∀ x ∈ a1, x.1 ≤ (a0.length : Int)) := by
    intro hP d
    induction d with
    | zero =>
      intro i hi
      exact EvS.step (fun q => by rw [spec_l11Parts_L13]) (EvS.neg (by omega) (EvS.ret fun _ => hP))
    | succ d ih =>
      intro i hi
      refine EvS.step (fun q => by rw [spec_l11Parts_L13]) (EvS.pos (by omega) (EvS.pos (by omega) (EvS.pos (by omega) (EvS.ite (fun _ => EvS.ret (fun _ => hP)) (fun _ => ?_)))))
      rw [w64_succ (by omega)]
      exact ih (i + 1) (by omega)
  have k2 : (∀ x ∈ a1, x.1 ≤ (a0.length : Int)) → ∀ (d i : Nat), i + d = a2.length → EvS (fun k => spec_l11Parts_L8 k (((List.length a0 : Nat) : Int), (i : Int), a0, a1, a2, a3, a4, ())) (fun n => n = 0 → ∀ x ∈ a1, x.1 ≤ (a0.length : Int)) := by
    intro hP d
    induction d with
    | zero =>
      intro i hi
      refine EvS.step (fun q => by rw [spec_l11Parts_L8]) (EvS.neg (by omega) ?_)
      exact k3 hP a3.length 0 (by omega)
    | succ d ih =>
      intro i hi
      refine EvS.step (fun q => by rw [spec_l11Parts_L8]) (EvS.pos (by omega) (EvS.pos (by omega) (EvS.pos (by omega) (EvS.ite (fun _ => EvS.ret (fun _ => hP)) (fun _ => EvS.pos (by omega) (EvS.pos (by omega) (EvS.ite (fun _ => EvS.ret (fun _ => hP)) (fun _ => ?_))))))))
      rw [w64_succ (by omega)]
      exact ih (i + 1) (by omega)
  have k1 : ∀ (d i : Nat), i + d = a1.length → (∀ x ∈ a1.take i, x.1 ≤ (a0.length : Int)) → EvS (fun k => spec_l11Parts_L3 k (((List.length a0 : Nat) : Int), (i : Int), a0, a1, a2, a3, a4, ())) (fun n => n = 0 → ∀ x ∈ a1, x.1 ≤ (a0.length : Int)) := by
    intro d
    induction d with
    | zero =>
      intro i hi h
      rw [List.take_of_length_le (by omega)] at h
      refine EvS.step (fun q => by rw [spec_l11Parts_L3]) (EvS.neg (by omega) ?_)
      exact k2 h a2.length 0 (by omega)
    | succ d ih =>
      intro i hi h
      refine EvS.step (fun q => by rw [spec_l11Parts_L3]) (EvS.pos (by omega) (EvS.pos (by omega) (EvS.pos (by omega) (EvS.ite (fun _ => EvS.ret (fun q => by omega)) (fun hx => ?_)))))
      rw [w64_succ (by omega)]
      exact ih (i + 1) (by omega) (take_all (by omega) h (Int.not_lt.1 hx))
  exact k1 a1.length 0 (by omega) (by simp)
/- spec_RulesOk -/
theorem RulesOk_sat (l : List RuleT) (hl : l.length ≤ 1048576) : Sat (g_spec_RulesOk l) (fun _ => True) := by
  refine EvS.sat ?_
  unfold spec_RulesOk_
  have key : ∀ (d i : Nat), i + d = l.length → EvS (fun k => spec_RulesOk_L2 (fun _ => g_spec_l01In) k ((i : Int), l, ())) (fun _ => True) := by
    intro d
    induction d with
    | zero =>
      intro i hi
      exact EvS.step (fun q => by rw [spec_RulesOk_L2]) (EvS.neg (by omega) (EvS.ret trivial))
    | succ d ih =>
      intro i hi
      have inner : ∀ (e j : Nat) (x y z : Int), j + e = i → EvS (fun k => spec_RulesOk_L8 (fun _ => g_spec_l01In) k ((i : Int), (j : Int), l, x, y, z, ())) (fun _ => True) := by
        intro e
        induction e with
        | zero =>
          intro j x y z hj
          refine EvS.step (fun q => by rw [spec_RulesOk_L8]) (EvS.neg (by omega) ?_)
          rw [w64_succ (by omega)]
          exact ih (i + 1) (by omega)
        | succ e ihe =>
          intro j x y z hj
          refine EvS.step (fun q => by rw [spec_RulesOk_L8]) (EvS.pos (by omega) (EvS.pos (by omega) (EvS.pos (by omega) ?_)))
          rw [w64_succ (by omega)]
          exact EvS.ite (fun _ => EvS.pos (by omega) (EvS.pos (by omega) (EvS.ite (fun _ => EvS.ret trivial) (fun _ => ihe (j + 1) x y z (by omega))))) (fun _ => ihe (j + 1) x y z (by omega))
      refine EvS.step (fun q => by rw [spec_RulesOk_L2]) (EvS.pos (by omega) (EvS.pos (by omega) (EvS.pos (by omega) ?_)))
      refine EvS.eq (spec_l01In_eq _ _ _) (EvS.ite (fun h1 => ?_) (fun _ => EvS.ret trivial))
      refine EvS.eq (spec_l01In_eq _ _ _) (EvS.ite (fun h1 => ?_) (fun _ => EvS.ret trivial))
      refine EvS.eq (spec_l01In_eq _ _ _) (EvS.ite (fun h1 => ?_) (fun _ => EvS.ret trivial))
      exact EvS.ite (fun _ => EvS.ite (fun _ => EvS.ret trivial) (fun _ => inner i 0 _ _ _ (by omega))) (fun _ => inner i 0 _ _ _ (by omega))
  exact key l.length 0 (by omega)
/- spec_RegionsOk -/
def fitR (r : Reg) : Prop := 0 ≤ r.1 ∧ r.1 ≤ 63 ∧ 1 ≤ r.2 ∧ r.1 + r.2 ≤ 64
def apR (r q : Reg) : Prop := r.1 + r.2 ≤ q.1 ∨ q.1 + q.2 ≤ r.1
theorem RegionsOk_sat (l : List Reg) (hl : l.length ≤ 1048576) : Sat (g_spec_RegionsOk l) (fun b => b = true → RegsP l) := by
  refine EvS.sat ?_
  unfold spec_RegionsOk_
  have key : ∀ (d i : Nat), i + d = l.length → (∀ a, a < i → fitR (l.getD a (0, 0))) → (∀ a b, a < b → b < i → apR (l.getD a (0, 0)) (l.getD b (0, 0))) →
      EvS (fun k => spec_RegionsOk_L2 (fun _ => g_spec_l01In) k ((i : Int), l, ())) (fun b => b = true → RegsP l) := by
    intro d
    induction d with
    | zero =>
      intro i hi hF hA
      refine EvS.step (fun q => by rw [spec_RegionsOk_L2]) (EvS.neg (by omega) (EvS.eq (spec_l01In_eq _ _ _) (EvS.ret fun hb => ?_)))
      have hb := of_decide_eq_true hb
      have hg : ∀ a r, l[a]? = some r → a < l.length ∧ l.getD a (0, 0) = r := fun a r h => by
        have h1 := (List.getElem?_eq_some_iff.1 h).1
        exact ⟨h1, by rw [List.getD_eq_getElem?_getD, h]; rfl⟩
      refine ⟨by omega, fun a r h => ?_, fun a b r q hab h1 h2 => ?_⟩
      · obtain ⟨h3, h4⟩ := hg a r h
        have := hF a (by omega)
        rw [h4] at this
        exact this
      · obtain ⟨h3, h4⟩ := hg a r h1
        obtain ⟨h5, h6⟩ := hg b q h2
        have := hA a b hab (by omega)
        rw [h4, h6] at this
        exact this
    | succ d ih =>
      intro i hi hF hA
      refine EvS.step (fun q => by rw [spec_RegionsOk_L2]) (EvS.pos (by omega) (EvS.pos (by omega) (EvS.pos (by omega) ?_)))
      rw [Int.toNat_natCast]
      refine EvS.eq (spec_l01In_eq _ _ _) (EvS.ite (fun h1 => ?_) (fun _ => EvS.ret (fun q => by cases q)))
      have h1 := of_decide_eq_true h1
      refine EvS.eq (spec_l01In_eq _ _ _) (EvS.ite (fun h2 => ?_) (fun _ => EvS.ret (fun q => by cases q)))
      have h2 := of_decide_eq_true h2
      rw [w64 (n := 64 - (l.getD i (0, 0)).1) (by omega) (by omega)] at h2
      have hfi : fitR (l.getD i (0, 0)) := by unfold fitR; omega
      have inner : ∀ (e j : Nat), j + e = i → (∀ a, a < j → apR (l.getD a (0, 0)) (l.getD i (0, 0))) → EvS (fun k => spec_RegionsOk_L8 (fun _ => g_spec_l01In) k ((i : Int), (j : Int), l, (l.getD i (0, 0)).1, (l.getD i (0, 0)).2, ())) (fun b => b = true → RegsP l) := by
        intro e
        induction e with
        | zero =>
          intro j hj hJ
          refine EvS.step (fun q => by rw [spec_RegionsOk_L8]) (EvS.neg (by omega) ?_)
          rw [w64_succ (by omega)]
          refine ih (i + 1) (by omega) (fun a ha => ?_) (fun a b hab hb => ?_)
          · by_cases hai : a = i
            · rw [hai]; exact hfi
            · exact hF a (by omega)
          · by_cases hbi : b = i
            · rw [hbi]; exact hJ a (by omega)
            · exact hA a b hab (by omega)
        | succ e ihe =>
          intro j hj hJ
          have hfj := hF j (by omega)
          unfold fitR at hfj hfi
          have nxt : apR (l.getD j (0, 0)) (l.getD i (0, 0)) → EvS (fun k => spec_RegionsOk_L8 (fun _ => g_spec_l01In) k ((i : Int), ((j : Int) + 1), l, (l.getD i (0, 0)).1, (l.getD i (0, 0)).2, ())) (fun b => b = true → RegsP l) := fun hap => by
            refine ihe (j + 1) (by omega) (fun a ha => ?_)
            by_cases haj : a = j
            · rw [haj]; exact hap
            · exact hJ a (by omega)
          refine EvS.step (fun q => by rw [spec_RegionsOk_L8]) (EvS.pos (by omega) (EvS.pos (by omega) (EvS.pos (by omega) (EvS.pos (by omega) (EvS.pos (by omega) ?_)))))
          rw [Int.toNat_natCast, w64 (n := (l.getD j (0, 0)).1 + (l.getD j (0, 0)).2) (by omega) (by omega), w64 (n := (l.getD i (0, 0)).1 + (l.getD i (0, 0)).2) (by omega) (by omega), w64_succ (by omega)]
          refine EvS.ite (fun h3 => EvS.pos (by omega) (EvS.pos (by omega) (EvS.ite (fun _ => EvS.ret (fun q => by cases q)) (fun h4 => nxt ?_)))) (fun h3 => nxt ?_)
          · unfold apR; omega
          · unfold apR; omega
      exact inner i 0 (by omega) (fun a ha => by omega)
  exact key l.length 0 (by omega) (fun a ha => by omega) (fun a b _ hb => by omega)
/- spec_SetupFault -/
theorem SetupFault_sat (a0 a1 : List Reg) (a2 : List PortT) (a3 : List RuleT) (a4 : List ByteArray) (h0 : a0.length ≤ 1048576) (h1 : a1.length ≤ 1048576) (h2 : a2.length ≤ 1048576) (h3 : a3.length ≤ 1048576) (h4 : a4.length ≤ 1048576) :
    Sat (g_spec_SetupFault (a0, a1, a2, a3, a4)) (fun n => n = 0 → RegsP a0 ∧ PlanP a1 ∧ g_spec_PlanOk a1 = some true ∧ (∀ x ∈ a1, x.1 ≤ (a0.length : Int)) ∧ a4.length = a0.length) := by
  refine EvS.sat ?_
  unfold spec_SetupFault_
  refine EvS.bind (RegionsOk_sat a0 h0) fun r hr => EvS.ite (fun hr1 => ?_) (fun _ => EvS.ret fun q => by omega)
  obtain ⟨p, ep, hp⟩ := PlanOk_sat a1 h1
  refine EvS.eq ep (EvS.ite (fun hp1 => ?_) (fun _ => EvS.ret fun q => by omega))
  have hR := hr hr1
  have hP := hp hp1
  rw [hp1] at ep
  have k2 : a4.length = a0.length → ∀ (d i : Nat), i + d = a4.length → EvS (fun k => spec_SetupFault_L15 (fun _ => g_spec_PlanOk) (fun _ => g_spec_PortOk) (fun _ => g_spec_ReadCode) (fun _ => g_spec_RegionsOk) (fun _ => g_spec_RulesOk) (fun _ => g_spec_l11Parts) k ((i : Int), a0, a1, a2, a3, a4, ()))
      (fun n => n = 0 → RegsP a0 ∧ PlanP a1 ∧ g_spec_PlanOk a1 = some true ∧ (∀ x ∈ a1, x.1 ≤ (a0.length : Int)) ∧ a4.length = a0.length) := by
    intro hc d
    induction d with
    | zero =>
      intro i hi
      exact EvS.step (fun q => by rw [spec_SetupFault_L15]) (EvS.neg (by omega) (EvS.bind (l11Parts_sat a0 a1 a2 a3 a4 h1 h2 h3) fun n hn => EvS.ret fun q => ⟨hR, hP, ep, hn q, hc⟩))
    | succ d ih =>
      intro i hi
      refine EvS.step (fun q => by rw [spec_SetupFault_L15]) (EvS.pos (by omega) (EvS.pos (by omega) (EvS.pos (by omega) (EvS.bind (ReadCode_sat _) fun v _ => EvS.ite (fun _ => ?_) (fun _ => EvS.ret fun q => by omega)))))
      rw [w64_succ (by omega)]
      exact ih (i + 1) (by omega)
  have k1 : ∀ (d i : Nat), i + d = a2.length → EvS (fun k => spec_SetupFault_L6 (fun _ => g_spec_PlanOk) (fun _ => g_spec_PortOk) (fun _ => g_spec_ReadCode) (fun _ => g_spec_RegionsOk) (fun _ => g_spec_RulesOk) (fun _ => g_spec_l11Parts) k ((i : Int), a0, a1, a2, a3, a4, ()))
      (fun n => n = 0 → RegsP a0 ∧ PlanP a1 ∧ g_spec_PlanOk a1 = some true ∧ (∀ x ∈ a1, x.1 ≤ (a0.length : Int)) ∧ a4.length = a0.length) := by
    intro d
    induction d with
    | zero =>
      intro i hi
      refine EvS.step (fun q => by rw [spec_SetupFault_L6]) (EvS.neg (by omega) (EvS.bind (RulesOk_sat a3 h3) fun v _ => ?_))
      exact EvS.ite (fun _ => EvS.ite (fun hc => k2 (by omega) a4.length 0 (by omega)) (fun _ => EvS.ret fun q => by omega)) (fun _ => EvS.ret fun q => by omega)
    | succ d ih =>
      intro i hi
      refine EvS.step (fun q => by rw [spec_SetupFault_L6]) (EvS.pos (by omega) (EvS.pos (by omega) (EvS.pos (by omega) (EvS.bind (PortOk_sat _) fun v _ => EvS.ite (fun _ => EvS.ite (fun _ => EvS.ret fun q => by omega) (fun _ => ?_)) (fun _ => EvS.ret fun q => by omega)))))
      rw [w64_succ (by omega)]
      exact ih (i + 1) (by omega)
  exact k1 a2.length 0 (by omega)
/- spec_KernelOk -/
/-- What a right kernel is, as far as it is needed. -/
structure KOK (a0 a1 : List Reg) (a2 : List PortT) (a5 : List Int) (a6 : List PartT) (a7 : List LineT) (a8 : List Int) (a9 : Int) : Prop where
  regs : RegsP a0
  plan : PlanP a1
  planT : g_spec_PlanOk a1 = some true
  parts : ∀ x ∈ a1, x.1 ≤ (a0.length : Int)
  n5 : a5.length = 64
  n6 : a6.length = a0.length
  n7 : a7.length = a2.length
  n8 : a8.length = 8
  turn : 0 ≤ a9
  pcs : ∀ x ∈ a6, 0 ≤ x.2.1.1
theorem KernelOk_sat (a0 a1 : List Reg) (a2 : List PortT) (a3 : List RuleT) (a4 : List ByteArray) (a5 : List Int) (a6 : List PartT) (a7 : List LineT) (a8 : List Int) (a9 : Int) (a10 : Bool) (a11 : List PortT) (hk : KSm a0 a1 a2 a3 a4 a5 a6 a7 a8 a9 a10 a11) :
    Sat (g_spec_KernelOk (a0, a1, a2, a3, a4, a5, a6, a7, a8, a9, a10, a11)) (fun b => b = true → KOK a0 a1 a2 a5 a6 a7 a8 a9 ∧ a4.length = a0.length) := by
  have h0 := hk.h0
  have h1 := hk.h1
  have h2 := hk.h2
  have h3 := hk.h3
  have h4 := hk.h4
  have h5 := hk.h5
  have h6 := hk.h6
  have h7 := hk.h7
  have h8 := hk.h8
  have p6 := hk.p6
  refine EvS.sat ?_
  unfold spec_KernelOk_
  refine EvS.bind (SetupFault_sat a0 a1 a2 a3 a4 h0 h1 h2 h3 h4) fun n hn => EvS.ite (fun hn0 => ?_) (fun _ => EvS.ret fun q => by cases q)
  obtain ⟨r1, r2, r3, r4, r5⟩ := hn hn0
  refine EvS.ite (fun c5 => EvS.bind (l12Words_sat a5 h5) fun v1 _ => EvS.ite (fun _ => ?_) (fun _ => EvS.ret fun q => by cases q)) (fun _ => EvS.ret fun q => by cases q)
  refine EvS.ite (fun c6 => EvS.ite (fun c7 => EvS.ite (fun c8 => EvS.bind (l12Words_sat a8 h8) fun v2 _ => EvS.ite (fun _ => ?_) (fun _ => EvS.ret fun q => by cases q)) (fun _ => EvS.ret fun q => by cases q)) (fun _ => EvS.ret fun q => by cases q)) (fun _ => EvS.ret fun q => by cases q)
  refine EvS.eq (spec_l01In_eq _ _ _) (EvS.ite (fun c9 => ?_) (fun _ => EvS.ret fun q => by cases q))
  have c9 := of_decide_eq_true c9
  have fin : (∀ x ∈ a6, 0 ≤ x.2.1.1) → KOK a0 a1 a2 a5 a6 a7 a8 a9 ∧ a4.length = a0.length := fun hp => ⟨⟨r1, r2, r3, r4, by omega, by omega, by omega, by omega, c9.1, hp⟩, r5⟩
  have k2 : (∀ x ∈ a6, 0 ≤ x.2.1.1) → ∀ (d i : Nat), i + d = a7.length → EvS (fun k => spec_KernelOk_L10 (fun _ => g_spec_CpuOk) (fun _ => g_spec_SetupFault) (fun _ => g_spec_l01In) (fun _ => g_spec_l12Words) k ((i : Int), a0, a1, a2, a3, a4, a5, a6, a7, a8, a11, a9, a10, ())) (fun b => b = true → KOK a0 a1 a2 a5 a6 a7 a8 a9 ∧ a4.length = a0.length) := by
    intro hpc d
    induction d with
    | zero =>
      intro i hi
      exact EvS.step (fun q => by rw [spec_KernelOk_L10]) (EvS.neg (by omega) (EvS.ret fun _ => fin hpc))
    | succ d ih =>
      intro i hi
      refine EvS.step (fun q => by rw [spec_KernelOk_L10]) ?_
      rw [w64_succ (by omega)]
      have hih := ih (i + 1) (by omega)
      repeat' (first | refine EvS.pos (by omega) ?_ | exact hih | refine EvS.ite (fun _ => EvS.ret fun q => by cases q) (fun _ => ?_))
  have k1 : ∀ (d i : Nat), i + d = a6.length → (∀ x ∈ a6.take i, 0 ≤ x.2.1.1) → EvS (fun k => spec_KernelOk_L4 (fun _ => g_spec_CpuOk) (fun _ => g_spec_SetupFault) (fun _ => g_spec_l01In) (fun _ => g_spec_l12Words) k ((i : Int), a0, a1, a2, a3, a4, a5, a6, a7, a8, a11, a9, a10, ())) (fun b => b = true → KOK a0 a1 a2 a5 a6 a7 a8 a9 ∧ a4.length = a0.length) := by
    intro d
    induction d with
    | zero =>
      intro i hi hpc
      refine EvS.step (fun q => by rw [spec_KernelOk_L4]) (EvS.neg (by omega) ?_)
      rw [List.take_of_length_le (by omega)] at hpc
      exact k2 hpc a7.length 0 (by omega)
    | succ d ih =>
      intro i hi hpc
      refine EvS.step (fun q => by rw [spec_KernelOk_L4]) (EvS.pos (by omega) (EvS.pos (by omega) (EvS.pos (by omega) ?_)))
      rw [w64_succ (by omega)]
      have hm := p6 _ (getD_mem (l := a6) (i := (i : Int)) (z := (0, ((0, ([] : List Int)), (0, (0, 0))))) (by omega) (by omega))
      refine EvS.eq (spec_l01In_eq _ _ _) (EvS.ite (fun _ => ?_) (fun _ => EvS.ret fun q => by cases q))
      refine EvS.bind (CpuOk_sat _ _ hm) fun v hv => EvS.ite (fun hc => ?_) (fun _ => EvS.ret fun q => by cases q)
      refine EvS.eq (spec_l01In_eq _ _ _) (EvS.ite (fun _ => ?_) (fun _ => EvS.ret fun q => by cases q))
      refine EvS.eq (spec_l01In_eq _ _ _) (EvS.ite (fun _ => ?_) (fun _ => EvS.ret fun q => by cases q))
      exact EvS.eq (spec_l01In_eq _ _ _) (EvS.ite (fun _ => ih (i + 1) (by omega) (take_all (by omega) hpc (hv hc).1)) (fun _ => EvS.ret fun q => by cases q))
  exact k1 a6.length 0 (by omega) (by simp)
/- spec_l12Setup -/
theorem l12Setup_eq (a0 a1 : List Reg) (a2 : List PortT) (a3 : List RuleT) (a4 : List ByteArray) (h0 : a0.length ≤ 1048576) (h1 : a1.length ≤ 1048576) (h2 : a2.length ≤ 1048576) (h3 : a3.length ≤ 1048576) (h4 : a4.length ≤ 1048576) : g_spec_l12Setup (a0, a1, a2, a3, a4) = some (a0, a1, a2, a3, a4) := by
  unfold g_spec_l12Setup spec_l12Setup_
  simp only [List.length_nil, List.nil_append]
  rw [if_pos (by omega), if_pos (by omega), if_pos (by omega), if_pos (by omega), if_pos (by omega)]
/- spec_l12Copy -/
theorem l12Copy_eq (a0 a1 : List Reg) (a2 : List PortT) (a3 : List RuleT) (a4 : List ByteArray) (a5 : List Int) (a6 : List PartT) (a7 : List LineT) (a8 : List Int) (a9 : Int) (a10 : Bool) (a11 : List PortT) (hk : KSm a0 a1 a2 a3 a4 a5 a6 a7 a8 a9 a10 a11) : g_spec_l12Copy (a0, a1, a2, a3, a4, a5, a6, a7, a8, a9, a10, a11) = some (a0, a1, a2, a3, a4, a5, a6, a7, a8, a9, a10, a11) := by
  have h0 := hk.h0
  have h1 := hk.h1
  have h2 := hk.h2
  have h3 := hk.h3
  have h4 := hk.h4
  have h5 := hk.h5
  have h6 := hk.h6
  have h7 := hk.h7
  have h8 := hk.h8
  have h11 := hk.h11
  have p6 := hk.p6
  have p7 := hk.p7
  have k2 : ∀ (d i : Nat), i + d = a7.length → Ev (fun k => spec_l12Copy_L13 (fun _ => g_spec_l04Copy) (fun _ => g_spec_l06Copy) (fun _ => g_spec_l08Copy) (fun _ => g_spec_l12Setup) k ((i : Int), a0, a1, a2, a3, a4, a5, a6, a7, a8, a11, a9, a10, 0, false, a9, a10, [], [], [], [], [], [], [], [], [], [], a0, a1, a2, a3, a4, a5, a6, a7.take i, ())) (a0, a1, a2, a3, a4, a5, a6, a7, a8, a9, a10, a11) := by
    intro d
    induction d with
    | zero =>
      intro i hi
      rw [List.take_of_length_le (by omega)]
      refine Ev.step (fun q => by rw [spec_l12Copy_L13]) (ev_neg (by omega) (ev_pos (by simp only [List.length_nil]; omega) (ev_pos (by simp only [List.length_nil]; omega) ?_)))
      simp only [List.nil_append]
      exact ev_some
    | succ d ih =>
      intro i hi
      have hm := p7 _ (getD_mem (l := a7) (i := (i : Int)) (z := ([] : List (Int × Int))) (by omega) (by omega))
      refine Ev.step (fun q => by rw [spec_l12Copy_L13]) (ev_pos (by omega) (ev_pos (by omega) (ev_pos (by omega) (ev_bind (l08Copy_eq _ hm) ?_))))
      refine ev_pos (by simp only [List.length_take, List.length_singleton]; omega) ?_
      rw [w64_succ (by omega), take_nxt (by omega)]
      exact ih (i + 1) (by omega)
  have k1 : ∀ (d i : Nat), i + d = a6.length → Ev (fun k => spec_l12Copy_L6 (fun _ => g_spec_l04Copy) (fun _ => g_spec_l06Copy) (fun _ => g_spec_l08Copy) (fun _ => g_spec_l12Setup) k ((i : Int), a0, a1, a2, a3, a4, a5, a6, a7, a8, a11, a9, a10, 0, false, a9, a10, [], [], [], [], [], [], [], [], [], [], a0, a1, a2, a3, a4, a5, a6.take i, ())) (a0, a1, a2, a3, a4, a5, a6, a7, a8, a9, a10, a11) := by
    intro d
    induction d with
    | zero =>
      intro i hi
      rw [List.take_of_length_le (by omega)]
      refine Ev.step (fun q => by rw [spec_l12Copy_L6]) (ev_neg (by omega) ?_)
      exact k2 a7.length 0 (by omega)
    | succ d ih =>
      intro i hi
      have hm := p6 _ (getD_mem (l := a6) (i := (i : Int)) (z := (0, ((0, ([] : List Int)), (0, (0, 0))))) (by omega) (by omega))
      refine Ev.step (fun q => by rw [spec_l12Copy_L6]) (ev_pos (by omega) (ev_pos (by omega) (ev_pos (by omega) (ev_bind (spec_l06Copy_eq _ _ hm) ?_))))
      refine ev_pos (by simp only [List.length_take, List.length_singleton]; omega) ?_
      rw [w64_succ (by omega)]
      have e := take_nxt (l := a6) (i := i) (z := (0, ((0, ([] : List Int)), (0, (0, 0))))) (by omega)
      have hih := ih (i + 1) (by omega)
      rw [← e] at hih
      exact hih
  refine evG_eq ?_
  unfold spec_l12Copy_
  exact ev_bind (l12Setup_eq a0 a1 a2 a3 a4 h0 h1 h2 h3 h4) (ev_bind (l04Copy_eq a5 h5) (k1 a6.length 0 (by omega)))
/- spec_RunPart -/
def RunP (a0 a1 : List Reg) (a2 : List PortT) (a3 : List RuleT) (a4 : List ByteArray) (a5 : List Int) (a6 : List PartT) (a7 : List LineT) (a8 : List Int) (a9 : Int) (a10 : Bool) (a11 : List PortT) (p : Int) (r : KernT × Int × Int) : Prop := ∃ b5 b6 b7 b8, r.1 = (a0, a1, a2, a3, a4, b5, b6, b7, b8, a9, a10, a11) ∧ TurnR (a0.getD (p - 1).toNat (0, 0)).1 (a0.getD (p - 1).toNat (0, 0)).2 p a5 a6 a7 a8 b5 b6 b7 b8
theorem RunPart_sat (a0 a1 : List Reg) (a2 : List PortT) (a3 : List RuleT) (a4 : List ByteArray) (a5 : List Int) (a6 : List PartT) (a7 : List LineT) (a8 : List Int) (a9 : Int) (a10 : Bool) (a11 : List PortT) (hk : KSm a0 a1 a2 a3 a4 a5 a6 a7 a8 a9 a10 a11) (hK : KOK a0 a1 a2 a5 a6 a7 a8 a9) (s7 : ∀ x ∈ a7, x.length ≤ 1000) (g6 : ∀ x ∈ a6, PGood x) (p bu : Int) (ins : List Int) (hp : 1 ≤ p ∧ p ≤ 4) (hp0 : p ≤ (a0.length : Int)) :
    Sat (g_spec_RunPart ((a0, a1, a2, a3, a4, a5, a6, a7, a8, a9, a10, a11), p, bu, ins)) (RunP a0 a1 a2 a3 a4 a5 a6 a7 a8 a9 a10 a11 p) := by
  have hw : wrap64 (p - 1) = p - 1 := w64 (by omega) (by omega)
  have n6 := hK.n6
  have n5 := hK.n5
  have n7 := hK.n7
  have n8 := hK.n8
  have same : ∀ (x y : Int), RunP a0 a1 a2 a3 a4 a5 a6 a7 a8 a9 a10 a11 p ((a0, a1, a2, a3, a4, a5, a6, a7, a8, a9, a10, a11), x, y) := fun x y => ⟨a5, a6, a7, a8, rfl, .refl _ _ _ _ _ _ _⟩
  have key : ∀ (code : List (Int × Int)), code.length ≤ 60 → ∀ (n : Nat) (left : Int) (b5 : List Int) (b6 : List PartT) (b7 : List LineT) (b8 : List Int), left ≤ (n : Int) → left ≤ 1000 → TurnR (a0.getD (p - 1).toNat (0, 0)).1 (a0.getD (p - 1).toNat (0, 0)).2 p a5 a6 a7 a8 b5 b6 b7 b8 →
      EvS (fun k => spec_RunPart_L8 (fun _ => g_spec_CostOf) (fun _ => g_spec_KernelOk) (fun _ => g_spec_ReadCode) (fun _ => g_spec_l01In) (fun _ => g_spec_l12Copy) (fun _ => g_spec_l12Step) k (p, left, ins, 0, false, a9, a10, code, [], [], [], [], [], [], [], [], [], [], a0, a1, a2, a3, a4, b5, b6, b7, b8, a11, ())) (RunP a0 a1 a2 a3 a4 a5 a6 a7 a8 a9 a10 a11 p) := by
    intro code hcode n
    induction n with
    | zero =>
      intro left b5 b6 b7 b8 hn hl hT
      have hb6 := hT.2.1.1
      have hg := hT.2.1.2.2 g6 _ (getD_mem (l := b6) (i := p - 1) (z := (0, ((0, ([] : List Int)), (0, (0, 0))))) (by omega) (by omega))
      have lf : ∀ (x y : Int), RunP a0 a1 a2 a3 a4 a5 a6 a7 a8 a9 a10 a11 p ((a0, a1, a2, a3, a4, b5, b6, b7, b8, a9, a10, a11), x, y) := fun x y => ⟨b5, b6, b7, b8, rfl, hT⟩
      refine EvS.step (fun q => by rw [spec_RunPart_L8]) ?_
      rw [hw]
      refine EvS.pos (by omega) (EvS.pos (by omega) (EvS.ite (fun _ => EvS.pos hg.2 (EvS.pos ‹_› (EvS.bind (CostOf_sat _) fun c hc => EvS.pos (by omega) (EvS.ret (lf _ _))))) (fun _ => EvS.pos (by omega) (EvS.ret (lf _ _)))))
    | succ n ih =>
      intro left b5 b6 b7 b8 hn hl hT
      have hb5 := hT.1.1
      have hb6 := hT.2.1.1
      have hb7 := hT.2.2.1.1
      have hb8 := hT.2.2.2.1
      have hgg := hT.2.1.2.2 g6
      have hg := hgg _ (getD_mem (l := b6) (i := p - 1) (z := (0, ((0, ([] : List Int)), (0, (0, 0))))) (by omega) (by omega))
      have lf : ∀ (x y : Int), RunP a0 a1 a2 a3 a4 a5 a6 a7 a8 a9 a10 a11 p ((a0, a1, a2, a3, a4, b5, b6, b7, b8, a9, a10, a11), x, y) := fun x y => ⟨b5, b6, b7, b8, rfl, hT⟩
      have stp := l12Step_sat a0 a1 a2 a3 a4 b5 b6 b7 b8 a9 a10 a11 p code ins hp (by omega) hp0 (by omega) (by omega) (by omega) (by omega) hgg (hT.2.2.1.2 s7)
      have nxt : ∀ (c : Int), 1 ≤ c → c ≤ left → ∀ v, StpP (a0.getD (p - 1).toNat (0, 0)).1 (a0.getD (p - 1).toNat (0, 0)).2 p b5 b6 b7 b8 a9 a10 v → EvS (fun k => if v.1 = true then
          some ((a0, (a1, (a2, (a3, (a4, (v.2.2.2.2.2.2.2.2.1, (v.2.2.2.2.2.2.2.2.2.1, (v.2.2.2.2.2.2.2.2.2.2.1, (v.2.2.2.2.2.2.2.2.2.2.2.1, (v.2.2.2.2.2.2.2.2.2.2.2.2.1, (v.2.2.2.2.2.2.2.2.2.2.2.2.2.1, a11))))))))))), (v.2.1, v.2.2.1))
         else
          spec_RunPart_L8 (fun _ => g_spec_CostOf) (fun _ => g_spec_KernelOk) (fun _ => g_spec_ReadCode) (fun _ => g_spec_l01In) (fun _ => g_spec_l12Copy) (fun _ => g_spec_l12Step) k (p, (wrap64 (left - c)), ins, 0, false, v.2.2.2.2.2.2.2.2.2.2.2.2.1, v.2.2.2.2.2.2.2.2.2.2.2.2.2.1, code, [], [], [], [], [], [], [], [], [], [], a0, a1, a2, a3, a4, v.2.2.2.2.2.2.2.2.1, v.2.2.2.2.2.2.2.2.2.1, v.2.2.2.2.2.2.2.2.2.2.1, v.2.2.2.2.2.2.2.2.2.2.2.1, a11, ())) (RunP a0 a1 a2 a3 a4 a5 a6 a7 a8 a9 a10 a11 p) := by
        intro c h1 h2 v hv
        obtain ⟨ov, x, y, _, _, _, _, _, c5, c6, c7, c8, c9, c10, _⟩ := v
        obtain ⟨hT2, e9, e10⟩ := hv
        subst e9 e10
        rw [w64 (n := left - c) (by omega) (by omega)]
        exact EvS.ite (fun _ => EvS.ret ⟨c5, c6, c7, c8, rfl, hT.trans hT2⟩) (fun _ => ih (left - c) c5 c6 c7 c8 (by omega) (by omega) (hT.trans hT2))
      refine EvS.step (fun q => by rw [spec_RunPart_L8]) ?_
      rw [hw]
      refine EvS.pos (by omega) (EvS.pos (by omega) (EvS.ite (fun _ => EvS.pos hg.2 (EvS.pos ‹_› (EvS.bind (CostOf_sat _) fun c hc => ?_))) (fun _ => ?_)))
      · exact EvS.ite (fun _ => EvS.ret (lf _ _)) (fun h => EvS.bind stp fun v hv => nxt c hc.1 (by omega) v hv)
      · exact EvS.ite (fun _ => EvS.ret (lf _ _)) (fun h => EvS.bind stp fun v hv => nxt 1 (by omega) (by omega) v hv)
  refine EvS.sat ?_
  unfold spec_RunPart_
  refine EvS.eq (l12Copy_eq a0 a1 a2 a3 a4 a5 a6 a7 a8 a9 a10 a11 hk) (EvS.bind (KernelOk_sat a0 a1 a2 a3 a4 a5 a6 a7 a8 a9 a10 a11 hk) fun v1 hv1 => EvS.ite (fun h1 => ?_) (fun _ => EvS.ret (same _ _)))
  have n4 := (hv1 h1).2
  refine EvS.eq (spec_l01In_eq _ _ _) (EvS.ite (fun _ => ?_) (fun _ => EvS.ret (same _ _)))
  rw [hw]
  refine EvS.pos (by omega) (EvS.pos (by omega) (EvS.bind (ReadCode_sat _) fun v3 hv3 => ?_))
  exact EvS.ite (fun _ => key v3.1 hv3.1 1000 1000 a5 a6 a7 a8 (by omega) (by omega) (.refl _ _ _ _ _ _ _)) (fun _ => key v3.1 hv3.1 1000 bu a5 a6 a7 a8 (by omega) (by omega) (.refl _ _ _ _ _ _ _))
/- spec_TurnOf -/
-- needs: impl_PartView spec_l12Act spec_RunPart
theorem getD_eq_of {α : Type} {l m : List α} {i : Nat} {z : α} (h : m[i]? = l[i]?) : l.getD i z = m.getD i z := by
  rw [List.getD_eq_getElem?_getD, List.getD_eq_getElem?_getD, h]
theorem cnt_le (n : Nat) (b s : Int) : cnt n b s ≤ s.toNat := by
  unfold cnt
  split <;> omega
theorem view_keep {a0 : List Reg} {a5 b5 : List Int} {a6 b6 : List PartT} {a7 b7 : List LineT} {a8 b8 : List Int} (hR : RegsP a0) {p q : Int} (hp : 1 ≤ p ∧ p ≤ (a0.length : Int)) (hne : q ≠ p)
    (h : TurnR (a0.getD (p - 1).toNat (0, 0)).1 (a0.getD (p - 1).toNat (0, 0)).2 p a5 a6 a7 a8 b5 b6 b7 b8) : pview a0 a5 a6 a8 q = pview a0 b5 b6 b8 q := by
  obtain ⟨h5, h6, h7, h8⟩ := h
  unfold pview
  rw [h6.1, h8.1, h5.1]
  by_cases hc : (1 ≤ q ∧ q ≤ (a6.length : Int)) ∧ q ≤ (a0.length : Int) ∧ 2 * q ≤ (a8.length : Int)
  · rw [if_pos hc, if_pos hc]
    obtain ⟨⟨c1, c2⟩, c3, c4⟩ := hc
    have e1 : a6.getD (q - 1).toNat (0, ((0, []), (0, (0, 0)))) = b6.getD (q - 1).toNat (0, ((0, []), (0, (0, 0)))) := getD_eq_of (h6.2.1 _ (by omega))
    have e3 : a8.getD (2 * q - 2).toNat 0 = b8.getD (2 * q - 2).toNat 0 := getD_eq_of (h8.2 _ (by omega) (by omega))
    have e4 : a8.getD (2 * q - 1).toNat 0 = b8.getD (2 * q - 1).toNat 0 := getD_eq_of (h8.2 _ (by omega) (by omega))
    rw [e1, e3, e4]
    have hq : a0[(q - 1).toNat]? = some (a0.getD (q - 1).toNat (0, 0)) := by
      rw [List.getD_eq_getElem?_getD, List.getElem?_eq_getElem (by omega)]; rfl
    have hpp : a0[(p - 1).toNat]? = some (a0.getD (p - 1).toNat (0, 0)) := by
      rw [List.getD_eq_getElem?_getD, List.getElem?_eq_getElem (by omega)]; rfl
    have fq := hR.fit _ _ hq
    have fp := hR.fit _ _ hpp
    have hap : (a0.getD (q - 1).toNat (0, 0)).1 + (a0.getD (q - 1).toNat (0, 0)).2 ≤ (a0.getD (p - 1).toNat (0, 0)).1 ∨ (a0.getD (p - 1).toNat (0, 0)).1 + (a0.getD (p - 1).toNat (0, 0)).2 ≤ (a0.getD (q - 1).toNat (0, 0)).1 := by
      rcases Int.lt_or_gt_of_ne hne with hlt | hlt
      · exact hR.apart _ _ _ _ (by omega) hq hpp
      · exact (hR.apart _ _ _ _ (by omega) hpp hq).symm
    generalize a0.getD (q - 1).toNat (0, 0) = Q at fq hap ⊢
    generalize a0.getD (p - 1).toNat (0, 0) = P at fp hap h5
    have hcl := cnt_le a5.length Q.1 Q.2
    have e2 : (a5.drop Q.1.toNat).take (cnt a5.length Q.1 Q.2) = (b5.drop Q.1.toNat).take (cnt a5.length Q.1 Q.2) := by
      apply List.ext_getElem?
      intro j
      rw [List.getElem?_take, List.getElem?_take]
      by_cases hj : j < cnt a5.length Q.1 Q.2
      · rw [if_pos hj, if_pos hj, List.getElem?_drop, List.getElem?_drop]
        exact (h5.2 _ (by omega)).symm
      · rw [if_neg hj, if_neg hj]
    rw [e2]
  · rw [if_neg hc, if_neg hc]
/-- What a turn leaves alone, as far as the other parts see. -/
def TurnP (a0 a1 : List Reg) (a2 : List PortT) (a3 : List RuleT) (a4 : List ByteArray) (a5 : List Int) (a6 : List PartT) (a7 : List LineT) (a8 : List Int) (a9 : Int) (a10 : Bool) (a11 : List PortT) (r : KernT) : Prop := ∃ b5 b6 b7 b8 b9 b10 b11, r = (a0, a1, a2, a3, a4, b5, b6, b7, b8, b9, b10, b11) ∧ KSS a0 a1 a2 a3 a4 b5 b6 b7 b8 b9 b10 b11 ∧
  b6.length = a6.length ∧ (b10 = true ∨ ∀ w, g_spec_WindowAt (a1, a9) = some w → ∀ q, q ≠ w.1 → pview a0 a5 a6 a8 q = pview a0 b5 b6 b8 q)
theorem TurnOf_sat (a0 a1 : List Reg) (a2 : List PortT) (a3 : List RuleT) (a4 : List ByteArray) (a5 : List Int) (a6 : List PartT) (a7 : List LineT) (a8 : List Int) (a9 : Int) (a10 : Bool) (a11 : List PortT) (ins : List Int) (hs : KSS a0 a1 a2 a3 a4 a5 a6 a7 a8 a9 a10 a11) : Sat (g_spec_TurnOf ((a0, a1, a2, a3, a4, a5, a6, a7, a8, a9, a10, a11), ins)) (TurnP a0 a1 a2 a3 a4 a5 a6 a7 a8 a9 a10 a11) := by
  have hk := hs.sm
  have ecp := l12Copy_eq a0 a1 a2 a3 a4 a5 a6 a7 a8 a9 a10 a11 hk
  have h0 := hs.h0
  have h1 := hs.h1
  have h2 := hs.h2
  have h3 := hs.h3
  have h11 := hs.h11
  have same : ∀ n, TurnP a0 a1 a2 a3 a4 a5 a6 a7 a8 a9 a10 a11 (a0, a1, a2, a3, a4, a5, a6, a7, a8, n, a10, a11) := fun n => ⟨a5, a6, a7, a8, n, a10, a11, rfl, ⟨hs.h0, hs.h1, hs.h2, hs.h3, hs.h4, hs.h5, hs.h6, hs.h7, hs.h8, hs.h11, hs.p6, hs.p7⟩, rfl, .inr fun _ _ _ _ => rfl⟩
  unfold g_spec_TurnOf spec_TurnOf_
  refine Sat.bind (KernelOk_sat a0 a1 a2 a3 a4 a5 a6 a7 a8 a9 a10 a11 hk) fun v0 hv0 => Sat.ite (fun hc => ?_) (fun _ => Sat.eq ecp (Sat.ret (same _)))
  obtain ⟨hK, n4⟩ := hv0 hc
  refine Sat.ite (fun _ => Sat.eq ecp (Sat.ret (same _))) (fun _ => ?_)
  obtain ⟨w, ew, hw⟩ := WindowAt_sat a1 a9 (by omega)
  have hwm := hw hK.planT hK.turn
  have hp := hK.plan.2.2 w hwm
  have hp0 := hK.parts w hwm
  have n6 := hK.n6
  have n5 := hK.n5
  have n8 := hK.n8
  refine Sat.eq ew (Sat.eq ecp ?_)
  obtain ⟨p, bu⟩ := w
  simp only [] at hp hp0 ⊢
  have hw1 : wrap64 (p - 1) = p - 1 := w64 (by omega) (by omega)
  simp only [hw1]
  refine Sat.ite (fun _ => Sat.ret (same _)) (fun _ => Sat.pos (by omega) (Sat.pos (by omega) (Sat.ite (fun _ => Sat.ret (same _)) (fun _ => ?_))))
  have g6 : ∀ x ∈ a6, PGood x := fun x hx => ⟨hs.p6 x hx, hK.pcs x hx⟩
  refine Sat.bind (RunPart_sat a0 a1 a2 a3 a4 a5 a6 a7 a8 a9 a10 a11 hk hK hs.p7 g6 p bu ins hp hp0) fun v4 hv4 => ?_
  obtain ⟨r4, x4, y4⟩ := v4
  obtain ⟨b5, b6, b7, b8, e4, hT⟩ := hv4
  have e4 : r4 = (a0, a1, a2, a3, a4, b5, b6, b7, b8, a9, a10, a11) := e4
  subst e4
  simp only []
  have lb5 := hT.1.1
  have lb6 := hT.2.1.1
  have lb7 := hT.2.2.1.1
  have lb8 := hT.2.2.2.1
  have gb6 := hT.2.1.2.2 g6
  have sb7 := hT.2.2.1.2 hs.p7
  have fin : ∀ (c5 : List Int) (c6 : List PartT) (c7 : List LineT) (c8 : List Int) (n : Int) (c10 : Bool) (lg : List PortT), SameBut (a0.getD (p - 1).toNat (0, 0)).1 (a0.getD (p - 1).toNat (0, 0)).2 a5 c5 → PtR p a6 c6 → LnR a7 c7 → c8.length = 8 → (c10 = true ∨ OutR p a8 c8) → lg.length ≤ 1000 →
      TurnP a0 a1 a2 a3 a4 a5 a6 a7 a8 a9 a10 a11 (a0, a1, a2, a3, a4, c5, c6, c7, c8, n, c10, lg) := fun c5 c6 c7 c8 n c10 lg q5 q6 q7 q8 q9 q10 =>
    ⟨c5, c6, c7, c8, n, c10, lg, rfl, ⟨hs.h0, hs.h1, hs.h2, hs.h3, hs.h4, by rw [q5.1]; exact hs.h5, by rw [q6.1]; exact hs.h6, by rw [q7.1]; exact hs.h7, by omega, q10, fun x hx => (q6.2.2 g6 x hx).1, q7.2 hs.p7⟩, q6.1,
      q9.imp id fun q9 w' hw' q hq => by
        rw [ew] at hw'
        injection hw' with hw'
        subst hw'
        exact view_keep hK.regs ⟨hp.1, hp0⟩ hq ⟨q5, q6, q7, q9⟩⟩
  refine Sat.ite (fun _ => Sat.ret (fin _ _ _ _ _ _ _ hT.1 hT.2.1 hT.2.2.1 (by omega) (.inr hT.2.2.2) h11)) (fun _ => ?_)
  have hact : ∀ (c6 : List PartT) (n : Int) (lg : List PortT) (act : Int), PtR p b6 c6 → Sat (g_spec_l12Act ((a0, (a1, (a2, (a3, (a4, (b5, (c6, (b7, (b8, (n, (a10, lg))))))))))), (p, act))) (ActP (a0.getD (p - 1).toNat (0, 0)).1 (a0.getD (p - 1).toNat (0, 0)).2 p b5 c6 b7 b8 n a10) := fun c6 n lg act hc6 =>
    l12Act_sat a0 a1 a2 a3 a4 b5 c6 b7 b8 n a10 lg p act hp (by rw [hc6.1]; omega) hp0 (by rw [lb5]; exact hs.h5) (by omega)
  have finA : ∀ (c6 : List PartT) (n : Int) (lg : List PortT) (v : Unit × Unit × Unit × Unit × Unit × List Int × List PartT × List LineT × List Int × Int × Bool × Unit), PtR p b6 c6 → ActP (a0.getD (p - 1).toNat (0, 0)).1 (a0.getD (p - 1).toNat (0, 0)).2 p b5 c6 b7 b8 n a10 v → lg.length ≤ 1000 →
      TurnP a0 a1 a2 a3 a4 a5 a6 a7 a8 a9 a10 a11 (a0, (a1, (a2, (a3, (a4, (v.2.2.2.2.2.1, (v.2.2.2.2.2.2.1, (v.2.2.2.2.2.2.2.1, (v.2.2.2.2.2.2.2.2.1, (v.2.2.2.2.2.2.2.2.2.1, (v.2.2.2.2.2.2.2.2.2.2.1, lg))))))))))) := by
    intro c6 n lg v hc6 hv hlg
    obtain ⟨_, _, _, _, _, d5, d6, d7, d8, d9, d10, _⟩ := v
    obtain ⟨q1, q2, q3, q4, q5, q6⟩ := hv
    subst q3
    exact fin d5 d6 d7 d8 d9 d10 lg (hT.1.trans q1) ((hT.2.1.trans hc6).trans q2) hT.2.2.1 q4 (q6.imp id fun q => hT.2.2.2.trans q.2) hlg
  have hlg1 : ∀ x : PortT, ((((List.length a11 + List.length [x] : Nat) : Int) * ((40 : Nat) : Int)) ≤ 140737488355328) := fun x => by simp only [List.length_singleton]; omega
  have hlg2 : ∀ x : PortT, (((List.length ([] : List PortT) + List.length (List.drop (Int.toNat 1) (List.take (Int.toNat ((List.length (a11 ++ [x]) : Nat) : Int)) (a11 ++ [x]))) : Nat) : Int) * ((40 : Nat) : Int)) ≤ 140737488355328 := fun x => by simp only [List.length_drop, List.length_take, List.length_append, List.length_singleton, List.length_nil]; omega
  have hlg3 : ∀ x : PortT, (([] : List PortT) ++ (List.drop (Int.toNat 1) (List.take (Int.toNat ((List.length (a11 ++ [x]) : Nat) : Int)) (a11 ++ [x])))).length ≤ 1000 := fun x => by simp only [List.nil_append, List.length_drop, List.length_take, List.length_append, List.length_singleton]; omega
  have hlg4 : ∀ x : PortT, ¬ (40 < ((List.length (a11 ++ [x]) : Nat) : Int)) → (a11 ++ [x]).length ≤ 1000 := fun x h => by omega
  have hlg5 : ∀ x : PortT, (1 : Int) ≤ ((List.length (a11 ++ [x]) : Nat) : Int) := fun x => by simp only [List.length_append, List.length_singleton]; omega
  have hY := gb6 _ (getD_mem (l := b6) (i := p - 1) (z := (0, ((0, ([] : List Int)), (0, (0, 0))))) (by omega) (by omega))
  generalize List.getD b6 (Int.toNat (p - 1)) (0, ((0, ([] : List Int)), (0, (0, 0)))) = Y at hY ⊢
  have hp2 : ∀ z : PartT, z.2.1 = Y.2.1 → PtR p b6 (b6.set (p - 1).toNat z) := fun z hz => (PtR.refl p b6).set rfl (by omega) fun _ => by unfold PGood; rw [hz]; exact hY
  have tail : ∀ (c6 : List PartT) (n : Int) (st : Int), PtR p b6 c6 → Sat ((g_spec_ActFor (a3, (p, (x4, st)))).bind fun v5 =>
            if (((List.length a11 + List.length [(a9, (p, (x4, (y4, v5))))] : Nat) : Int) * ((40 : Nat) : Int)) ≤ 140737488355328 then
             if 40 < ((List.length (a11 ++ [(a9, (p, (x4, (y4, v5))))]) : Nat) : Int) then
              if 0 ≤ 1 then
               if 1 ≤ ((List.length (a11 ++ [(a9, (p, (x4, (y4, v5))))]) : Nat) : Int) then
                if (((List.length ([] : List PortT) + List.length (List.drop (Int.toNat 1) (List.take (Int.toNat ((List.length (a11 ++ [(a9, (p, (x4, (y4, v5))))]) : Nat) : Int)) (a11 ++ [(a9, (p, (x4, (y4, v5))))]))) : Nat) : Int) * ((40 : Nat) : Int)) ≤ 140737488355328 then (g_spec_l12Act ((a0, (a1, (a2, (a3, (a4, (b5, (c6, (b7, (b8, (n, (a10, (([] : List PortT) ++ (List.drop (Int.toNat 1) (List.take (Int.toNat ((List.length (a11 ++ [(a9, (p, (x4, (y4, v5))))]) : Nat) : Int)) (a11 ++ [(a9, (p, (x4, (y4, v5))))]))))))))))))))), (p, v5))).bind fun v =>
                 some (a0, (a1, (a2, (a3, (a4, (v.2.2.2.2.2.1, (v.2.2.2.2.2.2.1, (v.2.2.2.2.2.2.2.1, (v.2.2.2.2.2.2.2.2.1, (v.2.2.2.2.2.2.2.2.2.1, (v.2.2.2.2.2.2.2.2.2.2.1, (([] : List PortT) ++ (List.drop (Int.toNat 1) (List.take (Int.toNat ((List.length (a11 ++ [(a9, (p, (x4, (y4, v5))))]) : Nat) : Int)) (a11 ++ [(a9, (p, (x4, (y4, v5))))]))))))))))))))) else none
               else
                none
              else
               none
             else
              (g_spec_l12Act ((a0, (a1, (a2, (a3, (a4, (b5, (c6, (b7, (b8, (n, (a10, (a11 ++ [(a9, (p, (x4, (y4, v5))))])))))))))))), (p, v5))).bind fun v =>
              some (a0, (a1, (a2, (a3, (a4, (v.2.2.2.2.2.1, (v.2.2.2.2.2.2.1, (v.2.2.2.2.2.2.2.1, (v.2.2.2.2.2.2.2.2.1, (v.2.2.2.2.2.2.2.2.2.1, (v.2.2.2.2.2.2.2.2.2.2.1, (a11 ++ [(a9, (p, (x4, (y4, v5))))]))))))))))))
            else
             none) (TurnP a0 a1 a2 a3 a4 a5 a6 a7 a8 a9 a10 a11) := by
    intro c6 n st hc6
    refine Sat.bind (ActFor_sat a3 p x4 st (by omega)) fun v5 _ => Sat.pos (hlg1 _) (Sat.ite (fun _ => Sat.pos (by omega) (Sat.pos (hlg5 _) (Sat.pos (hlg2 _) ?_))) (fun h40 => ?_))
    · exact Sat.bind (hact _ _ _ _ hc6) fun v hv => Sat.ret (finA _ _ _ v hc6 hv (hlg3 _))
    · exact Sat.bind (hact _ _ _ _ hc6) fun v hv => Sat.ret (finA _ _ _ v hc6 hv (hlg4 _ h40))
  refine Sat.ite (fun _ => ?_) (fun _ => ?_)
  · simp only [List.length_set]
    refine Sat.pos (by omega) (Sat.pos (by omega) (Sat.pos (by omega) (Sat.pos (by omega) (Sat.pos (by omega) (Sat.pos (by omega) ?_)))))
    exact tail _ _ _ (hp2 _ rfl)
  · refine Sat.pos (by omega) (Sat.pos (by omega) ?_)
    exact tail _ _ _ (.refl _ _)
/- spec_l01Byte -/
theorem and255 (x : Int) : 0 ≤ iand .i64 x 255 ∧ iand .i64 x 255 ≤ 255 := by
  have e : iand .i64 x 255 = IntKind.i64.wrap (((BitVec.ofInt 64 x &&& BitVec.ofInt 64 255).toNat : Nat) : Int) := rfl
  have h : (BitVec.ofInt 64 x &&& BitVec.ofInt 64 255).toNat ≤ 255 := by
    rw [BitVec.toNat_and]
    exact Nat.le_trans Nat.and_le_right (by decide)
  rw [e, IntKind.wrap_i64]
  omega
theorem l01Byte_some (l : List Int) (i s : Int) (hl : l.length ≤ 1048576) (hi : 0 ≤ i) : ∃ b i' s', g_spec_l01Byte (l, i, s) = some (b, ((), i', s')) ∧ 0 ≤ b ∧ b ≤ 255 ∧ 0 ≤ i' := by
  unfold g_spec_l01Byte spec_l01Byte_
  simp only []
  rw [if_pos (by omega), if_pos (by omega)]
  by_cases h : i < (l.length : Int)
  · rw [if_pos h, if_pos hi, if_pos h, w64 (n := i + 1) (by omega) (by omega)]
    exact ⟨_, _, _, rfl, (and255 _).1, (and255 _).2, by omega⟩
  · rw [if_neg h]
    exact ⟨_, _, _, rfl, (and255 _).1, (and255 _).2, hi⟩
/- spec_l01Below -/
theorem l01Below_some (l : List Int) (i s n : Int) (hl : l.length ≤ 1048576) (hi : 0 ≤ i) (hn : 0 < n) : ∃ v i' s', g_spec_l01Below ((l, i, s), n) = some (v, ((), i', s')) ∧ 0 ≤ v ∧ v < n ∧ 0 ≤ i' := by
  unfold g_spec_l01Below spec_l01Below_
  simp only []
  rw [if_neg (by omega)]
  by_cases h : n ≤ 256
  · rw [if_pos h]
    obtain ⟨b, i1, s1, e, h1, h2, h3⟩ := l01Byte_some l i s hl hi
    rw [e, Option.bind_some, if_neg (by omega)]
    exact ⟨_, _, _, rfl, Int.tmod_nonneg _ h1, Int.tmod_lt_of_pos _ hn, h3⟩
  · rw [if_neg h]
    obtain ⟨b1, i1, s1, e1, h11, h12, h13⟩ := l01Byte_some l i s hl hi
    obtain ⟨b2, i2, s2, e2, h21, h22, h23⟩ := l01Byte_some l i1 s1 hl h13
    obtain ⟨b3, i3, s3, e3, h31, h32, h33⟩ := l01Byte_some l i2 s2 hl h23
    obtain ⟨b4, i4, s4, e4, h41, h42, h43⟩ := l01Byte_some l i3 s3 hl h33
    simp only [e1, e2, e3, e4, Option.bind_some]
    rw [if_neg (by omega)]
    refine ⟨_, _, _, rfl, Int.tmod_nonneg _ ?_, Int.tmod_lt_of_pos _ hn, h43⟩
    show 0 ≤ wrap64 ((wrap64 ((wrap64 ((wrap64 (b1 * 16777216)) + (wrap64 (b2 * 65536)))) + (wrap64 (b3 * 256)))) + b4)
    unfold wrap64; omega
/- spec_l01Once -/
theorem l01Once_some (l : List Int) (i s n : Int) (hl : l.length ≤ 1048576) (hi : 0 ≤ i) (hn : 0 < n) : ∃ b i' s', g_spec_l01Once ((l, i, s), n) = some (b, ((), i', s')) ∧ 0 ≤ i' := by
  unfold g_spec_l01Once spec_l01Once_
  simp only []
  obtain ⟨v, i1, s1, e, _, _, h⟩ := l01Below_some l i s n hl hi hn
  rw [e]; exact ⟨_, _, _, rfl, h⟩
/- spec_l01PickInt -/
theorem l01PickInt_some (S : List Int) (i s : Int) (L : List Int) (hS : S.length ≤ 1048576) (hi : 0 ≤ i) (hL : 0 < L.length) : ∃ v i' s', g_spec_l01PickInt ((S, i, s), L) = some (v, ((), i', s')) ∧ v ∈ L ∧ 0 ≤ i' := by
  unfold g_spec_l01PickInt spec_l01PickInt_
  obtain ⟨n, i1, s1, e, h0, h1, h2⟩ := l01Below_some S i s (L.length : Int) hS hi (by omega)
  simp only [e, Option.bind_some]
  rw [if_pos h0, if_pos h1]
  have hn : n.toNat < L.length := by omega
  refine ⟨_, _, _, rfl, ?_, h2⟩
  have : L.getD n.toNat 0 = L[n.toNat] := by simp [List.getD_eq_getElem?_getD, hn]
  rw [this]
  exact List.getElem_mem hn
/- spec_l12Ins -/
-- needs: spec_l01Once spec_l01PickInt
theorem Below_sat (S : List Int) (x : Int × Int) (n : Int) (hS : S.length ≤ 1048576) (hx : 0 ≤ x.1) : Sat (g_spec_l01Below ((S, x), n)) (fun r => 0 ≤ r.1 ∧ (0 < n → r.1 < n) ∧ 0 ≤ r.2.2.1) := by
  obtain ⟨i, s⟩ := x
  by_cases hn : 0 < n
  · obtain ⟨v, i', s', e, h1, h2, h3⟩ := l01Below_some S i s n hS hx hn
    exact ⟨_, e, h1, fun _ => h2, h3⟩
  · unfold g_spec_l01Below spec_l01Below_
    refine Sat.pos (by omega) (Sat.ret ⟨Int.le_refl 0, fun h => absurd h hn, hx⟩)
theorem Once_sat (S : List Int) (x : Int × Int) (n : Int) (hS : S.length ≤ 1048576) (hx : 0 ≤ x.1) (hn : 0 < n) : Sat (g_spec_l01Once ((S, x), n)) (fun r => 0 ≤ r.2.2.1) := by
  obtain ⟨i, s⟩ := x
  obtain ⟨b, i', s', e, h⟩ := l01Once_some S i s n hS hx hn
  exact ⟨_, e, h⟩
theorem Pick_sat (S : List Int) (x : Int × Int) (L : List Int) (hS : S.length ≤ 1048576) (hx : 0 ≤ x.1) (hL : 0 < L.length) : Sat (g_spec_l01PickInt ((S, x), L)) (fun r => 0 ≤ r.2.2.1) := by
  obtain ⟨i, s⟩ := x
  obtain ⟨v, i', s', e, _, h⟩ := l01PickInt_some S i s L hS hx hL
  exact ⟨_, e, h⟩
theorem l12Ins_sat (S : List Int) (x : Int × Int) (hS : S.length ≤ 1048576) (hx : 0 ≤ x.1) : Sat (g_spec_l12Ins (S, x)) (fun r => 0 ≤ r.2.2.1) := by
  obtain ⟨i, s⟩ := x
  have key : ∀ (d n : Nat), n + d = 4 → ∀ (i s : Int) (l : List Int), 0 ≤ i → l.length ≤ n → EvS (fun k => spec_l12Ins_L3 (fun _ => g_spec_l01Below) k ((n : Int), i, s, S, l, ())) (fun r => 0 ≤ r.2.2.1) := by
    intro d
    induction d with
    | zero =>
      intro n hn i s l hi hl
      exact EvS.step (fun q => by rw [spec_l12Ins_L3]) (EvS.bind (Below_sat S (i, s) 4 hS hi) fun v hv => EvS.neg (by have := hv.2.1 (by omega); omega) (EvS.ret hv.2.2))
    | succ d ih =>
      intro n hn i s l hi hl
      refine EvS.step (fun q => by rw [spec_l12Ins_L3]) (EvS.bind (Below_sat S (i, s) 4 hS hi) fun v hv => EvS.ite (fun _ => EvS.bind (Below_sat S v.2.2 9 hS hv.2.2) fun v1 hv1 => ?_) (fun _ => EvS.ret hv.2.2))
      refine EvS.pos (by simp only [List.length_singleton]; omega) ?_
      rw [w64_succ (by omega)]
      exact ih (n + 1) (by omega) _ _ _ hv1.2.2 (by simp only [List.length_append, List.length_singleton]; omega)
  refine EvS.sat ?_
  unfold spec_l12Ins_
  exact key 4 0 (by omega) i s [] hx (by simp)
/- spec_ArenaNew -/
theorem ArenaNew_eq : g_spec_ArenaNew () = some (List.replicate 64 0) := by
  unfold g_spec_ArenaNew spec_ArenaNew_
  rw [if_pos rfl, if_pos (by decide), if_pos (by decide)]
  rfl
/- spec_CodeText -/
theorem CodeText_sat (l : List (Int × Int)) (hl : l.length ≤ 1000) : Sat (g_spec_CodeText l) (fun _ => True) := by
  have key : ∀ (d i : Nat), i + d = l.length → ∀ m : List Int, m.length = 2 * i → EvS (fun k => spec_CodeText_L5 (fun _ => g_spec_CodeOk) k ((i : Int), l, m, ())) (fun _ => True) := by
    intro d
    induction d with
    | zero =>
      intro i hi m hm
      exact EvS.step (fun q => by rw [spec_CodeText_L5]) (EvS.neg (by omega) (EvS.ret trivial))
    | succ d ih =>
      intro i hi m hm
      have h2 : ∀ x y : Int, m.length + [x, y].length = m.length + 2 := fun _ _ => rfl
      refine EvS.step (fun q => by rw [spec_CodeText_L5]) (EvS.pos (by omega) (EvS.pos (by omega) (EvS.pos (by omega) (EvS.pos (by omega) (EvS.pos (by omega) ?_)))))
      rw [w64_succ (by omega)]
      exact EvS.pos (by simp only [List.length_cons, List.length_nil]; omega) (ih (i + 1) (by omega) _ (by simp only [List.length_append, List.length_cons, List.length_nil]; omega))
  refine EvS.sat ?_
  unfold spec_CodeText_
  exact EvS.bind (CodeOk_sat l (by omega)) fun v _ => EvS.ite (fun _ => key l.length 0 (by omega) [] rfl) (fun _ => EvS.ret trivial)
/- spec_l04Regions -/
-- needs: spec_l12Ins
theorem l04Regions_sat (S : List Int) (x : Int × Int) (hS : S.length ≤ 1048576) (hx : 0 ≤ x.1) : Sat (g_spec_l04Regions (S, x)) (fun r => 0 ≤ r.2.2.1 ∧ r.1.length ≤ 4 ∧ ∀ y ∈ r.1, I64 y.1) := by
  obtain ⟨i, s⟩ := x
  have key : ∀ (d n : Nat), n + d = 4 → ∀ (f i s : Int) (l : List Reg), 0 ≤ i → 0 ≤ f → f ≤ 100 * ((n : Int) + 1) → l.length ≤ n → (∀ y ∈ l, I64 y.1) → EvS (fun k => spec_l04Regions_L4 (fun _ => g_spec_l01Below) k (f, (n : Int), i, s, S, l, ())) (fun r => 0 ≤ r.2.2.1 ∧ r.1.length ≤ 4 ∧ ∀ y ∈ r.1, I64 y.1) := by
    intro d
    induction d with
    | zero =>
      intro n hn f i s l hi hf0 hf1 hl hI
      refine EvS.step (fun q => by rw [spec_l04Regions_L4]) (EvS.bind (Below_sat S (i, s) 4 hS hi) fun v hv => ?_)
      have h1 := hv.2.1 (by omega)
      rw [w64 (n := 1 + v.1) (by omega) (by omega)]
      exact EvS.neg (by omega) (EvS.ret ⟨hv.2.2, by show l.length ≤ 4; omega, hI⟩)
    | succ d ih =>
      intro n hn f i s l hi hf0 hf1 hl hI
      refine EvS.step (fun q => by rw [spec_l04Regions_L4]) (EvS.bind (Below_sat S (i, s) 4 hS hi) fun v hv => ?_)
      have h1 := hv.2.1 (by omega)
      have h0 := hv.1
      rw [w64 (n := 1 + v.1) (by omega) (by omega)]
      refine EvS.ite (fun _ => EvS.bind (Below_sat S v.2.2 14 hS hv.2.2) fun v1 hv1 => ?_) (fun _ => EvS.ret ⟨hv.2.2, by show l.length ≤ 4; omega, hI⟩)
      have h2 := hv1.2.1 (by omega)
      have h3 := hv1.1
      rw [w64_succ (by omega), w64 (n := 1 + v1.1) (by omega) (by omega), w64 (n := f + (1 + v1.1)) (by omega) (by omega)]
      refine EvS.ite (fun _ => EvS.pos (by simp only [List.length_singleton]; omega) (EvS.bind (Below_sat S v1.2.2 3 hS hv1.2.2) fun v2 hv2 => ?_)) (fun _ => EvS.bind (Below_sat S v1.2.2 3 hS hv1.2.2) fun v2 hv2 => ?_)
      · have h4 := hv2.2.1 (by omega)
        have h5 := hv2.1
        rw [w64 (n := f + (1 + v1.1) + v2.1) (by omega) (by omega)]
        refine ih (n + 1) (by omega) _ _ _ _ hv2.2.2 (by omega) (by omega) (by simp only [List.length_append, List.length_singleton]; omega) (fun y hy => ?_)
        rw [List.mem_append, List.mem_singleton] at hy
        rcases hy with hy | rfl
        · exact hI y hy
        · unfold I64; show _ ≤ f ∧ f ≤ _; omega
      · have h4 := hv2.2.1 (by omega)
        have h5 := hv2.1
        rw [w64 (n := f + (1 + v1.1) + v2.1) (by omega) (by omega)]
        exact ih (n + 1) (by omega) _ _ _ _ hv2.2.2 (by omega) (by omega) (by omega) hI
  refine EvS.sat ?_
  unfold spec_l04Regions_
  refine EvS.bind (Below_sat S (i, s) 6 hS hx) fun v hv => ?_
  have h1 := hv.2.1 (by omega)
  exact key 4 0 (by omega) v.1 _ _ [] hv.2.2 hv.1 (by omega) (by simp) (by simp)
/- spec_l05Instr -/
-- needs: spec_l12Ins
theorem l05Instr_sat (S : List Int) (x : Int × Int) (hS : S.length ≤ 1048576) (hx : 0 ≤ x.1) : Sat (g_spec_l05Instr (S, x)) (fun r => 0 ≤ r.2.2.1) := by
  obtain ⟨i, s⟩ := x
  unfold g_spec_l05Instr spec_l05Instr_
  have fin : ∀ (y : Int × Int) (o a : Int), 0 ≤ y.1 → Sat ((g_spec_l01Once ((S, y), 40)).bind fun v12 =>
    if v12.1 = true then
     (g_spec_l01Below ((S, v12.2.2), 256)).bind fun v13 =>
     some ((v13.1, a), ((), v13.2.2))
    else
     some ((o, a), ((), v12.2.2))) (fun r => 0 ≤ r.2.2.1) := fun y o a hy =>
    Sat.bind (Once_sat S y 40 hS hy (by omega)) fun v3 h3 => Sat.ite (fun _ => Sat.bind (Below_sat S v3.2.2 256 hS h3) fun v4 h4 => Sat.ret h4.2.2) (fun _ => Sat.ret h3)
  refine Sat.bind (Pick_sat S (i, s) _ hS hx (by decide)) fun v0 h0 => Sat.bind (Below_sat S v0.2.2 4 hS h0) fun v1 h1 => ?_
  refine Sat.ite (fun _ => Sat.bind (Below_sat S v1.2.2 8 hS h1.2.2) fun v2 h2 => ?_) (fun _ => ?_)
  · exact Sat.ite (fun _ => Sat.bind (Below_sat S v2.2.2 14 hS h2.2.2) fun v3 h3 => fin _ _ _ h3.2.2) (fun _ => Sat.ite (fun _ => Sat.bind (Below_sat S v2.2.2 14 hS h2.2.2) fun v3 h3 => fin _ _ _ h3.2.2) (fun _ => fin _ _ _ h2.2.2))
  · exact Sat.ite (fun _ => Sat.bind (Below_sat S v1.2.2 14 hS h1.2.2) fun v3 h3 => fin _ _ _ h3.2.2) (fun _ => Sat.ite (fun _ => Sat.bind (Below_sat S v1.2.2 14 hS h1.2.2) fun v3 h3 => fin _ _ _ h3.2.2) (fun _ => fin _ _ _ h1.2.2))
/- spec_l05Code -/
-- needs: spec_l12Ins
theorem l05Code_sat (S : List Int) (x : Int × Int) (hS : S.length ≤ 1048576) (hx : 0 ≤ x.1) : Sat (g_spec_l05Code (S, x)) (fun r => 0 ≤ r.2.2.1 ∧ r.1.length ≤ 100) := by
  obtain ⟨i, s⟩ := x
  have key : ∀ (d n : Nat), n + d = 16 → ∀ (i s : Int) (l : List (Int × Int)), 0 ≤ i → l.length ≤ 3 * n → EvS (fun k => spec_l05Code_L3 (fun _ => g_spec_l01Below) (fun _ => g_spec_l01Once) (fun _ => g_spec_l05Instr) k ((n : Int), i, s, S, l, ())) (fun r => 0 ≤ r.2.2.1 ∧ r.1.length ≤ 100) := by
    have ex : ∀ (l : List (Int × Int)) (y : Int × Int), l.length ≤ 48 → 0 ≤ y.1 → EvS (fun _ => (g_spec_l01Once ((S, y), 2)).bind fun v9 =>
     if v9.1 = true then
      if (((List.length l + List.length [((0 : Int), (0 : Int))] : Nat) : Int) * ((16 : Nat) : Int)) ≤ 140737488355328 then some ((l ++ [((0 : Int), (0 : Int))]), ((), v9.2.2)) else none
     else
      some (l, ((), v9.2.2))) (fun r => 0 ≤ r.2.2.1 ∧ r.1.length ≤ 100) := fun l y hl hy =>
      EvS.cst (Sat.bind (Once_sat S y 2 hS hy (by omega)) fun v9 h9 => Sat.ite (fun _ => Sat.pos (by simp only [List.length_singleton]; omega) (Sat.ret ⟨h9, by show (l ++ [_]).length ≤ 100; simp only [List.length_append, List.length_singleton]; omega⟩)) (fun _ => Sat.ret ⟨h9, by show l.length ≤ 100; omega⟩))
    intro d
    induction d with
    | zero =>
      intro n hn i s l hi hl
      refine EvS.step (fun q => by rw [spec_l05Code_L3]) (EvS.bind (Below_sat S (i, s) 16 hS hi) fun v hv => ?_)
      have h1 := hv.2.1 (by omega)
      exact EvS.neg (by omega) (ex l v.2.2 (by omega) hv.2.2)
    | succ d ih =>
      intro n hn i s l hi hl
      have h3 : ∀ x y z : Int × Int, l.length + [x, y, z].length = l.length + 3 := fun _ _ _ => rfl
      refine EvS.step (fun q => by rw [spec_l05Code_L3]) (EvS.bind (Below_sat S (i, s) 16 hS hi) fun v hv => ?_)
      refine EvS.ite (fun _ => EvS.bind (Below_sat S v.2.2 6 hS hv.2.2) fun v1 hv1 => ?_) (fun _ => ex l v.2.2 (by omega) hv.2.2)
      rw [w64_succ (by omega)]
      refine EvS.ite (fun _ => EvS.bind (Below_sat S v1.2.2 5 hS hv1.2.2) fun v2 hv2 => EvS.bind (Below_sat S v2.2.2 9 hS hv2.2.2) fun v3 hv3 => ?_) (fun _ => EvS.ite (fun _ => EvS.bind (Below_sat S v1.2.2 5 hS hv1.2.2) fun v2 hv2 => EvS.bind (Below_sat S v2.2.2 2 hS hv2.2.2) fun v3 hv3 => ?_) (fun _ => EvS.ite (fun _ => EvS.bind (Below_sat S v1.2.2 3 hS hv1.2.2) fun v2 hv2 => EvS.bind (Below_sat S v2.2.2 3 hS hv2.2.2) fun v3 hv3 => ?_) (fun _ => EvS.bind (l05Instr_sat S v1.2.2 hS hv1.2.2) fun v2 hv2 => ?_)))
      · exact EvS.pos (by simp only [List.length_cons, List.length_nil]; omega) (ih (n + 1) (by omega) _ _ _ hv3.2.2 (by simp only [List.length_append, List.length_cons, List.length_nil]; omega))
      · exact EvS.pos (by simp only [List.length_cons, List.length_nil]; omega) (ih (n + 1) (by omega) _ _ _ hv3.2.2 (by simp only [List.length_append, List.length_cons, List.length_nil]; omega))
      · exact EvS.pos (by simp only [List.length_cons, List.length_nil]; omega) (ih (n + 1) (by omega) _ _ _ hv3.2.2 (by simp only [List.length_append, List.length_cons, List.length_nil]; omega))
      · exact EvS.pos (by simp only [List.length_singleton]; omega) (ih (n + 1) (by omega) _ _ _ hv2 (by simp only [List.length_append, List.length_singleton]; omega))
  refine EvS.sat ?_
  unfold spec_l05Code_
  exact key 16 0 (by omega) i s [] hx (by simp)
/- spec_l08Port -/
-- needs: spec_l12Ins
theorem l08Port_sat (S : List Int) (x : Int × Int) (hS : S.length ≤ 1048576) (hx : 0 ≤ x.1) : Sat (g_spec_l08Port (S, x)) (fun r => 0 ≤ r.2.2.1) := by
  obtain ⟨i, s⟩ := x
  unfold g_spec_l08Port spec_l08Port_
  refine Sat.bind (Below_sat S (i, s) 3 hS hx) fun v0 h0 => Sat.bind (Below_sat S v0.2.2 3 hS h0.2.2) fun v1 h1 => Sat.bind (Below_sat S v1.2.2 3 hS h1.2.2) fun v2 h2 => ?_
  refine Sat.ite (fun _ => Sat.neg (by decide) ?_) (fun _ => ?_)
  · exact Sat.bind (Once_sat S v2.2.2 3 hS h2.2.2 (by omega)) fun v3 h3 => Sat.ite (fun _ => Sat.bind (Below_sat S v3.2.2 8 hS h3) fun v4 h4 => Sat.ret h4.2.2) (fun _ => Sat.ret h3)
  · exact Sat.bind (Once_sat S v2.2.2 3 hS h2.2.2 (by omega)) fun v3 h3 => Sat.ite (fun _ => Sat.bind (Below_sat S v3.2.2 8 hS h3) fun v4 h4 => Sat.ret h4.2.2) (fun _ => Sat.ret h3)
/- spec_l09Plan -/
-- needs: spec_l12Ins
theorem l09Plan_sat (S : List Int) (x : Int × Int) (p : Int) (hS : S.length ≤ 1048576) (hx : 0 ≤ x.1) : Sat (g_spec_l09Plan ((S, x), p)) (fun r => 0 ≤ r.2.2.1 ∧ r.1.length ≤ 5) := by
  obtain ⟨i, s⟩ := x
  have key : ∀ (d n : Nat), n + d = 5 → ∀ (i s : Int) (l : List Reg), 0 ≤ i → l.length ≤ n → EvS (fun k => spec_l09Plan_L3 (fun _ => g_spec_l01Below) k (p, (n : Int), i, s, S, l, ())) (fun r => 0 ≤ r.2.2.1 ∧ r.1.length ≤ 5) := by
    intro d
    induction d with
    | zero =>
      intro n hn i s l hi hl
      refine EvS.step (fun q => by rw [spec_l09Plan_L3]) (EvS.bind (Below_sat S (i, s) 5 hS hi) fun v hv => ?_)
      have h1 := hv.2.1 (by omega)
      have h0 := hv.1
      rw [w64 (n := 1 + v.1) (by omega) (by omega)]
      exact EvS.neg (by omega) (EvS.ret ⟨hv.2.2, by show l.length ≤ 5; omega⟩)
    | succ d ih =>
      intro n hn i s l hi hl
      refine EvS.step (fun q => by rw [spec_l09Plan_L3]) (EvS.bind (Below_sat S (i, s) 5 hS hi) fun v hv => ?_)
      refine EvS.ite (fun _ => EvS.bind (Below_sat S v.2.2 p hS hv.2.2) fun v1 hv1 => EvS.bind (Below_sat S v1.2.2 40 hS hv1.2.2) fun v2 hv2 => ?_) (fun _ => EvS.ret ⟨hv.2.2, by show l.length ≤ 5; omega⟩)
      rw [w64_succ (by omega)]
      exact EvS.pos (by simp only [List.length_singleton]; omega) (ih (n + 1) (by omega) _ _ _ hv2.2.2 (by simp only [List.length_append, List.length_singleton]; omega))
  refine EvS.sat ?_
  unfold spec_l09Plan_
  exact key 5 0 (by omega) i s [] hx (by simp)
/- spec_l10Rules -/
-- needs: spec_l12Ins
theorem l10Rules_sat (S : List Int) (x : Int × Int) (p : Int) (hS : S.length ≤ 1048576) (hx : 0 ≤ x.1) : Sat (g_spec_l10Rules ((S, x), p)) (fun r => 0 ≤ r.2.2.1 ∧ r.1.length ≤ 6) := by
  obtain ⟨i, s⟩ := x
  have key : ∀ (d n : Nat), n + d = 6 → ∀ (i s : Int) (l : List RuleT), 0 ≤ i → l.length ≤ n → EvS (fun k => spec_l10Rules_L3 (fun _ => g_spec_RulesOk) (fun _ => g_spec_l01Below) (fun _ => g_spec_l01Once) k (p, (n : Int), i, s, S, l, ())) (fun r => 0 ≤ r.2.2.1 ∧ r.1.length ≤ 6) := by
    intro d
    induction d with
    | zero =>
      intro n hn i s l hi hl
      refine EvS.step (fun q => by rw [spec_l10Rules_L3]) (EvS.bind (Below_sat S (i, s) 6 hS hi) fun v hv => ?_)
      have h1 := hv.2.1 (by omega)
      exact EvS.neg (by omega) (EvS.ret ⟨hv.2.2, by show l.length ≤ 6; omega⟩)
    | succ d ih =>
      intro n hn i s l hi hl
      refine EvS.step (fun q => by rw [spec_l10Rules_L3]) (EvS.bind (Below_sat S (i, s) 6 hS hi) fun v hv => ?_)
      refine EvS.ite (fun _ => EvS.bind (Below_sat S v.2.2 p hS hv.2.2) fun v1 hv1 => EvS.bind (Below_sat S v1.2.2 2 hS hv1.2.2) fun v2 hv2 => EvS.bind (Below_sat S v2.2.2 3 hS hv2.2.2) fun v3 hv3 => EvS.bind (Once_sat S v3.2.2 8 hS hv3.2.2 (by omega)) fun v4 hv4 => ?_) (fun _ => EvS.ret ⟨hv.2.2, by show l.length ≤ 6; omega⟩)
      rw [w64_succ (by omega)]
      have app : ∀ r : RuleT, EvS (fun k => if (((List.length ([] : List RuleT) + List.length l : Nat) : Int) * ((24 : Nat) : Int)) ≤ 140737488355328 then
          if (((List.length (([] : List RuleT) ++ l) + List.length [r] : Nat) : Int) * ((24 : Nat) : Int)) ≤ 140737488355328 then (g_spec_RulesOk ((([] : List RuleT) ++ l) ++ [r])).bind fun v5 =>
            if v5 = true then
             spec_l10Rules_L3 (fun _ => g_spec_RulesOk) (fun _ => g_spec_l01Below) (fun _ => g_spec_l01Once) k (p, ((n : Int) + 1), v4.2.2.1, v4.2.2.2, S, ((([] : List RuleT) ++ l) ++ [r]), ())
            else
             spec_l10Rules_L3 (fun _ => g_spec_RulesOk) (fun _ => g_spec_l01Below) (fun _ => g_spec_l01Once) k (p, ((n : Int) + 1), v4.2.2.1, v4.2.2.2, S, l, ()) else none
          else
           none) (fun r => 0 ≤ r.2.2.1 ∧ r.1.length ≤ 6) := by
        intro r
        refine EvS.pos (by simp only [List.length_nil]; omega) (EvS.pos (by simp only [List.nil_append, List.length_singleton]; omega) (EvS.bind (RulesOk_sat _ (by simp only [List.nil_append, List.length_append, List.length_singleton]; omega)) fun v5 _ => EvS.ite (fun _ => ?_) (fun _ => ?_)))
        · exact ih (n + 1) (by omega) _ _ _ hv4 (by simp only [List.nil_append, List.length_append, List.length_singleton]; omega)
        · exact ih (n + 1) (by omega) _ _ _ hv4 (by omega)
      exact EvS.ite (fun _ => app _) (fun _ => app _)
  refine EvS.sat ?_
  unfold spec_l10Rules_
  exact key 6 0 (by omega) i s [] hx (by simp)
/- spec_l11Setup -/
-- needs: spec_l12Ins
def SetP (r : (List Reg × List Reg × List PortT × List RuleT × List ByteArray) × (Unit × Int × Int)) : Prop := 0 ≤ r.2.2.1 ∧ r.1.1.length ≤ 4 ∧ (∀ y ∈ r.1.1, I64 y.1) ∧ r.1.2.1.length ≤ 5 ∧ r.1.2.2.1.length ≤ 4 ∧ r.1.2.2.2.1.length ≤ 6 ∧ r.1.2.2.2.2.length ≤ 4
theorem l11Setup_sat (S : List Int) (x : Int × Int) (hS : S.length ≤ 1048576) (hx : 0 ≤ x.1) : Sat (g_spec_l11Setup (S, x)) SetP := by
  obtain ⟨i, s⟩ := x
  refine EvS.sat ?_
  unfold spec_l11Setup_
  refine EvS.bind (l04Regions_sat S (i, s) hS hx) fun v0 h0 => EvS.bind (l09Plan_sat S v0.2.2 _ hS h0.1) fun v1 h1 => EvS.bind (l10Rules_sat S v1.2.2 _ hS h1.1) fun v2 h2 => ?_
  obtain ⟨r0, _, z0⟩ := v0
  obtain ⟨r1, _, z1⟩ := v1
  obtain ⟨r3, _, z3, z4⟩ := v2
  simp only [] at h0 h1 h2 ⊢
  have k2 : ∀ (r2 : List PortT), r2.length ≤ 4 → ∀ (d n : Nat), n + d = r0.length → ∀ (i s : Int) (l : List ByteArray), 0 ≤ i → l.length = n → EvS (fun k => spec_l11Setup_L12 (fun _ => g_spec_CodeText) (fun _ => g_spec_l01Below) (fun _ => g_spec_l04Regions) (fun _ => g_spec_l05Code) (fun _ => g_spec_l08Port) (fun _ => g_spec_l09Plan) (fun _ => g_spec_l10Rules) k (((List.length r0 : Nat) : Int), (n : Int), i, s, S, [], [], [], [], [], r0, r1, r2, r3, l, ())) SetP := by
    intro r2 hr2 d
    induction d with
    | zero =>
      intro n hn i s l hi hl
      exact EvS.step (fun q => by rw [spec_l11Setup_L12]) (EvS.neg (by omega) (EvS.ret ⟨hi, h0.2.1, h0.2.2, h1.2, hr2, h2.2, by have := h0.2.1; show l.length ≤ 4; omega⟩))
    | succ d ih =>
      intro n hn i s l hi hl
      have := h0.2.1
      refine EvS.step (fun q => by rw [spec_l11Setup_L12]) (EvS.pos (by omega) (EvS.bind (l05Code_sat S (i, s) hS hi) fun v hv => EvS.bind (CodeText_sat v.1 (by omega)) fun v' _ => ?_))
      rw [w64_succ (by omega)]
      exact EvS.pos (by simp only [List.length_singleton]; omega) (ih (n + 1) (by omega) _ _ _ hv.1 (by simp only [List.length_append, List.length_singleton]; omega))
  have k1 : ∀ (d n : Nat), n + d = 4 → ∀ (i s : Int) (l : List PortT), 0 ≤ i → l.length ≤ n → EvS (fun k => spec_l11Setup_L6 (fun _ => g_spec_CodeText) (fun _ => g_spec_l01Below) (fun _ => g_spec_l04Regions) (fun _ => g_spec_l05Code) (fun _ => g_spec_l08Port) (fun _ => g_spec_l09Plan) (fun _ => g_spec_l10Rules) k (((List.length r0 : Nat) : Int), (n : Int), i, s, S, [], [], [], [], [], r0, r1, l, r3, [], ())) SetP := by
    intro d
    induction d with
    | zero =>
      intro n hn i s l hi hl
      refine EvS.step (fun q => by rw [spec_l11Setup_L6]) (EvS.bind (Below_sat S (i, s) 4 hS hi) fun v hv => ?_)
      have h1 := hv.2.1 (by omega)
      exact EvS.neg (by omega) (k2 l (by omega) r0.length 0 (by omega) _ _ [] hv.2.2 rfl)
    | succ d ih =>
      intro n hn i s l hi hl
      refine EvS.step (fun q => by rw [spec_l11Setup_L6]) (EvS.bind (Below_sat S (i, s) 4 hS hi) fun v hv => ?_)
      refine EvS.ite (fun _ => EvS.bind (l08Port_sat S v.2.2 hS hv.2.2) fun v1 hv1 => ?_) (fun _ => k2 l (by omega) r0.length 0 (by omega) _ _ [] hv.2.2 rfl)
      rw [w64_succ (by omega)]
      have nx := ih (n + 1) (by omega) v1.2.2.1 v1.2.2.2 l hv1 (by omega)
      exact EvS.ite (fun _ => EvS.ite (fun _ => EvS.pos (by simp only [List.length_singleton]; omega) (ih (n + 1) (by omega) _ _ _ hv1 (by simp only [List.length_append, List.length_singleton]; omega))) (fun _ => nx)) (fun _ => nx)
  exact k1 4 0 (by omega) z3 z4 [] h2.1 (by simp)
/- spec_KernelNew -/
-- needs: spec_l11Setup
/-- A small kernel whose regions are numbers of the machine. -/
def KerP : KernT → Prop
  | (a0, a1, a2, a3, a4, a5, a6, a7, a8, a9, a10, a11) => KSS a0 a1 a2 a3 a4 a5 a6 a7 a8 a9 a10 a11 ∧ (∀ y ∈ a0, I64 y.1) ∧ a0.length ≤ 4
theorem KernelNew_sat (a0 a1 : List Reg) (a2 : List PortT) (a3 : List RuleT) (a4 : List ByteArray) (h0 : a0.length ≤ 4) (hI : ∀ y ∈ a0, I64 y.1) (h1 : a1.length ≤ 5) (h2 : a2.length ≤ 4) (h3 : a3.length ≤ 6) (h4 : a4.length ≤ 4) :
    Sat (g_spec_KernelNew (a0, a1, a2, a3, a4)) (fun r => KerP r.1) := by
  have hn0 : Int.toNat ((List.length a0 : Nat) : Int) = a0.length := Int.toNat_natCast _
  have hn2 : Int.toNat ((List.length a2 : Nat) : Int) = a2.length := Int.toNat_natCast _
  unfold g_spec_KernelNew spec_KernelNew_
  refine Sat.bind (SetupFault_sat a0 a1 a2 a3 a4 (by omega) (by omega) (by omega) (by omega) (by omega)) fun n _ => Sat.ite (fun _ => ?_) (fun _ => ?_)
  · refine Sat.eq (l12Setup_eq a0 a1 a2 a3 a4 (by omega) (by omega) (by omega) (by omega) (by omega)) (Sat.eq ArenaNew_eq ?_)
    refine Sat.pos rfl (Sat.pos (by decide) (Sat.pos (by decide) (Sat.pos rfl (Sat.pos (by omega) (Sat.pos (by omega) (Sat.pos rfl (Sat.pos (by omega) (Sat.pos (by omega) (Sat.ret ?_)))))))))
    rw [hn0, hn2]
    refine ⟨⟨Nat.le_trans h0 (by decide), Nat.le_trans h1 (by decide), Nat.le_trans h2 (by decide), Nat.le_trans h3 (by decide), Nat.le_trans h4 (by decide), ?_, ?_, ?_, ?_, by simp, fun x hx => ?_, fun x hx => ?_⟩, hI, h0⟩
    · rw [List.length_replicate]; decide
    · rw [List.length_replicate]; omega
    · rw [List.length_replicate]; omega
    · rw [List.length_replicate]; decide
    · rw [(List.mem_replicate.1 hx).2]; simp
    · rw [(List.mem_replicate.1 hx).2]; simp
  · refine Sat.ret ⟨⟨by simp, by simp, by simp, by simp, by simp, by simp, by simp, by simp, by simp, by simp, by simp, by simp⟩, by simp, by simp⟩
/- spec_l12Kernel -/
-- needs: spec_KernelNew
theorem TurnP.ker {a0 a1 : List Reg} {a2 : List PortT} {a3 : List RuleT} {a4 : List ByteArray} {a5 : List Int} {a6 : List PartT} {a7 : List LineT} {a8 : List Int} {a9 : Int} {a10 : Bool} {a11 : List PortT} (hI : (∀ y ∈ a0, I64 y.1) ∧ a0.length ≤ 4) {r : KernT} (h : TurnP a0 a1 a2 a3 a4 a5 a6 a7 a8 a9 a10 a11 r) : KerP r := by
  obtain ⟨b5, b6, b7, b8, b9, b10, b11, rfl, h1, _⟩ := h
  exact ⟨h1, hI⟩
theorem l12Kernel_sat (S : List Int) (x : Int × Int) (hS : S.length ≤ 1048576) (hx : 0 ≤ x.1) : Sat (g_spec_l12Kernel (S, x)) (fun r => KerP r.1 ∧ 0 ≤ r.2.2.1) := by
  obtain ⟨i, s⟩ := x
  refine EvS.sat ?_
  unfold spec_l12Kernel_
  refine EvS.bind (l11Setup_sat S (i, s) hS hx) fun v0 h0 => ?_
  obtain ⟨⟨s0, s1, s2, s3, s4⟩, _, z0, z1⟩ := v0
  obtain ⟨hz, q0, qI, q1, q2, q3, q4⟩ := h0
  refine EvS.bind (KernelNew_sat s0 s1 s2 s3 s4 q0 qI q1 q2 q3 q4) fun v1 h1 => ?_
  have key : ∀ (d n : Nat), n + d = 12 → ∀ (i s : Int) (a0 a1 : List Reg) (a2 : List PortT) (a3 : List RuleT) (a4 : List ByteArray) (a5 : List Int) (a6 : List PartT) (a7 : List LineT) (a8 : List Int) (a9 : Int) (a10 : Bool) (a11 : List PortT), 0 ≤ i → KerP (a0, a1, a2, a3, a4, a5, a6, a7, a8, a9, a10, a11) → EvS (fun k => spec_l12Kernel_L3 (fun _ => g_spec_KernelNew) (fun _ => g_spec_TurnOf) (fun _ => g_spec_l01Below) (fun _ => g_spec_l11Setup) (fun _ => g_spec_l12Ins) k ((n : Int), i, s, S, 0, false, a9, a10, [], [], [], [], [], [], [], [], [], [], a0, a1, a2, a3, a4, a5, a6, a7, a8, a11, ())) (fun r => KerP r.1 ∧ 0 ≤ r.2.2.1) := by
    intro d
    induction d with
    | zero =>
      intro n hn i s a0 a1 a2 a3 a4 a5 a6 a7 a8 a9 a10 a11 hi hk
      refine EvS.step (fun q => by rw [spec_l12Kernel_L3]) (EvS.bind (Below_sat S (i, s) 12 hS hi) fun v hv => ?_)
      have h1 := hv.2.1 (by omega)
      exact EvS.neg (by omega) (EvS.ret ⟨hk, hv.2.2⟩)
    | succ d ih =>
      intro n hn i s a0 a1 a2 a3 a4 a5 a6 a7 a8 a9 a10 a11 hi hk
      refine EvS.step (fun q => by rw [spec_l12Kernel_L3]) (EvS.bind (Below_sat S (i, s) 12 hS hi) fun v hv => ?_)
      refine EvS.ite (fun _ => EvS.bind (l12Ins_sat S v.2.2 hS hv.2.2) fun v1 hv1 => EvS.bind (TurnOf_sat a0 a1 a2 a3 a4 a5 a6 a7 a8 a9 a10 a11 v1.1 hk.1) fun v2 hv2 => ?_) (fun _ => EvS.ret ⟨hk, hv.2.2⟩)
      have hk2 := hv2.ker hk.2
      obtain ⟨b0, b1, b2, b3, b4, b5, b6, b7, b8, b9, b10, b11⟩ := v2
      rw [w64_succ (by omega)]
      exact ih (n + 1) (by omega) _ _ b0 b1 b2 b3 b4 b5 b6 b7 b8 b9 b10 b11 hv1 hk2
  obtain ⟨⟨a0, a1, a2, a3, a4, a5, a6, a7, a8, a9, a10, a11⟩, n1⟩ := v1
  exact key 12 0 (by omega) z0 z1 a0 a1 a2 a3 a4 a5 a6 a7 a8 a9 a10 a11 hz h1
/- spec_l01New -/
theorem l01New_ev (l : List Int) (hl : l.length ≤ 1048576) : ∃ x, g_spec_l01New l = some ((), 0, x) := by
  have key : ∀ (d : Nat) (i : Nat), l.length = i + d → ∀ x, ∃ y, Ev (fun k => spec_l01New_L3 k (x, (i : Int), l, ())) ((), (0 : Int), y) := by
    intro d
    induction d with
    | zero =>
      intro i hi x
      exact ⟨x, Ev.step (fun q => by rw [spec_l01New_L3]) (ev_neg (by omega) ev_some)⟩
    | succ d ih =>
      intro i hi x
      by_cases h4 : (i : Int) < 4000
      · obtain ⟨y, hy⟩ := ih (i + 1) (by omega) _
        refine ⟨y, Ev.step (fun q => by rw [spec_l01New_L3]) (ev_pos (by omega) (ev_pos h4 (ev_pos (by omega) (ev_pos (by omega) ?_))))⟩
        rw [w64_succ (by omega)]
        exact hy
      · exact ⟨x, Ev.step (fun q => by rw [spec_l01New_L3]) (ev_pos (by omega) (ev_neg h4 ev_some))⟩
  obtain ⟨y, hy⟩ := key l.length 0 (by omega) _
  exact ⟨y, evG_eq hy⟩
/- spec_DrawKernel -/
-- needs: spec_l12Kernel
theorem DrawKernel_sat (S : List Int) (hS : S.length ≤ 1048576) : Sat (g_spec_DrawKernel S) (fun r => KerP r.1) := by
  obtain ⟨x, ex⟩ := l01New_ev S hS
  unfold g_spec_DrawKernel spec_DrawKernel_
  refine Sat.eq ex (Sat.bind (l12Kernel_sat S (0, x) hS (Int.le_refl 0)) fun v hv => Sat.bind (l12Ins_sat S v.2.2 hS hv.2) fun v2 _ => Sat.ret hv.1)
/- laws_big -/
theorem laws_big_eq (l : List Int) : g_laws_big l = some (decide (1048576 < (l.length : Int))) := rfl
/- laws_FnApartOf -/
-- needs: spec_DrawKernel impl_Apart spec_Apart
theorem t_FnApartOf (x : List Int) : g_laws_FnApartOf x = some true := by
  have main : EvS (fun k => laws_FnApartOf_ (fun _ => g_impl_Apart) (fun _ => g_laws_big) (fun _ => g_spec_Apart) (fun _ => g_spec_DrawKernel) (fun _ => g_spec_TurnOf) (fun _ => g_spec_WindowAt) k x) (fun b => b = true) := by
    unfold laws_FnApartOf_
    refine EvS.eq (laws_big_eq x) (EvS.ite (fun _ => EvS.ret rfl) (fun hb => ?_))
    have hS : x.length ≤ 1048576 := by
      by_cases h : 1048576 < (x.length : Int)
      · exact absurd (decide_eq_true h) hb
      · omega
    refine EvS.bind (DrawKernel_sat x hS) fun v1 h1 => ?_
    obtain ⟨⟨a0, a1, a2, a3, a4, a5, a6, a7, a8, a9, a10, a11⟩, ins⟩ := v1
    obtain ⟨hs, hI, hn4⟩ := h1
    refine EvS.bind (TurnOf_sat a0 a1 a2 a3 a4 a5 a6 a7 a8 a9 a10 a11 ins hs) fun v2 h2 => ?_
    obtain ⟨b5, b6, b7, b8, b9, b10, b11, rfl, hs2, hl6, hv⟩ := h2
    obtain ⟨w, ew, _⟩ := WindowAt_sat a1 a9 (Nat.le_trans hs.h1 (by decide))
    refine EvS.eq ew ?_
    obtain ⟨w0, w1⟩ := w
    have e1 := impl_Apart_eq a0 a1 a2 a3 a4 a5 a6 a7 a8 a9 a10 a11 hs.sm hI a0 a1 a2 a3 a4 a5 a6 a7 a8 a9 a10 a11 hs.sm hI
    have e2 := impl_Apart_eq a0 a1 a2 a3 a4 a5 a6 a7 a8 a9 a10 a11 hs.sm hI a0 a1 a2 a3 a4 b5 b6 b7 b8 b9 b10 b11 hs2.sm hI
    have e3 := spec_Apart_eq a0 a1 a2 a3 a4 a5 a6 a7 a8 a9 a10 a11 hs.sm hI a0 a1 a2 a3 a4 b5 b6 b7 b8 b9 b10 b11 hs2.sm hI
    have h6 := hs.h6
    have h0 := hs.h0
    have key : ∀ (d n : Nat), n + d = a6.length → EvS (fun k => laws_FnApartOf_L7 (fun _ => g_impl_Apart) (fun _ => g_laws_big) (fun _ => g_spec_Apart) (fun _ => g_spec_DrawKernel) (fun _ => g_spec_TurnOf) (fun _ => g_spec_WindowAt) k (((n + 1 : Nat) : Int), a9, a10, b9, b10, w0, w1, a0, a1, a2, a3, a4, a5, a6, a7, a8, a11, a0, a1, a2, a3, a4, b5, b6, b7, b8, b11, ())) (fun b => b = true) := by
      intro d
      induction d with
      | zero =>
        intro n hn
        refine EvS.step (fun q => by rw [laws_FnApartOf_L7]) (EvS.neg (by omega) (EvS.eq (e2 9) (EvS.ret ?_)))
        rw [decide_eq_true_iff]
        unfold pview
        rw [if_neg (by omega), if_neg (by omega)]
      | succ d ih =>
        intro n hn
        have hih := ih (n + 1) (by omega)
        have hw : wrap64 (((n + 1 : Nat) : Int) + 1) = ((n + 1 + 1 : Nat) : Int) := by rw [w64 (by omega) (by omega)]; omega
        refine EvS.step (fun q => by rw [laws_FnApartOf_L7]) (EvS.pos (by omega) (EvS.eq (e1 _) (EvS.pos (decide_eq_true rfl) (EvS.eq (e2 _) (EvS.eq (e3 _) (EvS.pos (beq_self_eq_true _) ?_))))))
        rw [hw]
        refine EvS.ite (fun _ => hih) (fun hne => EvS.ite (fun _ => hih) (fun hst => EvS.eq (e2 _) (EvS.pos ?_ hih)))
        rw [decide_eq_true_iff]
        rcases hv with hv | hv
        · exact absurd hv hst
        · exact hv (w0, w1) ew _ hne
    exact key a6.length 0 (by omega)
  obtain ⟨b, hb, rfl⟩ := EvS.sat (f := fun k => laws_FnApartOf_ (fun _ => g_impl_Apart) (fun _ => g_laws_big) (fun _ => g_spec_Apart) (fun _ => g_spec_DrawKernel) (fun _ => g_spec_TurnOf) (fun _ => g_spec_WindowAt) k) main
  exact hb
end Go.Sx.T
