/- One tick of a new device: an order by keys, by the link, by a spoilt link. -/
import Derived.Test.YtkcfdkfdmglamaaSyP17
set_option linter.unusedVariables false
set_option linter.unusedSimpArgs false
namespace Go.Sx
open Go.RowKit (wrap64)
theorem give_state1 {n d r l b g k m : Int} : 1 ≤ (give (1, n, d, r, l, b, g, k) m).1 := by
  unfold give
  simp only []
  split
  · split
    · show (1 : Int) ≤ 2; decide
    · show (1 : Int) ≤ 1; decide
  · show (1 : Int) ≤ 1; decide
theorem told_state {num den vol : Int} (h : orderOk (1, num, den, vol) = true) : 1 ≤ (tick (told num den vol) inE).1 := by
  have e := tick_empty (told_ok h) (by simp) (by omega)
  unfold told
  rw [e]
  exact give_state1
theorem tick_refused {t : ByteArray} (hz : t.size ≠ 0) (h40 : t.size ≤ 40) (h : (readO t).2 = false) : ∃ past ts, tick devNew (0, ⟨#[]⟩, t) = dev (0, 0, 1, 0, 0, 0, 0, 0) past 0 menuNew ts 1 := by
  have e0 : devNew = dev (0, 0, 1, 0, 0, 0, 0, 0) [] 0 menuNew [] 0 := rfl
  have hd0 : deviceOk (0, 0, 1, 0, 0, 0, 0, 0) [] 0 menuNew [] 0 = true := deviceOk_mk pumpNew_ok rfl menuNew_ok (Nat.zero_le _) (by omega)
  have hi : inOk (0, ⟨#[]⟩, t) = true := by
    unfold inOk
    show (senseOk 0 && (decide ((⟨#[]⟩ : ByteArray).size ≤ 20) && decide (t.size ≤ 40))) = true
    rw [decide_eq_true h40]
    rfl
  have ho : ordersOf menuNew (0, ⟨#[]⟩, t) = (menuNew, []) := by
    unfold ordersOf
    show (if (readO t).2 = true then _ else _) = _
    rw [if_neg (by rw [h]; exact Bool.false_ne_true)]
    rfl
  have hb1 : behind (0, 0, 1, 0, 0, 0, 0, 0) menuNew 0 (0, ⟨#[]⟩, t) = ((0, 0, 1, 0, 0, 0, 0, 0), 1) := by
    unfold behind
    rw [ho]
    rw [if_pos ⟨hz, h⟩]
    rfl
  have hs : seenF (ordersOf menuNew (0, ⟨#[]⟩, t)).2 = false := by rw [ho]; rfl
  have hf : feel [] 0 (0, (⟨#[]⟩ : ByteArray), t).1 false = 0 := feel_empty rfl
  have hp : tickP (0, 0, 1, 0, 0, 0, 0, 0) [] 0 = (0, 0, 1, 0, 0, 0, 0, 0) := rfl
  have e := tickD_live hd0 hi (by simp) (by omega)
  rw [hb1, hs, ho, hf, hp] at e
  exact ⟨_, _, e⟩
theorem links_nums (X Y Z : Int) (hX : 0 ≤ X) (hY : 0 ≤ Y) (hZ : 0 ≤ Z) : ∃ num den vol : Nat, wrap64 (1 + Int.tmod X 9) = (den : Int) ∧ wrap64 (3 * wrap64 (1 + Int.tmod X 9)) = ((3 * den : Nat) : Int) ∧ wrap64 (1 + Int.tmod Y (wrap64 (3 * wrap64 (1 + Int.tmod X 9)))) = (num : Int) ∧ wrap64 (1 + Int.tmod Z 90) = (vol : Int) ∧
    1 ≤ den ∧ den ≤ 9 ∧ 1 ≤ num ∧ num ≤ 3 * den ∧ 1 ≤ vol ∧ vol ≤ 90 := by
  have e1 : Int.tmod X 9 = ((X.toNat % 9 : Nat) : Int) := tmod_at hX 9
  have e3 : Int.tmod Z 90 = ((Z.toNat % 90 : Nat) : Int) := tmod_at hZ 90
  have b1 := Nat.mod_lt X.toNat (show 0 < 9 by decide)
  have b3 := Nat.mod_lt Z.toNat (show 0 < 90 by decide)
  generalize X.toNat % 9 = x at e1 b1
  generalize Z.toNat % 90 = z at e3 b3
  have d1 : wrap64 (1 + Int.tmod X 9) = ((1 + x : Nat) : Int) := by rw [e1, w64 (by omega) (by omega)]; omega
  have d3 : wrap64 (3 * wrap64 (1 + Int.tmod X 9)) = ((3 * (1 + x) : Nat) : Int) := by rw [d1, w64 (by omega) (by omega)]; omega
  have e2 := tmod_at hY (3 * (1 + x))
  have b2 := Nat.mod_lt Y.toNat (show 0 < 3 * (1 + x) by omega)
  generalize Y.toNat % (3 * (1 + x)) = y at e2 b2
  refine ⟨1 + y, 1 + x, 1 + z, d1, d3, ?_, ?_, by omega, by omega, by omega, by omega, by omega, by omega⟩
  · rw [d3, e2, w64 (by omega) (by omega)]; omega
  · rw [e3, w64 (by omega) (by omega)]; omega
theorem links_order {num den vol : Nat} (h : 1 ≤ den ∧ den ≤ 9 ∧ 1 ≤ num ∧ num ≤ 3 * den ∧ 1 ≤ vol ∧ vol ≤ 90) : orderOk (1, (num : Int), (den : Int), (vol : Int)) = true := by
  refine decide_eq_true ?_
  unfold OrderOkP
  omega
theorem told_keys {num den vol : Nat} (h : orderOk (1, (num : Int), (den : Int), (vol : Int)) = true) (h1 : num < 10000) (h2 : den < 10000) (h3 : vol < 10000) :
    tick devNew (0, bn [98] ++ decT num ++ bn [10] ++ decT den ++ bn [10] ++ decT vol ++ bn [10], ⟨#[]⟩) = tick (told num den vol) inE := by
  have z1 := decT_size (n := num)
  have z2 := decT_size (n := den)
  have z3 := decT_size (n := vol)
  have ho := pressAll_basal h1 h2 h3
  rw [if_pos h] at ho
  have hz : (bn [98] ++ decT num ++ bn [10] ++ decT den ++ bn [10] ++ decT vol ++ bn [10]).size ≤ 20 := by
    have y1 : (bn [98]).size = 1 := rfl
    have y2 : (bn [10]).size = 1 := rfl
    simp only [size_append]; omega
  generalize bn [98] ++ decT num ++ bn [10] ++ decT den ++ bn [10] ++ decT vol ++ bn [10] = K at ho hz ⊢
  refine tick_told h ?_ rfl ?_ (fun q => absurd rfl q)
  · unfold inOk
    show (senseOk 0 && (decide (K.size ≤ 20) && decide ((⟨#[]⟩ : ByteArray).size ≤ 40))) = true
    rw [decide_eq_true hz]
    rfl
  · unfold ordersOf
    have hr : (readO (⟨#[]⟩ : ByteArray)).2 = false := rfl
    show (if (readO (⟨#[]⟩ : ByteArray)).2 = true then _ else pressAll menuNew K) = _
    rw [hr, if_neg Bool.false_ne_true, ho]
end Go.Sx
