/- Orders there and back. -/
import Derived.Test.YtkcfdkfdmglamaaSyP16
set_option linter.unusedVariables false
set_option linter.unusedSimpArgs false
namespace Go.Sx
open Go.RowKit (wrap64)
theorem orderT_ok (o : Order) : (orderT o).2 = orderOk o := by
  by_cases h : orderOk o = true
  · rw [(readO_order h).1, h]
  · unfold orderT
    rw [if_neg h, Bool.eq_false_iff.2 h]
theorem orderT_size (o : Order) : (orderT o).1.size ≤ 11 := by
  by_cases h : orderOk o = true
  · exact (readO_order h).2.1
  · unfold orderT
    rw [if_neg h]
    exact Nat.zero_le _
theorem readO_back {t : ByteArray} (h : (readO t).2 = true) : (orderT (readO t).1).1 = t := by
  by_cases hu : (unsealT t).2 = true ∧ 0 < (unsealT t).1.size
  case neg =>
    unfold readO at h
    rw [if_neg hu] at h
    cases h
  obtain ⟨hz, hj⟩ := unsealT_ok hu.1
  unfold readO at h ⊢
  rw [if_pos hu] at h ⊢
  have h0 := hu.2
  clear hu
  generalize (unsealT t).1 = s at hz hj h h0 ⊢
  by_cases hb : (numberF (numberF (numberF (s, 1, false)).2).2).2.2.2 = true
  · rw [if_pos hb] at h
    cases h
  rw [if_neg hb] at h ⊢
  have hb' : (numberF (numberF (numberF (s, 1, false)).2).2).2.2.2 = false := by simpa using hb
  obtain ⟨N1, N2, N3, e, r1, r2, r3, r4, le, tx⟩ := numberF_three h0 hb'
  rw [r1, r2, r3, r4] at h ⊢
  by_cases hc : (e : Int) = (s.size : Int) ∧ orderOk (byt s 0, (N1 : Int), (N2 : Int), (N3 : Int)) = true
  · rw [if_pos hc]
    unfold orderT
    rw [if_pos hc.2, tx, (seal_same s e hz le).2.2 (Int.ofNat_inj.1 hc.1)]
    exact hj
  · rw [if_neg hc] at h
    cases h
theorem readO_bent {t : ByteArray} (h : (unsealT t).2 = false) : readO t = ((0, 0, 0, 0), false) := by
  unfold readO
  rw [if_neg (fun q => by rw [h] at q; cases q.1)]
theorem orderT_turned {o : Order} (h : orderOk o = true) {t : ByteArray} {i : Nat} {y : UInt8} (hi : i < (orderT o).1.size) (ht : bl t = (bl (orderT o).1).set i y) (hy : (bl (orderT o).1)[i]? ≠ some y) : (unsealT t).2 = false := by
  have h2 := (readO_order h).1
  unfold orderT at h2 hi ht hy
  rw [if_pos h] at h2 hi ht hy
  unfold sealT at h2 hi ht hy
  by_cases hs : 20000 < (otext o).size
  · rw [if_pos hs] at h2
    cases h2
  · rw [if_neg hs] at hi ht hy
    have hi : i < (otext o ++ four (sumOf (otext o))).size := hi
    rw [size_append, four_size] at hi
    exact unseal_turned (by omega) hi ht hy
end Go.Sx
