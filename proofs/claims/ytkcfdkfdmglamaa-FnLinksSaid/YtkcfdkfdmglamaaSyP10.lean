/- An order's text tells the order. -/
import Derived.Test.YtkcfdkfdmglamaaSyP9
set_option linter.unusedVariables false
set_option linter.unusedSimpArgs false
namespace Go.Sx
open Go.RowKit (wrap64)
theorem byN_bl (s : ByteArray) (i : Nat) : byN s i = (((bl s)[i]?).map UInt8.toNat).getD 0 := by
  unfold byN
  by_cases h : i < s.size
  · rw [dif_pos h]
    have : (bl s)[i]? = some (s[i]'h) := by
      have h2 : i < (bl s).length := by rw [bl_len]; exact h
      rw [List.getElem?_eq_getElem h2]
      rfl
    rw [this]; rfl
  · rw [dif_neg h]
    have : (bl s)[i]? = none := by
      rw [List.getElem?_eq_none]
      rw [bl_len]; omega
    rw [this]; rfl
theorem byN_mid (A V B : ByteArray) (j : Nat) (hj : j < V.size) : byN (A ++ V ++ B) (A.size + j) = byN V j := by
  rw [byN_bl, byN_bl, bl_append, bl_append]
  have h1 : A.size + j < (bl A ++ bl V).length := by rw [List.length_append, bl_len, bl_len]; omega
  rw [List.getElem?_append_left h1, List.getElem?_append_right (by rw [bl_len]; omega), bl_len, Nat.add_sub_cancel_left]
theorem byN_varT (n j : Nat) : byN (varT n) j = ((varL n)[j]?).getD 0 := by
  rw [byN_bl, bl_varT, List.getElem?_map]
  cases h : (varL n)[j]? with
  | none => rfl
  | some x =>
    have hx := varL_le n x (List.mem_of_getElem? h)
    simp only [Option.map_some, Option.getD_some, UInt8.toNat_ofNat']
    omega
theorem varL_one {n : Nat} (h : n ≤ 127) : varL n = [n] := by unfold varL; rw [dif_pos h]
theorem varL_two {n : Nat} (h : 127 < n) (h2 : n ≤ 16383) : varL n = [n % 128 + 128, n / 128] := by
  unfold varL
  rw [dif_neg (by omega), varL_one (by omega)]
theorem size_app3 (A V B : ByteArray) : (A ++ V ++ B).size = A.size + V.size + B.size := by rw [size_append, size_append]
theorem varT_len (n : Nat) : (varT n).size = (varL n).length := by unfold varT; rw [size_bstr, List.length_map]
theorem readV_put (A B : ByteArray) {n : Nat} (h : n ≤ 16383) : readV (A ++ varT n ++ B) (A.size : Int) = ((n : Int), ((A.size + (varT n).size : Nat) : Int), true) := by
  have hs := size_app3 A (varT n) B
  have h1 := varT_size1 n
  unfold readV
  rw [if_pos ⟨by omega, by omega⟩, Int.toNat_natCast]
  have hb := fun j hj => (byN_mid A (varT n) B j hj).trans (byN_varT n j)
  have hl := varT_len n
  generalize A ++ varT n ++ B = s at *
  by_cases hn : n ≤ 127
  · rw [varL_one hn] at hl hb
    have hl : (varT n).size = 1 := hl
    have b0 := hb 0 (by omega)
    have b0 : byN s (A.size + 0) = n := b0
    unfold rdv
    rw [if_pos (by omega), b0, if_neg (by omega), if_neg (by omega)]
    have e : 0 + n % 128 * 128 ^ 0 = n := by omega
    rw [e, hl]
  · rw [varL_two (by omega) h] at hl hb
    have hl : (varT n).size = 2 := hl
    have b0 : byN s (A.size + 0) = n % 128 + 128 := hb 0 (by omega)
    have b1 : byN s (A.size + 1) = n / 128 := hb 1 (by omega)
    unfold rdv
    rw [if_pos (by omega), b0, if_pos (by omega)]
    unfold rdv
    rw [if_pos (by omega), b1, if_neg (by omega)]
    have e : 0 + (n % 128 + 128) % 128 * 128 ^ 0 + n / 128 % 128 * 128 ^ (0 + 1) = n := by omega
    rw [e, if_neg (by omega), hl]
theorem front_app (s : ByteArray) (v : Int) : front (s ++ four v) = s := by
  apply ba_ext
  unfold front
  rw [bl_extract, List.drop_zero, bl_append, size_append, four_size, Nat.add_sub_cancel, size_bl, List.take_left]
theorem unseal_seal {s : ByteArray} (h : s.size ≤ 20000) : unsealT (s ++ four (sumOf s)) = (s, true) := by
  unfold unsealT
  rw [front_app, if_neg (by rw [size_append, four_size]; omega), if_pos ⟨h, rfl⟩]
theorem varT_size2 {n : Nat} (h : n ≤ 16383) : (varT n).size ≤ 2 := by
  rw [varT_len]
  exact varL_long 1 n (by omega)
theorem numberF_put (A B : ByteArray) {n : Nat} (h : n ≤ 16383) : numberF (A ++ varT n ++ B, (A.size : Int), false) = ((n : Int), (A ++ varT n ++ B, ((A.size + (varT n).size : Nat) : Int), false)) := by
  have e := readV_put A B h
  unfold numberF
  simp only [Bool.false_eq_true, if_false]
  rw [e]
  rfl
theorem app_assoc (a b c : ByteArray) : a ++ b ++ c = a ++ (b ++ c) := by
  apply ba_ext
  simp only [bl_append, List.append_assoc]
theorem app_nil (a : ByteArray) : a ++ (⟨#[]⟩ : ByteArray) = a := by
  apply ba_ext
  rw [bl_append, bl_empty, List.append_nil]
theorem numberF_three_put (A : ByteArray) {b c x : Nat} (hA : A.size = 1) (hb : b ≤ 16383) (hc : c ≤ 16383) (hx : x ≤ 16383) :
    numberF (A ++ varT b ++ varT c ++ varT x, 1, false) = ((b : Int), (A ++ varT b ++ varT c ++ varT x, ((1 + (varT b).size : Nat) : Int), false)) ∧
    numberF (A ++ varT b ++ varT c ++ varT x, ((1 + (varT b).size : Nat) : Int), false) = ((c : Int), (A ++ varT b ++ varT c ++ varT x, ((1 + (varT b).size + (varT c).size : Nat) : Int), false)) ∧
    numberF (A ++ varT b ++ varT c ++ varT x, ((1 + (varT b).size + (varT c).size : Nat) : Int), false) = ((x : Int), (A ++ varT b ++ varT c ++ varT x, ((1 + (varT b).size + (varT c).size + (varT x).size : Nat) : Int), false)) := by
  have e1 : A ++ varT b ++ varT c ++ varT x = A ++ varT b ++ (varT c ++ varT x) := app_assoc _ _ _
  have e3 : A ++ varT b ++ varT c ++ varT x = (A ++ varT b ++ varT c) ++ varT x ++ ⟨#[]⟩ := (app_nil _).symm
  have p1 := numberF_put A (varT c ++ varT x) hb
  have p2 := numberF_put (A ++ varT b) (varT x) hc
  have p3 := numberF_put (A ++ varT b ++ varT c) ⟨#[]⟩ hx
  rw [← e1, hA] at p1
  rw [← e3] at p3
  rw [size_append, size_append, hA] at p3
  rw [size_append, hA] at p2
  exact ⟨p1, p2, p3⟩
/-- An order's text is read as the order. -/
theorem readO_order {o : Order} (h : orderOk o = true) : (orderT o).2 = true ∧ (orderT o).1.size ≤ 11 ∧ 5 ≤ (orderT o).1.size ∧ readO (orderT o).1 = (o, true) := by
  obtain ⟨a, b, c, x⟩ := o
  have hp := orderOk_den h
  unfold OrderOkP at hp
  have ha : 1 ≤ a ∧ a ≤ 6 := by omega
  have hb : 0 ≤ b ∧ b ≤ 16383 := by omega
  have hc : 0 ≤ c ∧ c ≤ 16383 := by omega
  have hx : 0 ≤ x ∧ x ≤ 16383 := by omega
  clear hp
  obtain ⟨nb, rfl⟩ := Int.eq_ofNat_of_zero_le hb.1
  obtain ⟨nc, rfl⟩ := Int.eq_ofNat_of_zero_le hc.1
  obtain ⟨nx, rfl⟩ := Int.eq_ofNat_of_zero_le hx.1
  have s1 : (bstr [wr .u8 a]).size = 1 := by rw [size_bstr]; rfl
  have z1 := varT_size2 (n := nb) (by omega)
  have z2 := varT_size2 (n := nc) (by omega)
  have z3 := varT_size2 (n := nx) (by omega)
  obtain ⟨n1, n2, n3⟩ := numberF_three_put (bstr [wr .u8 a]) (b := nb) (c := nc) (x := nx) s1 (by omega) (by omega) (by omega)
  have eo : otext (a, (nb : Int), (nc : Int), (nx : Int)) = bstr [wr .u8 a] ++ varT nb ++ varT nc ++ varT nx := by
    unfold otext
    simp only [Int.toNat_natCast]
  have b0 : byt (bstr [wr .u8 a] ++ varT nb ++ varT nc ++ varT nx) 0 = a := by
    have h1 : byt (bstr [wr .u8 a] ++ varT nb ++ varT nc ++ varT nx) ((0 : Nat) : Int) = (byN (bstr [wr .u8 a] ++ varT nb ++ varT nc ++ varT nx) 0 : Int) := byt_byN _ 0
    have h2 : byN (bstr [wr .u8 a] ++ varT nb ++ varT nc ++ varT nx) 0 = (UInt8.ofNat (wr .u8 a).toNat).toNat := by
      rw [byN_bl]
      simp only [bl_append, List.append_assoc]
      rfl
    have h3 : ((UInt8.ofNat (wr .u8 a).toNat).toNat : Int) = a := by
      rw [wr8, UInt8.toNat_ofNat']
      omega
    have h1 : byt (bstr [wr .u8 a] ++ varT nb ++ varT nc ++ varT nx) 0 = _ := h1
    rw [h1, h2, h3]
  have hsz : (bstr [wr .u8 a] ++ varT nb ++ varT nc ++ varT nx).size = 1 + (varT nb).size + (varT nc).size + (varT nx).size := by
    rw [size_append, size_append, size_append, s1]
  unfold orderT
  rw [if_pos h]
  unfold sealT
  rw [eo]
  generalize bstr [wr .u8 a] ++ varT nb ++ varT nc ++ varT nx = T at *
  have hlt : ¬ 20000 < T.size := by omega
  rw [if_neg hlt]
  refine ⟨rfl, ?_, ?_, ?_⟩
  · show (T ++ four (sumOf T)).size ≤ 11
    rw [size_append, four_size]; omega
  · show 5 ≤ (T ++ four (sumOf T)).size
    rw [size_append, four_size]; omega
  · show readO (T ++ four (sumOf T)) = _
    unfold readO
    rw [unseal_seal (by omega)]
    simp only []
    rw [if_pos ⟨trivial, by omega⟩, n1]
    simp only []
    rw [n2]
    simp only []
    rw [n3]
    simp only []
    rw [if_neg (by simp), if_pos ⟨by rw [hsz], by rw [b0]; exact h⟩, b0]
end Go.Sx
