/- Typed numbers. -/
import Derived.Test.YtkcfdkfdmglamaaSyP5
set_option linter.unusedVariables false
set_option linter.unusedSimpArgs false
namespace Go.Sx
open Go.RowKit (wrap64)
def decL (n : Nat) : List Nat :=
  if n < 10 then [48 + n] else if n < 100 then [48 + n / 10, 48 + n % 10] else if n < 1000 then [48 + n / 100, 48 + n / 10 % 10, 48 + n % 10] else [48 + n / 1000, 48 + n / 100 % 10, 48 + n / 10 % 10, 48 + n % 10]
def bn (l : List Nat) : ByteArray := bstr (l.map fun (x : Nat) => (x : Int))
def decT (n : Nat) : ByteArray := bn (decL n)
theorem bl_bn (l : List Nat) : bl (bn l) = l.map UInt8.ofNat := by
  unfold bn
  rw [bl_bstr, List.map_map]
  rfl
theorem bn_append (l m : List Nat) : bn l ++ bn m = bn (l ++ m) := by
  apply ba_ext
  rw [bl_append, bl_bn, bl_bn, bl_bn, List.map_append]
theorem bn_size (l : List Nat) : (bn l).size = l.length := by rw [size_bl, bl_bn, List.length_map]
theorem decL_len {n : Nat} : (decL n).length ≤ 4 := by
  unfold decL
  split
  · simp
  · split
    · simp
    · split <;> simp
theorem decL_dig {n : Nat} (h : n < 10000) : ∀ x ∈ decL n, 48 ≤ x ∧ x ≤ 57 := by
  unfold decL
  intro x hx
  split at hx
  · simp at hx; omega
  · split at hx
    · simp at hx; omega
    · split at hx
      · simp at hx; omega
      · simp at hx; omega
theorem decT_size {n : Nat} : (decT n).size ≤ 4 := by
  unfold decT
  rw [bn_size]
  exact decL_len
theorem fig_step (x z : Nat) (hx : 48 ≤ x ∧ x ≤ 57) (hz : z ≤ 100000) : wrap64 ((wrap64 (10 * (z : Int))) + (((x : Int) - 48) % 256)) = ((10 * z + (x - 48) : Nat) : Int) := by
  have e1 : wrap64 (10 * (z : Int)) = 10 * (z : Int) := w64 (by omega) (by omega)
  have e2 : ((x : Int) - 48) % 256 = ((x - 48 : Nat) : Int) := by omega
  rw [e1, e2]
  have e3 : 10 * (z : Int) + ((x - 48 : Nat) : Int) = ((10 * z + (x - 48) : Nat) : Int) := by omega
  rw [e3]
  exact w64 (by omega) (by omega)
theorem u8_nat (x : Nat) (hx : x ≤ 255) : ((UInt8.ofNat x).toNat : Int) = (x : Int) := by
  rw [UInt8.toNat_ofNat']; omega
theorem numF_step (x : Nat) (hx : 48 ≤ x ∧ x ≤ 57) (l : List UInt8) (z : Nat) (hz : z ≤ 100000) : numF (UInt8.ofNat x :: l) (z : Int) = numF l ((10 * z + (x - 48) : Nat) : Int) := by
  have e := u8_nat x (by omega)
  have e2 := fig_step x z hx hz
  rw [← e] at e2
  rw [← e2, numF]
theorem num_dec {n : Nat} (h : n < 10000) : num (decT n) = (n : Int) := by
  unfold num decT
  rw [bl_bn]
  have hd := decL_dig h
  have z0 : (0 : Int) = ((0 : Nat) : Int) := rfl
  unfold decL at hd ⊢
  rw [z0]
  split
  · rename_i h1
    rw [if_pos h1] at hd
    rw [List.map_cons, numF_step _ (hd _ (by simp)) _ _ (by omega)]
    simp only [List.map_nil, numF]
    omega
  · rename_i h1
    rw [if_neg h1] at hd
    split
    · rename_i h2
      rw [if_pos h2] at hd
      rw [List.map_cons, List.map_cons, numF_step _ (hd _ (by simp)) _ _ (by omega), numF_step _ (hd _ (by simp)) _ _ (by omega)]
      simp only [List.map_nil, numF]
      omega
    · rename_i h2
      rw [if_neg h2] at hd
      split
      · rename_i h3
        rw [if_pos h3] at hd
        rw [List.map_cons, List.map_cons, List.map_cons, numF_step _ (hd _ (by simp)) _ _ (by omega), numF_step _ (hd _ (by simp)) _ _ (by omega), numF_step _ (hd _ (by simp)) _ _ (by omega)]
        simp only [List.map_nil, numF]
        omega
      · rename_i h3
        rw [if_neg h3] at hd
        rw [List.map_cons, List.map_cons, List.map_cons, List.map_cons, numF_step _ (hd _ (by simp)) _ _ (by omega), numF_step _ (hd _ (by simp)) _ _ (by omega), numF_step _ (hd _ (by simp)) _ _ (by omega), numF_step _ (hd _ (by simp)) _ _ (by omega)]
        simp only [List.map_nil, numF]
        omega
theorem digits_bn (l : List Nat) (h : ∀ x ∈ l, 48 ≤ x ∧ x ≤ 57) : digitsOk (bl (bn l)) = true := by
  rw [bl_bn]
  induction l with
  | nil => rfl
  | cons x l ih =>
    rw [List.map_cons, digitsOk_cons, ih (fun y hy => h y (List.mem_cons_of_mem _ hy)), UInt8.toNat_ofNat']
    have := h x List.mem_cons_self
    simp
    omega
/-- Figures that are pressed are kept. -/
theorem press_figs (a n d : Int) (b : Bool) (ha : 2 ≤ a ∧ a ≤ 4) (hn : 0 ≤ n ∧ n ≤ 9999) (hd : 0 ≤ d ∧ d ≤ 9999) (os : List Order) : ∀ (l p : List Nat), (∀ x ∈ p, 48 ≤ x ∧ x ≤ 57) → (∀ x ∈ l, 48 ≤ x ∧ x ≤ 57) → p.length + l.length ≤ 4 →
    pressL (l.map UInt8.ofNat) (a, b, n, d, bn p) os = ((a, b, n, d, bn (p ++ l)), os)
  | [], p, _, _, _ => by rw [List.append_nil]; rfl
  | x :: l, p, hp, hl, hs => by
    have hx := hl x List.mem_cons_self
    simp only [List.length_cons] at hs
    have ih := press_figs a n d b ha hn hd os l (p ++ [x]) (fun y hy => by
      rcases List.mem_append.1 hy with hy | hy
      · exact hp y hy
      · rw [List.mem_singleton] at hy; subst hy; exact hx) (fun y hy => hl y (List.mem_cons_of_mem _ hy)) (by rw [List.length_append, List.length_singleton]; omega)
    have e : ((UInt8.ofNat x).toNat : Int) = (x : Int) := by
      rw [UInt8.toNat_ofNat']; omega
    have hok : menuOk (a, b, n, d, bn p) = true := menuOk_mk ⟨digits_bn p hp, by omega, hn, hd, by rw [bn_size]; omega, fun q => by omega⟩
    have hpr : press (a, b, n, d, bn p) (x : Int) = ((a, b, n, d, bn p ++ bn [x]), (0, 0, 0, 0), false) := by
      unfold press
      simp only []
      have c1 : ¬ a = 1 := by omega
      have c2 : ¬ (x : Int) = 10 := by omega
      have c3 : ¬ (x : Int) = 99 := by omega
      have c4 : (48 ≤ (x : Int) ∧ (x : Int) ≤ 57) ∧ (bn p).size < 4 := ⟨by omega, by rw [bn_size]; omega⟩
      have c5 : (x : Int) % 256 = (x : Int) := by omega
      rw [if_pos hok, if_neg c1, if_neg c2, if_neg c3, if_pos c4, c5]
      rfl
    rw [List.map_cons]
    show pressL (l.map UInt8.ofNat) (press (a, b, n, d, bn p) ((UInt8.ofNat x).toNat : Int)).1 (if (press (a, b, n, d, bn p) ((UInt8.ofNat x).toNat : Int)).2.2 = true then os ++ [(press (a, b, n, d, bn p) ((UInt8.ofNat x).toNat : Int)).2.1] else os) = _
    rw [e, hpr, bn_append]
    rw [List.append_assoc] at ih
    exact ih
theorem press_dec (a n d : Int) (b : Bool) (ha : 2 ≤ a ∧ a ≤ 4) (hn : 0 ≤ n ∧ n ≤ 9999) (hd : 0 ≤ d ∧ d ≤ 9999) (os : List Order) {m : Nat} (hm : m < 10000) :
    pressL (bl (decT m)) (a, b, n, d, ⟨#[]⟩) os = ((a, b, n, d, decT m), os) := by
  unfold decT
  rw [bl_bn]
  exact press_figs a n d b ha hn hd os (decL m) [] (fun x hx => by cases hx) (decL_dig hm) (by have := decL_len (n := m); simpa using this)
theorem menuOk_dec {a n d : Int} {b : Bool} (ha : 2 ≤ a ∧ a ≤ 4) (hn : 0 ≤ n ∧ n ≤ 9999) (hd : 0 ≤ d ∧ d ≤ 9999) {m : Nat} (hm : m < 10000) : menuOk (a, b, n, d, decT m) = true :=
  menuOk_mk ⟨digits_bn _ (decL_dig hm), by omega, hn, hd, decT_size, fun q => by omega⟩
theorem press_one (c : Nat) (m m' : Menu) (os : List Order) (hc : c < 256) (h : (press m (c : Int)).1 = m') (h2 : (press m (c : Int)).2.2 = false) : pressL (bl (bn [c])) m os = (m', os) := by
  rw [bl_bn]
  have e : ((UInt8.ofNat c).toNat : Int) = (c : Int) := by
    rw [UInt8.toNat_ofNat']; omega
  show pressL [] (press m ((UInt8.ofNat c).toNat : Int)).1 (if (press m ((UInt8.ofNat c).toNat : Int)).2.2 = true then os ++ [(press m ((UInt8.ofNat c).toNat : Int)).2.1] else os) = _
  rw [e, h, h2]
  rfl
theorem press_last (c : Nat) (m : Menu) (os : List Order) (hc : c < 256) (k n d x : Int) (h : press m (c : Int) = sent k n d x) : pressL (bl (bn [c])) m os = (menuNew, os ++ (if orderOk (k, n, d, x) = true then [(k, n, d, x)] else [])) := by
  rw [bl_bn]
  have e : ((UInt8.ofNat c).toNat : Int) = (c : Int) := by
    rw [UInt8.toNat_ofNat']; omega
  show pressL [] (press m ((UInt8.ofNat c).toNat : Int)).1 (if (press m ((UInt8.ofNat c).toNat : Int)).2.2 = true then os ++ [(press m ((UInt8.ofNat c).toNat : Int)).2.1] else os) = _
  rw [e, h]
  unfold sent
  by_cases ho : orderOk (k, n, d, x) = true
  · rw [if_pos ho, if_pos ho]; rfl
  · rw [if_neg ho, if_neg ho]; simp [pressL]
theorem new_b : press menuNew 98 = ((2, false, 0, 0, ⟨#[]⟩), (0, 0, 0, 0), false) := by
  have h : menuOk menuNew = true := menuNew_ok
  unfold menuNew at h ⊢
  unfold press
  simp only []
  rw [if_pos h]
  simp
theorem new_o : press menuNew 111 = ((4, true, 0, 0, ⟨#[]⟩), (0, 0, 0, 0), false) := by
  have h : menuOk menuNew = true := menuNew_ok
  unfold menuNew at h ⊢
  unfold press
  simp only []
  rw [if_pos h]
  simp
theorem pressAll_basal {n1 n2 n3 : Nat} (h1 : n1 < 10000) (h2 : n2 < 10000) (h3 : n3 < 10000) :
    pressAll menuNew (bn [98] ++ decT n1 ++ bn [10] ++ decT n2 ++ bn [10] ++ decT n3 ++ bn [10]) = (menuNew, if orderOk (1, (n1 : Int), (n2 : Int), (n3 : Int)) = true then [(1, (n1 : Int), (n2 : Int), (n3 : Int))] else []) := by
  unfold pressAll
  simp only [bl_append, pressL_app]
  rw [press_one 98 menuNew (2, false, 0, 0, ⟨#[]⟩) [] (by omega) (by rw [show ((98 : Nat) : Int) = 98 from rfl, new_b]) (by rw [show ((98 : Nat) : Int) = 98 from rfl, new_b])]
  simp only []
  rw [press_dec 2 0 0 false (by omega) (by omega) (by omega) [] h1]
  simp only []
  have p2 : press (2, false, 0, 0, decT n1) ((10 : Nat) : Int) = ((3, false, (n1 : Int), 0, ⟨#[]⟩), (0, 0, 0, 0), false) := by
    have hok := menuOk_dec (a := 2) (n := 0) (d := 0) (b := false) (by omega) (by omega) (by omega) h1
    unfold press
    simp only []
    rw [if_pos hok]
    simp [num_dec h1]
  rw [press_one 10 _ (3, false, (n1 : Int), 0, ⟨#[]⟩) [] (by omega) (by rw [p2]) (by rw [p2])]
  simp only []
  rw [press_dec 3 (n1 : Int) 0 false (by omega) (by omega) (by omega) [] h2]
  simp only []
  have p3 : press (3, false, (n1 : Int), 0, decT n2) ((10 : Nat) : Int) = ((4, false, (n1 : Int), (n2 : Int), ⟨#[]⟩), (0, 0, 0, 0), false) := by
    have hok := menuOk_dec (a := 3) (n := (n1 : Int)) (d := 0) (b := false) (by omega) (by omega) (by omega) h2
    unfold press
    simp only []
    rw [if_pos hok]
    simp [num_dec h2]
  rw [press_one 10 _ (4, false, (n1 : Int), (n2 : Int), ⟨#[]⟩) [] (by omega) (by rw [p3]) (by rw [p3])]
  simp only []
  rw [press_dec 4 (n1 : Int) (n2 : Int) false (by omega) (by omega) (by omega) [] h3]
  simp only []
  have p4 : press (4, false, (n1 : Int), (n2 : Int), decT n3) ((10 : Nat) : Int) = sent 1 (n1 : Int) (n2 : Int) (n3 : Int) := by
    have hok := menuOk_dec (a := 4) (n := (n1 : Int)) (d := (n2 : Int)) (b := false) (by omega) (by omega) (by omega) h3
    unfold press
    simp only []
    rw [if_pos hok]
    simp [num_dec h3]
  rw [press_last 10 _ [] (by omega) _ _ _ _ p4]
  rfl
theorem pressAll_bolus {n : Nat} (h : n < 10000) : pressAll menuNew (bn [111] ++ decT n ++ bn [10]) = (menuNew, if orderOk (2, 0, 0, (n : Int)) = true then [(2, 0, 0, (n : Int))] else []) := by
  unfold pressAll
  simp only [bl_append, pressL_app]
  rw [press_one 111 menuNew (4, true, 0, 0, ⟨#[]⟩) [] (by omega) (by rw [show ((111 : Nat) : Int) = 111 from rfl, new_o]) (by rw [show ((111 : Nat) : Int) = 111 from rfl, new_o])]
  simp only []
  rw [press_dec 4 0 0 true (by omega) (by omega) (by omega) [] h]
  simp only []
  have p4 : press (4, true, 0, 0, decT n) ((10 : Nat) : Int) = sent 2 0 0 (n : Int) := by
    have hok := menuOk_dec (a := 4) (n := 0) (d := 0) (b := true) (by omega) (by omega) (by omega) h
    unfold press
    simp only []
    rw [if_pos hok]
    simp [num_dec h]
  rw [press_last 10 _ [] (by omega) _ _ _ _ p4]
  rfl
theorem pressAll_b12c : pressAll menuNew (bn [98, 49, 50, 99]) = (menuNew, []) := by
  have e : bn [98, 49, 50, 99] = bn [98] ++ bn [49, 50] ++ bn [99] := by rw [bn_append, bn_append]; rfl
  rw [e]
  unfold pressAll
  simp only [bl_append, pressL_app]
  rw [press_one 98 menuNew (2, false, 0, 0, ⟨#[]⟩) [] (by omega) (by rw [show ((98 : Nat) : Int) = 98 from rfl, new_b]) (by rw [show ((98 : Nat) : Int) = 98 from rfl, new_b])]
  simp only []
  have hd : ∀ x ∈ [49, 50], 48 ≤ x ∧ x ≤ 57 := by simp
  have h2 := press_figs 2 0 0 false (by omega) (by omega) (by omega) [] [49, 50] [] (fun x hx => by cases hx) hd (by simp)
  have e0 : bn ([] : List Nat) = ⟨#[]⟩ := rfl
  rw [e0] at h2
  rw [← bl_bn] at h2
  rw [h2]
  simp only [List.nil_append]
  have p4 : press (2, false, 0, 0, bn [49, 50]) ((99 : Nat) : Int) = (menuNew, (0, 0, 0, 0), false) := by
    have hok : menuOk (2, false, 0, 0, bn [49, 50]) = true := menuOk_mk ⟨digits_bn _ hd, by omega, by omega, by omega, by rw [bn_size]; simp, fun q => by omega⟩
    unfold press
    simp only []
    rw [if_pos hok]
    simp
  rw [press_one 99 _ menuNew [] (by omega) (by rw [p4]) (by rw [p4])]
end Go.Sx
