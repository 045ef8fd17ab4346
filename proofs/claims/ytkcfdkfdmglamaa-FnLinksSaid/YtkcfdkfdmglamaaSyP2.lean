/- Texts; the menu: what the functions come to. -/
import Derived.Test.YtkcfdkfdmglamaaSyP1
set_option linter.unusedVariables false
set_option linter.unusedSimpArgs false
namespace Go.Sx
open Go.RowKit (wrap64)
/-! ### texts -/
theorem ba_ext {s t : ByteArray} (h : bl s = bl t) : s = t := by
  cases s; cases t
  simp [bl] at h
  rw [h]
theorem bl_append (s t : ByteArray) : bl (s ++ t) = bl s ++ bl t := by simp [bl]
theorem bl_bstr (l : List Int) : bl (bstr l) = l.map fun n => UInt8.ofNat n.toNat := rfl
theorem size_bl (s : ByteArray) : s.size = (bl s).length := (bl_len s).symm
theorem size_append (s t : ByteArray) : (s ++ t).size = s.size + t.size := by rw [size_bl, bl_append, List.length_append, ← size_bl, ← size_bl]
theorem size_bstr (l : List Int) : (bstr l).size = l.length := by rw [size_bl, bl_bstr, List.length_map]
theorem bl_empty : bl ⟨#[]⟩ = [] := rfl
theorem size_empty : (⟨#[]⟩ : ByteArray).size = 0 := rfl
theorem eq_empty (s : ByteArray) : s = ⟨#[]⟩ ↔ s.size = 0 := by
  constructor
  · rintro rfl; rfl
  · intro h
    refine ba_ext ?_
    rw [bl_empty]
    rw [size_bl] at h
    exact List.length_eq_zero_iff.1 h
theorem u8_range (x : UInt8) : 0 ≤ (x.toNat : Int) ∧ (x.toNat : Int) ≤ 255 := by
  have := x.toNat_lt
  omega
/-- The byte of a number. -/
def u8 (n : Int) : UInt8 := UInt8.ofNat n.toNat
theorem u8_toNat {n : Int} (h : 0 ≤ n ∧ n ≤ 255) : ((u8 n).toNat : Int) = n := by
  unfold u8
  rw [UInt8.toNat_ofNat']
  omega
/-! ### the menu -/
abbrev Menu := Int × Bool × Int × Int × ByteArray
def digitsOk (l : List UInt8) : Bool := l.all (fun c => decide (48 ≤ (c.toNat : Int) ∧ (c.toNat : Int) ≤ 57))
theorem digitsOk_cons (x : UInt8) (l : List UInt8) : digitsOk (x :: l) = (decide (48 ≤ (x.toNat : Int) ∧ (x.toNat : Int) ≤ 57) && digitsOk l) := by simp [digitsOk]
theorem digitsOk_append (l m : List UInt8) : digitsOk (l ++ m) = (digitsOk l && digitsOk m) := by simp [digitsOk]
def MenuOkP (a : Int) (b : Bool) (n d : Int) (s : ByteArray) : Prop :=
  digitsOk (bl s) = true ∧ (1 ≤ a ∧ a ≤ 4) ∧ (0 ≤ n ∧ n ≤ 9999) ∧ (0 ≤ d ∧ d ≤ 9999) ∧ s.size ≤ 4 ∧ (a = 1 → s.size = 0 ∧ b = false ∧ n = 0 ∧ d = 0)
instance (a : Int) (b : Bool) (n d : Int) (s : ByteArray) : Decidable (MenuOkP a b n d s) := by unfold MenuOkP; infer_instance
def menuOk : Menu → Bool
  | (a, b, n, d, s) => decide (MenuOkP a b n d s)
theorem menuOk_den {a : Int} {b : Bool} {n d : Int} {s : ByteArray} (h : menuOk (a, b, n, d, s) = true) : MenuOkP a b n d s := of_decide_eq_true h
theorem menuOk_mk {a : Int} {b : Bool} {n d : Int} {s : ByteArray} (h : MenuOkP a b n d s) : menuOk (a, b, n, d, s) = true := decide_eq_true h
def numF : List UInt8 → Int → Int
  | [], z => z
  | x :: l, z => numF l (wrap64 ((wrap64 (10 * z)) + (((x.toNat : Int) - 48) % 256)))
def num (s : ByteArray) : Int := numF (bl s) 0
def menuNew : Menu := (1, false, 0, 0, ⟨#[]⟩)
def sent (k n d x : Int) : Menu × Order × Bool := if orderOk (k, n, d, x) = true then (menuNew, (k, n, d, x), true) else (menuNew, (0, 0, 0, 0), false)
def press : Menu → Int → Menu × Order × Bool
  | (a, b, n, d, s), c =>
    if menuOk (a, b, n, d, s) = true then
      (if a = 1 then
        (if c = 98 then ((2, false, 0, 0, ⟨#[]⟩), (0, 0, 0, 0), false)
        else if c = 111 then ((4, true, 0, 0, ⟨#[]⟩), (0, 0, 0, 0), false)
        else if c = 112 then ((a, b, n, d, s), (3, 0, 0, 0), true)
        else if c = 103 then ((a, b, n, d, s), (4, 0, 0, 0), true)
        else if c = 115 then ((a, b, n, d, s), (5, 0, 0, 0), true)
        else if c = 120 then ((a, b, n, d, s), (6, 0, 0, 0), true)
        else ((a, b, n, d, s), (0, 0, 0, 0), false))
      else if c = 10 then
        (if a = 2 then ((3, b, num s, d, ⟨#[]⟩), (0, 0, 0, 0), false)
        else if a = 3 then ((4, b, n, num s, ⟨#[]⟩), (0, 0, 0, 0), false)
        else if b = true then sent 2 0 0 (num s)
        else sent 1 n d (num s))
      else if c = 99 then (menuNew, (0, 0, 0, 0), false)
      else if (48 ≤ c ∧ c ≤ 57) ∧ s.size < 4 then ((a, b, n, d, s ++ bstr [c % 256]), (0, 0, 0, 0), false)
      else ((a, b, n, d, s), (0, 0, 0, 0), false))
    else ((a, b, n, d, s), (0, 0, 0, 0), false)
def pressL : List UInt8 → Menu → List Order → Menu × List Order
  | [], m, os => (m, os)
  | x :: r, m, os => pressL r (press m (x.toNat : Int)).1 (if (press m (x.toNat : Int)).2.2 = true then os ++ [(press m (x.toNat : Int)).2.1] else os)
def pressAll (m : Menu) (s : ByteArray) : Menu × List Order := pressL (bl s) m []
theorem pressL_len : ∀ (l : List UInt8) (m : Menu) (os : List Order), (pressL l m os).2.length ≤ os.length + l.length
  | [], m, os => by simp [pressL]
  | x :: r, m, os => by
    have := pressL_len r (press m (x.toNat : Int)).1 (if (press m (x.toNat : Int)).2.2 = true then os ++ [(press m (x.toNat : Int)).2.1] else os)
    unfold pressL
    split at this
    · rename_i h
      rw [if_pos h]
      simp only [List.length_append, List.length_cons, List.length_nil] at this ⊢
      omega
    · rename_i h
      rw [if_neg h]
      simp only [List.length_cons] at this ⊢
      omega
theorem pressAll_len (m : Menu) (s : ByteArray) : (pressAll m s).2.length ≤ s.size := by
  have := pressL_len (bl s) m []
  rw [bl_len] at this
  simpa [pressAll] using this
theorem pressL_acc : ∀ (l : List UInt8) (m : Menu) (os : List Order), pressL l m os = ((pressL l m []).1, os ++ (pressL l m []).2)
  | [], m, os => by simp [pressL]
  | x :: r, m, os => by
    unfold pressL
    by_cases h : (press m (x.toNat : Int)).2.2 = true
    · rw [if_pos h, if_pos h, pressL_acc r _ (os ++ [(press m (x.toNat : Int)).2.1]), pressL_acc r _ ([] ++ [(press m (x.toNat : Int)).2.1])]
      simp
    · rw [if_neg h, if_neg h, pressL_acc r _ os]
theorem pressL_app (l l' : List UInt8) : ∀ (m : Menu) (os : List Order), pressL (l ++ l') m os = pressL l' (pressL l m os).1 (pressL l m os).2 := by
  induction l with
  | nil => intro m os; rfl
  | cons x r ih => intro m os; exact ih _ _
theorem ba_lit_size : (⟨#[]⟩ : ByteArray).size = 0 := rfl
theorem numF_range : ∀ (l : List UInt8) (z : Int), digitsOk l = true → 0 ≤ z → z < 10 ^ 10 → l.length ≤ 4 → 0 ≤ numF l z ∧ numF l z < (z + 1) * 10 ^ l.length
  | [], z, _, h0, _, _ => by simp [numF]; omega
  | x :: l, z, h, h0, h1, hl => by
    rw [digitsOk_cons, Bool.and_eq_true, decide_eq_true_iff] at h
    have hl' : l.length ≤ 3 := by simpa using hl
    have e : wrap64 ((wrap64 (10 * z)) + (((x.toNat : Int) - 48) % 256)) = 10 * z + ((x.toNat : Int) - 48) := by
      rw [w64 (n := 10 * z) (by omega) (by omega)]
      have : ((x.toNat : Int) - 48) % 256 = (x.toNat : Int) - 48 := by omega
      rw [this]
      exact w64 (by omega) (by omega)
    unfold numF
    rw [e]
    have hp : (10 : Int) ^ (x :: l).length = 10 * 10 ^ l.length := by
      rw [List.length_cons, Int.pow_succ]; omega
    rw [hp]
    have h4 : l.length = 0 ∨ l.length = 1 ∨ l.length = 2 ∨ l.length = 3 := by omega
    -- the numbers stay small: digits one by one
    cases l with
    | nil => simp [numF]; omega
    | cons y l =>
      rw [digitsOk_cons, Bool.and_eq_true, decide_eq_true_iff] at h
      have e2 : wrap64 ((wrap64 (10 * (10 * z + ((x.toNat : Int) - 48)))) + (((y.toNat : Int) - 48) % 256)) = 10 * (10 * z + ((x.toNat : Int) - 48)) + ((y.toNat : Int) - 48) := by
        rw [w64 (n := 10 * (10 * z + ((x.toNat : Int) - 48))) (by omega) (by omega)]
        have : ((y.toNat : Int) - 48) % 256 = (y.toNat : Int) - 48 := by omega
        rw [this]
        exact w64 (by omega) (by omega)
      unfold numF
      rw [e2]
      cases l with
      | nil => simp [numF]; omega
      | cons v l =>
        rw [digitsOk_cons, Bool.and_eq_true, decide_eq_true_iff] at h
        have e3 : wrap64 ((wrap64 (10 * (10 * (10 * z + ((x.toNat : Int) - 48)) + ((y.toNat : Int) - 48)))) + (((v.toNat : Int) - 48) % 256)) = 10 * (10 * (10 * z + ((x.toNat : Int) - 48)) + ((y.toNat : Int) - 48)) + ((v.toNat : Int) - 48) := by
          rw [w64 (n := 10 * (10 * (10 * z + ((x.toNat : Int) - 48)) + ((y.toNat : Int) - 48))) (by omega) (by omega)]
          have : ((v.toNat : Int) - 48) % 256 = (v.toNat : Int) - 48 := by omega
          rw [this]
          exact w64 (by omega) (by omega)
        unfold numF
        rw [e3]
        cases l with
        | nil => simp [numF]; omega
        | cons t l =>
          rw [digitsOk_cons, Bool.and_eq_true, decide_eq_true_iff] at h
          have e4 : wrap64 ((wrap64 (10 * (10 * (10 * (10 * z + ((x.toNat : Int) - 48)) + ((y.toNat : Int) - 48)) + ((v.toNat : Int) - 48)))) + (((t.toNat : Int) - 48) % 256)) = 10 * (10 * (10 * (10 * z + ((x.toNat : Int) - 48)) + ((y.toNat : Int) - 48)) + ((v.toNat : Int) - 48)) + ((t.toNat : Int) - 48) := by
            rw [w64 (n := 10 * (10 * (10 * (10 * z + ((x.toNat : Int) - 48)) + ((y.toNat : Int) - 48)) + ((v.toNat : Int) - 48))) (by omega) (by omega)]
            have : ((t.toNat : Int) - 48) % 256 = (t.toNat : Int) - 48 := by omega
            rw [this]
            exact w64 (by omega) (by omega)
          unfold numF
          rw [e4]
          cases l with
          | nil => simp [numF]; omega
          | cons _ _ => simp at hl'
theorem num_range {s : ByteArray} (h : digitsOk (bl s) = true) (h4 : s.size ≤ 4) : 0 ≤ num s ∧ num s ≤ 9999 := by
  have h4' : (bl s).length ≤ 4 := by rw [bl_len]; exact h4
  have := numF_range (bl s) 0 h (by omega) (by omega) h4'
  unfold num
  generalize (bl s).length = n at *
  have hn : n = 0 ∨ n = 1 ∨ n = 2 ∨ n = 3 ∨ n = 4 := by omega
  rcases hn with rfl | rfl | rfl | rfl | rfl <;> simp at this <;> omega
theorem menuNew_ok : menuOk menuNew = true := menuOk_mk ⟨rfl, by omega, by omega, by omega, Nat.zero_le _, fun _ => ⟨rfl, rfl, rfl, rfl⟩⟩
theorem sent_ok (k n d x : Int) : menuOk (sent k n d x).1 = true ∧ ((sent k n d x).2.2 = true → orderOk (sent k n d x).2.1 = true) := by
  unfold sent
  split
  · rename_i h; exact ⟨menuNew_ok, fun _ => h⟩
  · exact ⟨menuNew_ok, fun h => by cases h⟩
/-- A right menu stays right, whatever key; the orders that it makes are right. -/
theorem press_ok {m : Menu} (h : menuOk m = true) (c : Int) : menuOk (press m c).1 = true ∧ ((press m c).2.2 = true → orderOk (press m c).2.1 = true) := by
  obtain ⟨a, b, n, d, s⟩ := m
  obtain ⟨h1, h2, h3, h4, h5, h6⟩ := menuOk_den h
  have hn := num_range h1 h5
  have no : ∀ m' : Menu, menuOk m' = true → menuOk ((m', ((0, 0, 0, 0) : Order), false) : Menu × Order × Bool).1 = true ∧ (((m', ((0, 0, 0, 0) : Order), false) : Menu × Order × Bool).2.2 = true → orderOk ((m', ((0, 0, 0, 0) : Order), false) : Menu × Order × Bool).2.1 = true) := fun m' hm => ⟨hm, fun q => by cases q⟩
  have yes : ∀ k : Int, 3 ≤ k → k ≤ 6 → menuOk (((a, b, n, d, s), ((k, 0, 0, 0) : Order), true) : Menu × Order × Bool).1 = true ∧ ((((a, b, n, d, s), ((k, 0, 0, 0) : Order), true) : Menu × Order × Bool).2.2 = true → orderOk (((a, b, n, d, s), ((k, 0, 0, 0) : Order), true) : Menu × Order × Bool).2.1 = true) :=
    fun k h3 h6 => ⟨h, fun _ => decide_eq_true (by unfold OrderOkP; omega)⟩
  simp only [press, h, if_true]
  split
  · split
    · exact no _ (menuOk_mk ⟨rfl, by omega, by omega, by omega, Nat.zero_le _, fun q => by omega⟩)
    · split
      · exact no _ (menuOk_mk ⟨rfl, by omega, by omega, by omega, Nat.zero_le _, fun q => by omega⟩)
      · split
        · exact yes 3 (by omega) (by omega)
        · split
          · exact yes 4 (by omega) (by omega)
          · split
            · exact yes 5 (by omega) (by omega)
            · split
              · exact yes 6 (by omega) (by omega)
              · exact no _ h
  · split
    · split
      · exact no _ (menuOk_mk ⟨rfl, by omega, by omega, by omega, Nat.zero_le _, fun q => by omega⟩)
      · split
        · exact no _ (menuOk_mk ⟨rfl, by omega, by omega, by omega, Nat.zero_le _, fun q => by omega⟩)
        · split
          · exact sent_ok _ _ _ _
          · exact sent_ok _ _ _ _
    · split
      · exact no _ menuNew_ok
      · split
        · rename_i hd
          refine no _ (menuOk_mk ⟨?_, h2, h3, h4, ?_, fun q => absurd q (by assumption)⟩)
          · rw [bl_append, digitsOk_append, h1, bl_bstr]
            have : (c % 256) = c := by omega
            rw [this]
            show (true && (decide (48 ≤ ((u8 c).toNat : Int) ∧ ((u8 c).toNat : Int) ≤ 57) && true)) = true
            rw [u8_toNat (by omega), decide_eq_true hd.1]; rfl
          · rw [size_append, size_bstr, List.length_singleton]; omega
        · exact no _ h
theorem pressL_ok : ∀ (l : List UInt8) (m : Menu) (os : List Order), menuOk m = true → (∀ o ∈ os, orderOk o = true) → menuOk (pressL l m os).1 = true ∧ ∀ o ∈ (pressL l m os).2, orderOk o = true
  | [], m, os, h, ho => ⟨h, ho⟩
  | x :: r, m, os, h, ho => by
    have hp := press_ok h (x.toNat : Int)
    unfold pressL
    refine pressL_ok r _ _ hp.1 ?_
    split
    · rename_i hq
      intro o hm
      rcases List.mem_append.1 hm with hm | hm
      · exact ho o hm
      · rw [List.mem_singleton.1 hm]; exact hp.2 hq
    · exact ho
theorem pressAll_ok {m : Menu} (h : menuOk m = true) (s : ByteArray) : menuOk (pressAll m s).1 = true ∧ ∀ o ∈ (pressAll m s).2, orderOk o = true :=
  pressL_ok (bl s) m [] h (fun _ h => by cases h)
theorem bl_extract (s : ByteArray) (i j : Nat) : bl (s.extract i j) = ((bl s).take j).drop i := by
  simp [bl, List.extract_eq_take_drop, List.drop_take]
theorem pressAll_split (m : Menu) (s : ByteArray) (i : Nat) : pressAll m s = ((pressAll (pressAll m (s.extract 0 i)).1 (s.extract i s.size)).1, (pressAll m (s.extract 0 i)).2 ++ (pressAll (pressAll m (s.extract 0 i)).1 (s.extract i s.size)).2) := by
  have e1 : bl (s.extract 0 i) = (bl s).take i := by rw [bl_extract, List.drop_zero]
  have e2 : bl (s.extract i s.size) = (bl s).drop i := by rw [bl_extract, ← bl_len, List.take_length]
  unfold pressAll
  rw [e1, e2]
  have h := pressL_app ((bl s).take i) ((bl s).drop i) m []
  rw [List.take_append_drop] at h
  rw [h]
  exact pressL_acc _ _ _
theorem press_digits (m : Menu) (c : Int) (hs : m.2.2.2.2.size ≤ 1048580) : (press m c).1.2.2.2.2.size ≤ 1048580 := by
  obtain ⟨a, b, n, d, s⟩ := m
  unfold press sent menuNew
  simp only []
  repeat' split
  all_goals first
    | exact hs
    | exact Nat.zero_le _
    | (simp only [size_append, size_bstr, List.length_singleton]; omega)
end Go.Sx
