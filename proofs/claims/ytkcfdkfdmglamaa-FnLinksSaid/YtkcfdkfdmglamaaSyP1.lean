/- The pump, its orders: what the functions come to, told once for both packages. -/
import Derived.Test.YtkcfdkfdmglamaaSyP0
set_option linter.unusedVariables false
set_option linter.unusedSimpArgs false
namespace Go.Sx
open Go.RowKit (wrap64)
theorem eq_dec {b : Bool} {P : Prop} [Decidable P] (h : b = true ↔ P) : some b = some (decide P) := by
  congr 1
  rw [Bool.eq_iff_iff, h, decide_eq_true_iff]
theorem dec_yes {P : Prop} [Decidable P] (h : P) : some true = some (decide P) := by rw [decide_eq_true h]
theorem dec_no {P : Prop} [Decidable P] (h : ¬ P) : some false = some (decide P) := by rw [decide_eq_false h]
def senseOk (a : Int) : Bool := decide (0 ≤ a ∧ a ≤ 15)
/-! ### rates -/
abbrev Rate := Int × Int × Int
def RateOkP (n d r : Int) : Prop := (0 ≤ n ∧ n ≤ 1000000) ∧ (1 ≤ d ∧ d ≤ 1000000) ∧ (0 ≤ r ∧ r ≤ d - 1)
instance (n d r : Int) : Decidable (RateOkP n d r) := by unfold RateOkP; infer_instance
def rateOk (n d r : Int) : Bool := decide (RateOkP n d r)
theorem rateOk_den {n d r : Int} (h : rateOk n d r = true) : (0 ≤ n ∧ n ≤ 1000000) ∧ (1 ≤ d ∧ d ≤ 1000000) ∧ (0 ≤ r ∧ r ≤ d - 1) := of_decide_eq_true h
/-- What a step of a rate leaves as the rest, and how many it gives. -/
def stepRest (n d r : Int) : Int := if rateOk n d r = true then (r + n) % d else r
def stepGives (n d r : Int) : Int := if rateOk n d r = true then (r + n) / d else 0
theorem step_plain {n d r : Int} (h : rateOk n d r = true) : Int.tmod (wrap64 (r + n)) d = (r + n) % d ∧ wrap64 (Int.tdiv (wrap64 (r + n)) d) = (r + n) / d := by
  have h' := rateOk_den h
  rw [w64 (n := r + n) (by omega) (by omega)]
  have e1 : Int.tmod (r + n) d = (r + n) % d := Int.tmod_eq_emod_of_nonneg (by omega)
  have e2 : Int.tdiv (r + n) d = (r + n) / d := Int.tdiv_eq_ediv_of_nonneg (by omega)
  have h0 : 0 ≤ (r + n) / d := Int.ediv_nonneg (by omega) (by omega)
  have h1 : (r + n) / d ≤ r + n := Int.ediv_le_self _ (by omega)
  rw [e1, e2]
  exact ⟨rfl, w64 (by omega) (by omega)⟩
/-! ### the pump -/
abbrev Pump := Int × Int × Int × Int × Int × Int × Int × Int
def PumpOkP (s n d r l b g k : Int) : Prop :=
  (0 ≤ s ∧ s ≤ 3) ∧ RateOkP n d r ∧ n ≤ 3 * d ∧ (0 ≤ k ∧ k ≤ 2) ∧ (k = 0 ∨ s = 3) ∧ (0 ≤ l ∧ l ≤ 5000) ∧ ((s = 1 ∨ (s = 3 ∧ k = 1)) ↔ 0 < l) ∧ (0 ≤ b ∧ b ≤ 100) ∧ (0 ≤ g ∧ g ≤ 1000000000000)
instance (s n d r l b g k : Int) : Decidable (PumpOkP s n d r l b g k) := by unfold PumpOkP; infer_instance
def pumpOk : Pump → Bool
  | (s, n, d, r, l, b, g, k) => decide (PumpOkP s n d r l b g k)
theorem pumpOk_den {s n d r l b g k : Int} (h : pumpOk (s, n, d, r, l, b, g, k) = true) : PumpOkP s n d r l b g k := of_decide_eq_true h
theorem pumpOk_mk {s n d r l b g k : Int} (h : PumpOkP s n d r l b g k) : pumpOk (s, n, d, r, l, b, g, k) = true := decide_eq_true h
/-- Does it run: is it right, and gives it or keeps open? -/
def runs (p : Pump) : Bool := pumpOk p && decide (p.1 = 1 ∨ p.1 = 2)
def wants : Pump → Int
  | (s, n, d, r, l, b, g, k) => if runs (s, n, d, r, l, b, g, k) = true then (if s = 1 then min (stepGives n d r) l else stepGives n d r) + min b 3 else 0
theorem stepGives_range {n d r : Int} (h : rateOk n d r = true) (h3 : n ≤ 3 * d) : 0 ≤ stepGives n d r ∧ stepGives n d r ≤ 3 := by
  have h' := rateOk_den h
  unfold stepGives
  rw [if_pos h]
  constructor
  · exact Int.ediv_nonneg (by omega) (by omega)
  · have : (r + n) / d < 4 := Int.ediv_lt_of_lt_mul (by omega) (by omega)
    omega
theorem runs_den {s n d r l b g k : Int} (h : runs (s, n, d, r, l, b, g, k) = true) : PumpOkP s n d r l b g k ∧ (s = 1 ∨ s = 2) := by
  unfold runs at h
  rw [Bool.and_eq_true] at h
  exact ⟨pumpOk_den h.1, of_decide_eq_true h.2⟩
theorem wants_range (p : Pump) : 0 ≤ wants p ∧ wants p ≤ 6 := by
  obtain ⟨s, n, d, r, l, b, g, k⟩ := p
  simp only [wants]
  split
  · rename_i h
    obtain ⟨⟨_, a2, a3, _, _, a6, _, a8, _⟩, _⟩ := runs_den h
    have := stepGives_range (decide_eq_true a2) a3
    split <;> omega
  · omega
def giveN (p : Pump) (m : Int) : Int := min (max m 0) (wants p)
def giveB (p : Pump) (m : Int) : Int := min (giveN p m) (min p.2.2.2.2.2.1 3)
def give (p : Pump) (m : Int) : Pump :=
  match p with
  | (s, n, d, r, l, b, g, k) =>
    if runs p = true then
      (if s = 1 ∧ l - (giveN p m - giveB p m) = 0 then (2, 1, 50, 0, 0, b - giveB p m, min (g + giveN p m) 1000000000000, k)
       else (s, n, d, stepRest n d r, (if s = 1 then l - (giveN p m - giveB p m) else l), b - giveB p m, min (g + giveN p m) 1000000000000, k))
    else p
/-! ### orders -/
abbrev Order := Int × Int × Int × Int
def OrderOkP (a b c x : Int) : Prop := (a = 1 ∧ (1 ≤ c ∧ c ≤ 1000) ∧ (1 ≤ b ∧ b ≤ 1000 ∧ b ≤ 3 * c) ∧ (1 ≤ x ∧ x ≤ 5000)) ∨ (a = 2 ∧ b = 0 ∧ c = 0 ∧ (1 ≤ x ∧ x ≤ 100)) ∨ ((3 ≤ a ∧ a ≤ 6) ∧ b = 0 ∧ c = 0 ∧ x = 0)
instance (a b c x : Int) : Decidable (OrderOkP a b c x) := by unfold OrderOkP; infer_instance
def orderOk : Order → Bool
  | (a, b, c, x) => decide (OrderOkP a b c x)
theorem orderOk_den {a b c x : Int} (h : orderOk (a, b, c, x) = true) : OrderOkP a b c x := of_decide_eq_true h
def takeR (p : Pump) (o : Order) : Option Pump :=
  match p, o with
  | (s, n, d, r, l, b, g, k), (a, c, e, x) =>
    if a = 1 then (if s = 0 ∨ s = 2 then some (1, c, e, 0, x, b, g, k) else none)
    else if a = 2 then (if (s = 1 ∨ s = 2) ∧ b = 0 then some (s, n, d, r, l, x, g, k) else none)
    else if a = 3 then (if s = 1 ∨ s = 2 then some (3, n, d, r, l, b, g, s) else none)
    else if a = 4 then (if s = 3 then some (k, n, d, r, l, b, g, 0) else none)
    else if a = 6 then some (0, n, d, r, 0, 0, g, 0)
    else none
def take (p : Pump) (o : Order) : Pump × Bool :=
  if pumpOk p = true ∧ orderOk o = true then (match takeR p o with
    | some q => (q, true)
    | none => (p, false)) else (p, false)
/-! ### the guard -/
theorem wrap64_sub (a b : Int) : wrap64 (wrap64 a - b) = wrap64 (a - b) := by unfold wrap64; omega
theorem wrap64_add (a b : Int) : wrap64 (wrap64 a + b) = wrap64 (a + b) := by unfold wrap64; omega
theorem wrap64_sub' (a b : Int) : wrap64 (a - wrap64 b) = wrap64 (a - b) := by unfold wrap64; omega
theorem wrap64_wrap64 (a : Int) : wrap64 (wrap64 a) = wrap64 a := by unfold wrap64; omega
def pastOk (l : List Int) : Bool := l.all (fun x => decide (0 ≤ x ∧ x ≤ 30))
theorem pastOk_cons (x : Int) (l : List Int) : pastOk (x :: l) = (decide (0 ≤ x ∧ x ≤ 30) && pastOk l) := by simp [pastOk]
theorem pastOk_sum {l : List Int} (h : pastOk l = true) : 0 ≤ l.sum ∧ l.sum ≤ 30 * l.length := by
  induction l with
  | nil => simp
  | cons x l ih =>
    rw [pastOk_cons, Bool.and_eq_true, decide_eq_true_iff] at h
    have := ih h.2
    simp only [List.sum_cons, List.length_cons]
    omega
def guardOk (l : List Int) (a : Int) : Bool := decide (l.length ≤ 9) && pastOk l && decide (l.sum ≤ 30) && senseOk a
theorem guardOk_den {l : List Int} {a : Int} (h : guardOk l a = true) : l.length ≤ 9 ∧ pastOk l = true ∧ l.sum ≤ 30 ∧ senseOk a = true := by
  unfold guardOk at h
  simp only [Bool.and_eq_true, decide_eq_true_iff] at h
  exact ⟨h.1.1.1, h.1.1.2, h.1.2, h.2⟩
theorem guardOk_sum {l : List Int} {a : Int} (h : guardOk l a = true) : 0 ≤ l.sum ∧ l.sum ≤ 30 := by
  have h' := guardOk_den h
  have := pastOk_sum h'.2.1
  omega
theorem guardOk_mk {l : List Int} {a : Int} (h1 : l.length ≤ 9) (h2 : pastOk l = true) (h3 : l.sum ≤ 30) (h4 : senseOk a = true) : guardOk l a = true := by
  unfold guardOk
  rw [h2, h4, decide_eq_true h1, decide_eq_true h3]; rfl
def allow (l : List Int) (a m : Int) : Int := if guardOk l a = true ∧ a = 0 then max (min m (30 - l.sum)) 0 else 0
def pass (l : List Int) (a n : Int) : List Int := if guardOk l a = true then (min (max n 0) (30 - l.sum) :: l).take 9 else l
theorem pass_length (l : List Int) (a n : Int) : (pass l a n).length ≤ l.length + 1 := by
  unfold pass; split
  · rw [List.length_take]; simp; omega
  · omega
def feel (l : List Int) (a s : Int) (b : Bool) : Int := if guardOk l a = true ∧ senseOk s = true then (if b = true then s else ior .i64 a s) else a
theorem pastOk_take {l : List Int} (n : Nat) (h : pastOk l = true) : pastOk (l.take n) = true := by
  unfold pastOk at h ⊢
  rw [List.all_eq_true] at h ⊢
  exact fun x hx => h x (List.mem_of_mem_take hx)
theorem sum_nonneg {l : List Int} (h : ∀ x ∈ l, 0 ≤ x) : 0 ≤ l.sum := by
  induction l with
  | nil => simp
  | cons x l ih =>
    have := ih (fun y hy => h y (List.mem_cons_of_mem _ hy))
    have := h x List.mem_cons_self
    simp only [List.sum_cons]; omega
theorem sum_take_le {l : List Int} (n : Nat) (h : ∀ x ∈ l, 0 ≤ x) : (l.take n).sum ≤ l.sum := by
  induction l generalizing n with
  | nil => simp
  | cons x l ih =>
    cases n with
    | zero => simpa using sum_nonneg h
    | succ n =>
      have := ih n (fun y hy => h y (List.mem_cons_of_mem _ hy))
      simp only [List.take_succ_cons, List.sum_cons]; omega
theorem pastOk_nonneg {l : List Int} (h : pastOk l = true) : ∀ x ∈ l, 0 ≤ x := by
  unfold pastOk at h
  rw [List.all_eq_true] at h
  intro x hx
  have := of_decide_eq_true (h x hx)
  omega
theorem guardOk_pass {l : List Int} {a : Int} (n : Int) (h : guardOk l a = true) : guardOk (pass l a n) a = true := by
  have hs := guardOk_sum h
  obtain ⟨h1, h2, h3, h4⟩ := guardOk_den h
  have hc : pastOk (min (max n 0) (30 - l.sum) :: l) = true := by
    rw [pastOk_cons, h2, Bool.and_true, decide_eq_true_iff]; omega
  unfold pass
  rw [if_pos h]
  refine guardOk_mk (by rw [List.length_take]; omega) (pastOk_take 9 hc) ?_ h4
  have := sum_take_le 9 (pastOk_nonneg hc)
  simp only [List.sum_cons] at this
  omega
theorem or15 : ∀ a b : _root_.Fin 16, senseOk (ior .i64 (a.val : Int) (b.val : Int)) = true := by decide +kernel
theorem senseOk_or {a b : Int} (ha : senseOk a = true) (hb : senseOk b = true) : senseOk (ior .i64 a b) = true := by
  unfold senseOk at ha hb
  have ha := of_decide_eq_true ha
  have hb := of_decide_eq_true hb
  have h := or15 ⟨a.toNat, by omega⟩ ⟨b.toNat, by omega⟩
  simp only [Int.toNat_of_nonneg ha.1, Int.toNat_of_nonneg hb.1] at h
  exact h
theorem guardOk_feel {l : List Int} {a : Int} (s : Int) (b : Bool) (h : guardOk l a = true) : guardOk l (feel l a s b) = true := by
  obtain ⟨h1, h2, h3, h4⟩ := guardOk_den h
  refine guardOk_mk h1 h2 h3 ?_
  unfold feel
  split
  · rename_i q
    split
    · exact q.2
    · exact senseOk_or h4 q.2
  · exact h4
theorem or15_zero : ∀ a : _root_.Fin 16, ior .i64 (a.val : Int) 0 = (a.val : Int) := by decide +kernel
theorem or_zero {a : Int} (ha : senseOk a = true) : ior .i64 a 0 = a := by
  unfold senseOk at ha
  have ha := of_decide_eq_true ha
  have h := or15_zero ⟨a.toNat, by omega⟩
  simp only [Int.toNat_of_nonneg ha.1] at h
  exact h
/-! ### lists marked and held -/
def marks (m : Int) (n : Nat) : List Int := (List.range n).map (fun (i : Nat) => m + (i : Int))
theorem marks_length (m : Int) (n : Nat) : (marks m n).length = n := by simp [marks]
theorem marks_get (m : Int) {n i : Nat} (h : i < n) : (marks m n)[i]? = some (m + (i : Int)) := by simp [marks, h]
end Go.Sx
