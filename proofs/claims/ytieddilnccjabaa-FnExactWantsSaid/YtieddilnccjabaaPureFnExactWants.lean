/- For all arguments the program's Wants returns what the reference's returns. Conditions: none. -/
import Derived.Test.YtieddilnccjabaaPFnExactWantsx
import Derived.Test.YtieddilnccjabaaWMore
set_option linter.unusedVariables false
set_option linter.unusedSimpArgs false
namespace Go.Proofs.Ytieddilnccjabaa.Pure
open Go.RowKit Go.Proofs.Ytieddilnccjabaa.PFnExactWants Go.Proofs.YtieddilnccjabaaW.PrintWords Go.Proofs.YtieddilnccjabaaW.PrintLast Go.Proofs.YtieddilnccjabaaW.PrintMore
theorem ev_if_pos {α : Type} {c : Prop} [Decidable c] {a b : Nat → Option α} {r : α} (h : c) (k : Ev a r) : Ev (fun n => if c then a n else b n) r :=
  Ev.congr (fun n => if_pos h) k
theorem ev_if_neg {α : Type} {c : Prop} [Decidable c] {a b : Nat → Option α} {r : α} (h : ¬ c) (k : Ev b r) : Ev (fun n => if c then a n else b n) r :=
  Ev.congr (fun n => if_neg h) k
theorem ev_some {α : Type} {r : α} : Ev (fun _ => some r) r := Ev.now r
theorem ev_cast {α : Type} {g : Nat → Option α} {r r' : α} (h : Ev g r) (e : r = r') : Ev g r' := e ▸ h
def I64 (a : Int) : Prop := -9223372036854775808 ≤ a ∧ a ≤ 9223372036854775807
theorem wf64 {a : Int} (h : (Lit.int .i64 a).wf = true) : I64 a := by
  simp only [Lit.wf, IntKind.min, IntKind.max, IntKind.signed, IntKind.bits, Bool.and_eq_true, decide_eq_true_eq] at h
  unfold I64
  simp at h
  omega
theorem w64 {n : Int} (h0 : -9223372036854775808 ≤ n) (h1 : n ≤ 9223372036854775807) : wrap64 n = n := by unfold wrap64; omega
theorem mn_eq (a b : Int) : mn a b = min a b := by unfold mn; split <;> omega
theorem impl_within_eq (a b c : Int) : impl_within.f a b c = some (decide (b ≤ a ∧ a ≤ c)) := by
  unfold impl_within.f; split <;> simp_all <;> omega
theorem spec_l01In_eq (a b c : Int) : spec_l01In.f a b c = some (decide (b ≤ a ∧ a ≤ c)) := by
  unfold spec_l01In.f; split <;> simp_all <;> omega
def rateOk (n d r : Int) : Bool := decide ((0 ≤ n ∧ n ≤ 1000000) ∧ (1 ≤ d ∧ d ≤ 1000000) ∧ (0 ≤ r ∧ r ≤ d - 1))
theorem impl_RateOk_eq (n d r : Int) : impl_RateOk.f n d r = some (rateOk n d r) := by
  unfold impl_RateOk.f rateOk
  simp only [impl_within_eq, Option.bind_some, decide_eq_true_eq]
  by_cases h1 : 0 ≤ n ∧ n ≤ 1000000
  · rw [if_pos h1]
    by_cases h2 : 1 ≤ d ∧ d ≤ 1000000
    · rw [if_pos h2, w64 (by omega) (by omega)]; simp [h1, h2]
    · rw [if_neg h2]; simp [h2]
  · rw [if_neg h1]; simp [h1]
theorem spec_RateOk_eq (n d r : Int) : spec_RateOk.f n d r = some (rateOk n d r) := by
  unfold spec_RateOk.f rateOk
  simp only [spec_l01In_eq, Option.bind_some, decide_eq_true_eq]
  by_cases h1 : 0 ≤ n ∧ n ≤ 1000000
  · rw [if_pos h1]
    by_cases h2 : 1 ≤ d ∧ d ≤ 1000000
    · rw [if_pos h2, w64 (by omega) (by omega)]; simp [h1, h2]
    · rw [if_neg h2]; simp [h2]
  · rw [if_neg h1]; simp [h1]

def PumpOkP (s n d r l b g k : Int) : Prop :=
  (0 ≤ s ∧ s ≤ 3) ∧ rateOk n d r = true ∧ n ≤ 3 * d ∧ (0 ≤ k ∧ k ≤ 2) ∧ (k = 0 ∨ s = 3) ∧ (0 ≤ l ∧ l ≤ 5000) ∧ ((s = 1 ∨ (s = 3 ∧ k = 1)) ↔ 0 < l) ∧ (0 ≤ b ∧ b ≤ 100) ∧ (0 ≤ g ∧ g ≤ 1000000000000)
instance (s n d r l b g k : Int) : Decidable (PumpOkP s n d r l b g k) := by unfold PumpOkP; infer_instance
def pumpOk (s n d r l b g k : Int) : Bool := decide (PumpOkP s n d r l b g k)
theorem rateOk_den {n d r : Int} (h : rateOk n d r = true) : (0 ≤ n ∧ n ≤ 1000000) ∧ (1 ≤ d ∧ d ≤ 1000000) ∧ (0 ≤ r ∧ r ≤ d - 1) := of_decide_eq_true h
theorem spec_PumpOk_j1 (x : Bool) (s n d r l b g k : Int) : Ev (fun q => spec_PumpOk.j1 q x s n d r l b g k) (!x && decide ((0 ≤ b ∧ b ≤ 100) ∧ (0 ≤ g ∧ g ≤ 1000000000000) ∧ (0 ≤ k ∧ k ≤ 2) ∧ (s = 3 ∨ k = 0))) := by
  refine Ev.step (fun q => by rw [spec_PumpOk.j1]) ?_
  simp only [spec_l01In_eq, Option.bind_some, decide_eq_true_eq]
  cases x with
  | true => exact ev_some
  | false =>
    simp only [Bool.false_eq_true, if_false]
    refine ⟨0, fun _ _ => ?_⟩
    by_cases h1 : 0 ≤ b ∧ b ≤ 100
    · rw [if_pos h1]
      by_cases h2 : 0 ≤ g ∧ g ≤ 1000000000000
      · rw [if_pos h2]
        by_cases h3 : 0 ≤ k ∧ k ≤ 2
        · rw [if_pos h3]
          by_cases h4 : s = 3
          · rw [if_pos h4]; simp [h1, h2, h3, h4]
          · rw [if_neg h4]; simp [h1, h2, h3, h4]; rfl
        · rw [if_neg h3]; simp [h3]
      · rw [if_neg h2]; simp [h2]
    · rw [if_neg h1]; simp [h1]
theorem spec_PumpOk_ev (s n d r l b g k : Int) (hn : I64 n) (hd : I64 d) : Ev (fun q => spec_PumpOk.f q s n d r l b g k) (pumpOk s n d r l b g k) := by
  have key : ∀ (x : Bool), Ev (fun q => spec_PumpOk.j0 q x s n d r l b g k) (decide ((0 ≤ s ∧ s ≤ 3) ∧ rateOk n d r = true ∧ n ≤ 3 * d ∧ (0 ≤ l ∧ l ≤ 5000) ∧ (decide (0 < l) = x)) && decide ((0 ≤ b ∧ b ≤ 100) ∧ (0 ≤ g ∧ g ≤ 1000000000000) ∧ (0 ≤ k ∧ k ≤ 2) ∧ (s = 3 ∨ k = 0))) := by
    intro x
    refine Ev.step (fun q => by rw [spec_PumpOk.j0]) ?_
    simp only [spec_l01In_eq, spec_RateOk_eq, Option.bind_some, decide_eq_true_eq]
    by_cases h1 : 0 ≤ s ∧ s ≤ 3
    · refine ev_if_pos h1 ?_
      by_cases h2 : rateOk n d r = true
      · refine ev_if_pos h2 ?_
        have h2' := rateOk_den h2
        rw [w64 (by omega) (by omega)]
        by_cases h3 : n > 3 * d
        · refine ev_if_pos h3 (ev_cast (spec_PumpOk_j1 ..) ?_)
          have : ¬ n ≤ 3 * d := by omega
          simp [this]
        · refine ev_if_neg h3 ?_
          by_cases h4 : 0 ≤ l ∧ l ≤ 5000
          · refine ev_if_pos h4 (ev_cast (spec_PumpOk_j1 ..) ?_)
            have h3' : n ≤ 3 * d := by omega
            simp only [h1, h2, h3', h4, and_self, true_and]
            by_cases h5 : l > 0 <;> cases x <;> simp [h5]
          · refine ev_if_neg h4 (ev_cast (spec_PumpOk_j1 ..) ?_)
            simp [h4]
      · refine ev_if_neg h2 (ev_cast (spec_PumpOk_j1 ..) ?_)
        simp [h2]
    · refine ev_if_neg h1 (ev_cast (spec_PumpOk_j1 ..) ?_)
      simp [h1]
  unfold spec_PumpOk.f
  have fin : ∀ x : Bool, (x = true ↔ (s = 1 ∨ (s = 3 ∧ k = 1))) → (decide ((0 ≤ s ∧ s ≤ 3) ∧ rateOk n d r = true ∧ n ≤ 3 * d ∧ (0 ≤ l ∧ l ≤ 5000) ∧ (decide (0 < l) = x)) && decide ((0 ≤ b ∧ b ≤ 100) ∧ (0 ≤ g ∧ g ≤ 1000000000000) ∧ (0 ≤ k ∧ k ≤ 2) ∧ (s = 3 ∨ k = 0))) = pumpOk s n d r l b g k := by
    intro x hx
    unfold pumpOk PumpOkP
    rw [← Bool.decide_and]
    apply decide_eq_decide.2
    have e5 : decide (0 < l) = x ↔ ((s = 1 ∨ (s = 3 ∧ k = 1)) ↔ 0 < l) := by rw [← hx, Bool.eq_iff_iff, decide_eq_true_iff]; exact Iff.comm
    rw [e5]
    constructor
    · rintro ⟨⟨a1, a2, a3, a4, a5⟩, a6, a7, a8, a9⟩
      exact ⟨a1, a2, a3, a8, a9.symm, a4, a5, a6, a7⟩
    · rintro ⟨a1, a2, a3, a8, a9, a4, a5, a6, a7⟩
      exact ⟨⟨a1, a2, a3, a4, a5⟩, a6, a7, a8, a9.symm⟩
  by_cases h1 : s = 1
  · exact ev_if_pos h1 (ev_cast (key _) (fin _ (by simp [h1])))
  · refine ev_if_neg h1 ?_
    by_cases h2 : s = 3
    · exact ev_if_pos h2 (ev_cast (key _) (fin _ (by simp [h2])))
    · exact ev_if_neg h2 (ev_cast (key _) (fin _ (by simp [h1, h2])))
theorem impl_PumpOk_j1 (x : Bool) (s n d r l b g k : Int) : Ev (fun q => impl_PumpOk.j1 q x s n d r l b g k) (!x && decide ((0 ≤ l ∧ l ≤ 5000) ∧ ((s = 1 ∨ (s = 3 ∧ k = 1)) ↔ 0 < l) ∧ (0 ≤ b ∧ b ≤ 100) ∧ (0 ≤ g ∧ g ≤ 1000000000000))) := by
  refine Ev.step (fun q => by rw [impl_PumpOk.j1]) ?_
  simp only [impl_within_eq, Option.bind_some, decide_eq_true_eq]
  cases x with
  | true => exact ev_some
  | false =>
    simp only [Bool.false_eq_true, if_false]
    refine ⟨0, fun _ _ => ?_⟩
    have fin : ∀ (y : Bool), (y = true ↔ (s = 1 ∨ (s = 3 ∧ k = 1))) → (if 0 ≤ l ∧ l ≤ 5000 then if (y == decide (l > 0)) = true then if 0 ≤ b ∧ b ≤ 100 then some (decide (0 ≤ g ∧ g ≤ 1000000000000)) else some false else some false else some false) = some (!false && decide ((0 ≤ l ∧ l ≤ 5000) ∧ ((s = 1 ∨ (s = 3 ∧ k = 1)) ↔ 0 < l) ∧ (0 ≤ b ∧ b ≤ 100) ∧ (0 ≤ g ∧ g ≤ 1000000000000))) := by
      intro y hy
      have e : ((y == decide (l > 0)) = true) ↔ ((s = 1 ∨ (s = 3 ∧ k = 1)) ↔ 0 < l) := by
        rw [← hy, beq_iff_eq, Bool.eq_iff_iff, decide_eq_true_iff]
      by_cases h1 : 0 ≤ l ∧ l ≤ 5000
      · rw [if_pos h1]
        by_cases h2 : (y == decide (l > 0)) = true
        · rw [if_pos h2]
          have h2' := e.1 h2
          by_cases h3 : 0 ≤ b ∧ b ≤ 100
          · rw [if_pos h3]; simp only [h1, h2', h3, and_self, true_and, Bool.not_false, Bool.true_and]
          · rw [if_neg h3]; simp [h3]
        · rw [if_neg h2]
          have h2' : ¬ ((s = 1 ∨ (s = 3 ∧ k = 1)) ↔ 0 < l) := fun h => h2 (e.2 h)
          simp only [h2', false_and, and_false, decide_false, Bool.and_false]
      · rw [if_neg h1]; simp [h1]
    by_cases h1 : s = 1
    · rw [if_pos h1]; exact fin true (by simp [h1])
    · rw [if_neg h1]
      by_cases h2 : s = 3
      · rw [if_pos h2]; exact fin (k == 1) (by simp [h2])
      · rw [if_neg h2]; exact fin false (by simp [h1, h2])
theorem impl_PumpOk_j0 (x : Bool) (s n d r l b g k : Int) : Ev (fun q => impl_PumpOk.j0 q x s n d r l b g k) (!x && decide ((0 ≤ k ∧ k ≤ 2) ∧ (k = 0 ∨ s = 3) ∧ (0 ≤ l ∧ l ≤ 5000) ∧ ((s = 1 ∨ (s = 3 ∧ k = 1)) ↔ 0 < l) ∧ (0 ≤ b ∧ b ≤ 100) ∧ (0 ≤ g ∧ g ≤ 1000000000000))) := by
  refine Ev.step (fun q => by rw [impl_PumpOk.j0]) ?_
  simp only [impl_within_eq, Option.bind_some, decide_eq_true_eq]
  cases x with
  | true => exact ev_some
  | false =>
    simp only [Bool.false_eq_true, if_false]
    by_cases h1 : 0 ≤ k ∧ k ≤ 2
    · refine ev_if_pos h1 ?_
      by_cases h2 : k = 0
      · refine ev_if_pos h2 (ev_cast (impl_PumpOk_j1 ..) ?_)
        simp [h2]
      · refine ev_if_neg h2 (ev_cast (impl_PumpOk_j1 ..) ?_)
        by_cases h3 : s = 3 <;> simp [h1, h2, h3]
    · refine ev_if_neg h1 (ev_cast (impl_PumpOk_j1 ..) ?_)
      simp [h1]
theorem impl_PumpOk_ev (s n d r l b g k : Int) : Ev (fun q => impl_PumpOk.f q s n d r l b g k) (pumpOk s n d r l b g k) := by
  unfold impl_PumpOk.f
  simp only [impl_within_eq, impl_RateOk_eq, Option.bind_some, decide_eq_true_eq]
  by_cases h1 : 0 ≤ s ∧ s ≤ 3
  · refine ev_if_pos h1 ?_
    by_cases h2 : rateOk n d r = true
    · refine ev_if_pos h2 (ev_cast (impl_PumpOk_j0 ..) ?_)
      have h2' := rateOk_den h2
      rw [w64 (by omega) (by omega)]
      by_cases h3 : n ≤ 3 * d
      · have h3' : ¬ n > 3 * d := by omega
        simp only [h3', decide_false, Bool.not_false, Bool.true_and]
        unfold pumpOk PumpOkP
        simp only [h1, h2, h3, and_self, true_and]
      · have h3' : n > 3 * d := by omega
        simp only [h3', decide_true, Bool.not_true, Bool.false_and]
        unfold pumpOk PumpOkP
        simp [h3]
    · refine ev_if_neg h2 (ev_cast (impl_PumpOk_j0 ..) ?_)
      unfold pumpOk PumpOkP
      simp [h2]
  · refine ev_if_neg h1 (ev_cast (impl_PumpOk_j0 ..) ?_)
    unfold pumpOk PumpOkP
    simp [h1]

/-- What a step of a rate leaves as the rest, and how many it gives. -/
def stepRest (n d r : Int) : Int := if rateOk n d r = true then (r + n) % d else r
def stepGives (n d r : Int) : Int := if rateOk n d r = true then (r + n) / d else 0
theorem step_plain {n d r : Int} (h : rateOk n d r = true) : Int.tmod (wrap64 (r + n)) d = (r + n) % d ∧ wrap64 (Int.tdiv (wrap64 (r + n)) d) = (r + n) / d := by
  have h' := rateOk_den h
  rw [w64 (n := r + n) (by omega) (by omega)]
  have e1 : Int.tmod (r + n) d = (r + n) % d := Int.tmod_eq_emod_of_nonneg (by omega)
  have e2 : Int.tdiv (r + n) d = (r + n) / d := Int.tdiv_eq_ediv_of_nonneg (by omega)
  have h0 : 0 ≤ (r + n) / d := Int.ediv_nonneg (by omega) (by omega)
  have h1 : (r + n) / d ≤ r + n := Int.ediv_le_self _ (by omega)
  rw [e1, e2]
  exact ⟨rfl, w64 (by omega) (by omega)⟩
theorem impl_StepRate_eq (n d r : Int) : impl_StepRate.f n d r = some (n, d, stepRest n d r, stepGives n d r) := by
  unfold impl_StepRate.f stepRest stepGives
  rw [impl_RateOk_eq, Option.bind_some]
  by_cases h : rateOk n d r = true
  · have h' := rateOk_den h
    obtain ⟨e1, e2⟩ := step_plain h
    rw [if_pos h, if_pos h, if_pos h, if_neg (by omega), e1, e2]
  · rw [if_neg h, if_neg h, if_neg h]
theorem spec_StepRate_eq (n d r : Int) : spec_StepRate.f n d r = some (n, d, stepRest n d r, stepGives n d r) := by
  unfold spec_StepRate.f stepRest stepGives
  rw [spec_RateOk_eq, Option.bind_some]
  by_cases h : rateOk n d r = true
  · have h' := rateOk_den h
    obtain ⟨e1, e2⟩ := step_plain h
    rw [if_pos h, if_pos h, if_pos h, if_neg (by omega), e1, e2]
  · rw [if_neg h, if_neg h, if_neg h]
theorem spec_l15Less_eq (a b : Int) : spec_l15Less.f a b = some (min a b) := by
  unfold spec_l15Less.f; split <;> (congr 1; omega)
/-- Does it run: is it right, and gives it or keeps open? -/
def runs (s n d r l b g k : Int) : Bool := pumpOk s n d r l b g k && decide (s = 1 ∨ s = 2)
def wants (s n d r l b g k : Int) : Int := if runs s n d r l b g k = true then (if s = 1 then min (stepGives n d r) l else stepGives n d r) + min b 3 else 0
theorem pumpOk_den {s n d r l b g k : Int} (h : pumpOk s n d r l b g k = true) : PumpOkP s n d r l b g k := of_decide_eq_true h
theorem stepGives_range {n d r : Int} (h : rateOk n d r = true) (h3 : n ≤ 3 * d) : 0 ≤ stepGives n d r ∧ stepGives n d r ≤ 3 := by
  have h' := rateOk_den h
  unfold stepGives
  rw [if_pos h]
  constructor
  · exact Int.ediv_nonneg (by omega) (by omega)
  · have : (r + n) / d < 4 := Int.ediv_lt_of_lt_mul (by omega) (by omega)
    omega
theorem spec_Wants_ev (s n d r l b g k : Int) (hn : I64 n) (hd : I64 d) : Ev (fun q => spec_Wants.f q s n d r l b g k) (wants s n d r l b g k) := by
  have key : ∀ x : Bool, pumpOk s n d r l b g k = true → (x = true ↔ ¬ (s = 1 ∨ s = 2)) → Ev (fun q => spec_Wants.j0 q x s n d r l b g k) (wants s n d r l b g k) := by
    intro x hp hx
    obtain ⟨_, a2, a3, _, _, a6, _, a8, _⟩ := pumpOk_den hp
    have hg := stepGives_range a2 a3
    refine Ev.step (fun q => by rw [spec_Wants.j0]) ?_
    simp only [spec_StepRate_eq, spec_l15Less_eq, Option.bind_some]
    cases x with
    | true =>
      refine ev_if_pos rfl (ev_cast ev_some ?_)
      have := hx.1 rfl
      simp [wants, runs, this]
    | false =>
      have hr : s = 1 ∨ s = 2 := Decidable.byContradiction fun h => by simpa using hx.2 h
      refine ev_if_neg (by simp) ?_
      have e : wants s n d r l b g k = (if s = 1 then min (stepGives n d r) l else stepGives n d r) + min b 3 := by
        unfold wants runs; rw [hp]; simp [hr]
      rw [e]
      by_cases h1 : s = 1
      · refine ev_if_pos h1 (ev_cast ev_some ?_)
        rw [if_pos h1, w64 (by omega) (by omega)]
      · refine ev_if_neg h1 (ev_cast ev_some ?_)
        rw [if_neg h1, w64 (by omega) (by omega)]
  unfold spec_Wants.f
  refine Ev.bind (spec_PumpOk_ev s n d r l b g k hn hd) ?_
  by_cases hp : pumpOk s n d r l b g k = true
  · refine ev_if_pos hp ?_
    by_cases h1 : s = 1
    · exact ev_if_pos h1 (key _ hp (by simp [h1]))
    · exact ev_if_neg h1 (key _ hp (by simp [h1]))
  · refine ev_if_neg hp (Ev.step (fun q => by rw [spec_Wants.j0]) (ev_if_pos rfl (ev_cast ev_some ?_)))
    simp [wants, runs, hp]
theorem impl_Wants_ev (s n d r l b g k : Int) : Ev (fun q => impl_Wants.f q s n d r l b g k) (wants s n d r l b g k) := by
  have key : ∀ x : Bool, pumpOk s n d r l b g k = true → (x = true ↔ ¬ (s = 1 ∨ s = 2)) → Ev (fun q => impl_Wants.j0 q x s n d r l b g k) (wants s n d r l b g k) := by
    intro x hp hx
    obtain ⟨_, a2, a3, _, _, a6, _, a8, _⟩ := pumpOk_den hp
    have hg := stepGives_range a2 a3
    refine Ev.step (fun q => by rw [impl_Wants.j0]) ?_
    simp only [impl_StepRate_eq, mn_eq, Option.bind_some]
    cases x with
    | true =>
      refine ev_if_pos rfl (ev_cast ev_some ?_)
      have := hx.1 rfl
      simp [wants, runs, this]
    | false =>
      have hr : s = 1 ∨ s = 2 := Decidable.byContradiction fun h => by simpa using hx.2 h
      refine ev_if_neg (by simp) ?_
      have e : wants s n d r l b g k = (if s = 1 then min (stepGives n d r) l else stepGives n d r) + min b 3 := by
        unfold wants runs; rw [hp]; simp [hr]
      rw [e]
      by_cases h1 : s = 1
      · refine ev_if_pos h1 (ev_cast ev_some ?_)
        rw [if_pos h1, w64 (by omega) (by omega)]
      · refine ev_if_neg h1 (ev_cast ev_some ?_)
        rw [if_neg h1, w64 (by omega) (by omega)]
  unfold impl_Wants.f
  refine Ev.bind (impl_PumpOk_ev s n d r l b g k) ?_
  by_cases hp : pumpOk s n d r l b g k = true
  · refine ev_if_pos hp ?_
    by_cases h1 : s = 1
    · exact ev_if_pos h1 (key _ hp (by simp [h1]))
    · exact ev_if_neg h1 (key _ hp (by simp [h1]))
  · refine ev_if_neg hp (Ev.step (fun q => by rw [impl_Wants.j0]) (ev_if_pos rfl (ev_cast ev_some ?_)))
    simp [wants, runs, hp]

theorem FnExactWants : ∀ (a0_0 : Int) (a0_1 : Int) (a0_2 : Int) (a0_3 : Int) (a0_4 : Int) (a0_5 : Int) (a0_6 : Int) (a0_7 : Int), (Lit.int .i64 a0_0).wf = true → (Lit.int .i64 a0_1).wf = true → (Lit.int .i64 a0_2).wf = true → (Lit.int .i64 a0_3).wf = true → (Lit.int .i64 a0_4).wf = true → (Lit.int .i64 a0_5).wf = true → (Lit.int .i64 a0_6).wf = true → (Lit.int .i64 a0_7).wf = true → ∃ k, laws_FnExactWants.f k a0_0 a0_1 a0_2 a0_3 a0_4 a0_5 a0_6 a0_7 = some true := by
  intro s n d r l b g k hs hn hd hr hl hb hg hk
  refine Ev.rounds ?_
  unfold laws_FnExactWants.f laws_toPump.f laws_toRate.f
  simp only [Option.bind_some]
  refine Ev.bind (spec_Wants_ev s n d r l b g k (wf64 hn) (wf64 hd)) ?_
  refine Ev.bind (impl_Wants_ev s n d r l b g k) ?_
  exact ev_if_pos rfl ev_some

end Go.Proofs.Ytieddilnccjabaa.Pure
