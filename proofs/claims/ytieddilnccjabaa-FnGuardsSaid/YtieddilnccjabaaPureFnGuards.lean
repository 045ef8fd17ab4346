/- A drawn guard stays right; no ten ticks one behind the other let more through than they may. Conditions: none. -/
import Derived.Test.YtieddilnccjabaaQFnGuardsx
import Derived.Test.YtieddilnccjabaaQFnGuardsW
set_option linter.unusedVariables false
set_option linter.unusedSimpArgs false
namespace Go.Proofs.Ytieddilnccjabaa.Pure
open Go.RowKit Go.Proofs.Ytieddilnccjabaa.PFnGuards Go.Proofs.YtieddilnccjabaaW.PrintWords Go.Proofs.YtieddilnccjabaaW.PrintLast Go.Proofs.YtieddilnccjabaaW.PrintMore
theorem ev_if_pos {α : Type} {c : Prop} [Decidable c] {a b : Nat → Option α} {r : α} (h : c) (k : Ev a r) : Ev (fun n => if c then a n else b n) r :=
  Ev.congr (fun n => if_pos h) k
theorem ev_if_neg {α : Type} {c : Prop} [Decidable c] {a b : Nat → Option α} {r : α} (h : ¬ c) (k : Ev b r) : Ev (fun n => if c then a n else b n) r :=
  Ev.congr (fun n => if_neg h) k
theorem ev_bind_eq {α β : Type} {g : Option α} {f : Nat → α → Option β} {a : α} {r : β} (h : g = some a) (k : Ev (fun n => f n a) r) : Ev (fun n => g.bind (f n)) r :=
  Ev.congr (fun n => by rw [h]; rfl) k
theorem ev_some {α : Type} {r : α} : Ev (fun _ => some r) r := Ev.now r
theorem ev_cast {α : Type} {g : Nat → Option α} {r r' : α} (h : Ev g r) (e : r = r') : Ev g r' := e ▸ h
/-- A loop over a list, from a place on: what it comes to is told by a function of what is left and of what is carried. -/
theorem list_loop {α σ ρ : Type} (l : List α) (L : Nat → σ → Int → Option ρ) (F : List α → σ → ρ)
    (done : ∀ s, Ev (fun k => L k s (l.length : Int)) (F [] s))
    (step : ∀ (i : Nat) (s : σ) (x : α) (rest : List α), l.drop i = x :: rest → i < l.length → (∀ s', Ev (fun k => L k s' ((i : Int) + 1)) (F rest s')) → Ev (fun k => L k s (i : Int)) (F (x :: rest) s)) :
    ∀ (i : Nat), i ≤ l.length → ∀ s, Ev (fun k => L k s (i : Int)) (F (l.drop i) s) := by
  intro i hi
  obtain ⟨d, hd⟩ : ∃ d, d = l.length - i := ⟨_, rfl⟩
  induction d generalizing i with
  | zero =>
    intro s
    have e : i = l.length := by omega
    subst e
    rw [List.drop_length]
    exact done s
  | succ d ih =>
    intro s
    have hlt : i < l.length := by omega
    have hc : l.drop i = l[i] :: l.drop (i + 1) := List.drop_eq_getElem_cons hlt
    rw [hc]
    refine step i s _ _ hc hlt (fun s' => ?_)
    have := ih (i + 1) (by omega) (by omega) s'
    simpa using this
theorem w64 {n : Int} (h0 : -9223372036854775808 ≤ n) (h1 : n ≤ 9223372036854775807) : wrap64 n = n := by unfold wrap64; omega
theorem w64_succ {i : Nat} (h : i < 9223372036854775807) : wrap64 ((i : Int) + 1) = (i : Int) + 1 := w64 (by omega) (by omega)
theorem mx_eq (a b : Int) : mx a b = max a b := by unfold mx; split <;> omega
theorem mn_eq (a b : Int) : mn a b = min a b := by unfold mn; split <;> omega
theorem rd_drop {l : List Int} {i : Nat} {x : Int} {r : List Int} (h : l.drop i = x :: r) : rd l (i : Int) = x := by
  unfold rd
  have : l[i]? = some x := by
    have h2 : (l.drop i)[0]? = some x := by rw [h]; rfl
    simpa using h2
  simp [List.getD_eq_getElem?_getD, this]
theorem count_loop {ρ : Type} (n : Nat) (L : Nat → Int → Option ρ) (r : ρ) (done : Ev (fun k => L k (n : Int)) r)
    (step : ∀ i : Nat, i < n → Ev (fun k => L k ((i : Int) + 1)) r → Ev (fun k => L k (i : Int)) r) : ∀ i : Nat, i ≤ n → Ev (fun k => L k (i : Int)) r := by
  intro i hi
  obtain ⟨d, hd⟩ : ∃ d, d = n - i := ⟨_, rfl⟩
  induction d generalizing i with
  | zero =>
    have e : i = n := by omega
    subst e
    exact done
  | succ d ih =>
    have := ih (i + 1) (by omega) (by omega)
    exact step i (by omega) (by simpa using this)
theorem getD_at {α : Type} {l : List α} {i : Nat} {x z : α} (h : l[i]? = some x) : l.getD (i : Int).toNat z = x := by simp [List.getD_eq_getElem?_getD, h]

theorem impl_within_eq (a b c : Int) : impl_within.f a b c = some (decide (b ≤ a ∧ a ≤ c)) := by
  unfold impl_within.f; split <;> simp_all <;> omega
theorem spec_l01In_eq (a b c : Int) : spec_l01In.f a b c = some (decide (b ≤ a ∧ a ≤ c)) := by
  unfold spec_l01In.f; split <;> simp_all <;> omega
def senseOk (a : Int) : Bool := decide (0 ≤ a ∧ a ≤ 15)
theorem impl_SenseOk_eq (a : Int) : impl_SenseOk.f a = some (senseOk a) := by unfold impl_SenseOk.f; rw [impl_within_eq]; rfl
theorem spec_SenseOk_eq (a : Int) : spec_SenseOk.f a = some (senseOk a) := by unfold spec_SenseOk.f; rw [spec_l01In_eq]; rfl
theorem spec_l15Less_eq (a b : Int) : spec_l15Less.f a b = some (min a b) := by
  unfold spec_l15Less.f; split <;> (congr 1; omega)
theorem wrap64_sub (a b : Int) : wrap64 (wrap64 a - b) = wrap64 (a - b) := by unfold wrap64; omega
theorem wrap64_add (a b : Int) : wrap64 (wrap64 a + b) = wrap64 (a + b) := by unfold wrap64; omega
theorem wrap64_sub' (a b : Int) : wrap64 (a - wrap64 b) = wrap64 (a - b) := by unfold wrap64; omega
theorem spec_l16Sum_ev (l : List Int) (hl : l.length ≤ 9223372036854775806) : Ev (fun k => spec_l16Sum.f k l) (wrap64 l.sum) := by
  unfold spec_l16Sum.f
  refine Ev.congr (f := fun k => spec_l16Sum.l0 k l (wrap64 0) ((0 : Nat) : Int)) (fun k => by rw [w64 (n := 0) (by omega) (by omega)]; rfl) ?_
  refine ev_cast (list_loop l (fun k s i => spec_l16Sum.l0 k l (wrap64 s) i) (fun r s => wrap64 (s + r.sum)) (fun s => ?_) (fun i s x rest hx hi h => ?_) 0 (by omega) 0) (by simp)
  · refine Ev.step (fun q => by rw [spec_l16Sum.l0]) ?_
    exact ev_if_neg (by omega) (ev_cast ev_some (by simp))
  · refine Ev.step (fun q => by rw [spec_l16Sum.l0]) ?_
    refine ev_if_pos (by omega) (ev_if_pos (by omega) ?_)
    rw [rd_drop hx, w64_succ (by omega), wrap64_add]
    refine ev_cast (h (s + x)) ?_
    simp [Int.add_assoc]
theorem spec_RoomOf_ev (l : List Int) (a : Int) (hl : l.length ≤ 9223372036854775806) : Ev (fun k => spec_RoomOf.f k l a) (wrap64 (30 - l.sum)) := by
  unfold spec_RoomOf.f
  refine Ev.bind (spec_l16Sum_ev l hl) (ev_cast ev_some ?_)
  rw [wrap64_sub']
theorem impl_RoomOf_ev (l : List Int) (a : Int) (hl : l.length ≤ 9223372036854775806) : Ev (fun k => impl_RoomOf.f k l a) (wrap64 (30 - l.sum)) := by
  unfold impl_RoomOf.f
  refine Ev.congr (f := fun k => impl_RoomOf.l0 k (wrap64 30) l (l.length : Int) ((0 : Nat) : Int)) (fun k => by rw [w64 (n := 30) (by omega) (by omega)]; rfl) ?_
  refine ev_cast (list_loop l (fun k s i => impl_RoomOf.l0 k (wrap64 s) l (l.length : Int) i) (fun r s => wrap64 (s - r.sum)) (fun s => ?_) (fun i s x rest hx hi h => ?_) 0 (by omega) 30) (by simp)
  · refine Ev.step (fun q => by rw [impl_RoomOf.l0]) ?_
    exact ev_if_neg (by omega) (ev_cast ev_some (by simp))
  · refine Ev.step (fun q => by rw [impl_RoomOf.l0]) ?_
    refine ev_if_pos (by omega) (ev_if_pos (by omega) (ev_if_pos (by omega) ?_))
    rw [rd_drop hx, w64_succ (by omega), wrap64_sub]
    refine ev_cast (h (s - x)) ?_
    congr 1
    simp only [List.sum_cons]; omega
def pastOk (l : List Int) : Bool := l.all (fun x => decide (0 ≤ x ∧ x ≤ 30))
theorem pastOk_cons (x : Int) (l : List Int) : pastOk (x :: l) = (decide (0 ≤ x ∧ x ≤ 30) && pastOk l) := by simp [pastOk]
theorem pastOk_sum {l : List Int} (h : pastOk l = true) : 0 ≤ l.sum ∧ l.sum ≤ 30 * l.length := by
  induction l with
  | nil => simp
  | cons x l ih =>
    rw [pastOk_cons, Bool.and_eq_true, decide_eq_true_iff] at h
    have := ih h.2
    simp only [List.sum_cons, List.length_cons]
    omega
def guardOk (l : List Int) (a : Int) : Bool := decide (l.length ≤ 9) && pastOk l && decide (l.sum ≤ 30) && senseOk a
theorem impl_GuardOk_ev (l : List Int) (a : Int) (hl : l.length ≤ 9223372036854775806) : Ev (fun k => impl_GuardOk.f k l a) (guardOk l a) := by
  unfold impl_GuardOk.f
  have hend : Ev (fun k => impl_GuardOk.l0 k l (l.length : Int) (l.length : Int) l a) (if pastOk l = true then guardOk l a else decide (l.length ≤ 9) && decide (0 ≤ wrap64 (30 - l.sum)) && senseOk a) := by
    refine Ev.step (fun q => by rw [impl_GuardOk.l0]) ?_
    refine ev_if_neg (by omega) ?_
    by_cases h9 : (l.length : Int) ≤ 9
    · refine ev_if_pos h9 (Ev.bind (impl_RoomOf_ev l a hl) ?_)
      simp only [impl_SenseOk_eq, Option.bind_some]
      have h9' : l.length ≤ 9 := by omega
      by_cases hp : pastOk l = true
      · have hs := pastOk_sum hp
        rw [w64 (by omega) (by omega), if_pos hp]
        unfold guardOk
        rw [hp]
        by_cases h30 : l.sum ≤ 30
        · refine ev_if_pos (by omega) (ev_cast ev_some ?_)
          simp [h9', h30]
        · refine ev_if_neg (by omega) (ev_cast ev_some ?_)
          simp [h30]
      · rw [if_neg hp]
        by_cases h30 : wrap64 (30 - l.sum) ≥ 0
        · refine ev_if_pos h30 (ev_cast ev_some ?_)
          have : 0 ≤ wrap64 (30 - l.sum) := h30
          simp [h9', this]
        · refine ev_if_neg h30 (ev_cast ev_some ?_)
          have : ¬ 0 ≤ wrap64 (30 - l.sum) := h30
          simp [this]
    · refine ev_if_neg h9 (ev_cast ev_some ?_)
      have h9' : ¬ l.length ≤ 9 := by omega
      unfold guardOk
      split <;> simp [h9']
  refine ev_cast (list_loop l (fun k (_ : Unit) i => impl_GuardOk.l0 k l (l.length : Int) i l a) (fun r _ => pastOk r && (if pastOk l = true then guardOk l a else decide (l.length ≤ 9) && decide (0 ≤ wrap64 (30 - l.sum)) && senseOk a)) (fun _ => ev_cast hend (by simp [pastOk])) (fun i _ x rest hx hi h => ?_) 0 (by omega) ()) ?_
  · refine Ev.step (fun q => by rw [impl_GuardOk.l0]) ?_
    refine ev_if_pos (by omega) (ev_if_pos (by omega) (ev_if_pos (by omega) ?_))
    rw [rd_drop hx, impl_within_eq, w64_succ (by omega)]
    simp only [Option.bind_some, decide_eq_true_eq]
    by_cases hx2 : 0 ≤ x ∧ x ≤ 30
    · refine ev_if_pos hx2 (ev_cast (h ()) ?_)
      rw [pastOk_cons]; simp [hx2]
    · refine ev_if_neg hx2 (ev_cast ev_some ?_)
      rw [pastOk_cons]; simp [hx2]
  · simp only [List.drop_zero]
    cases hp : pastOk l with
    | true => simp
    | false => unfold guardOk; rw [hp]; simp
theorem spec_GuardOk_ev (l : List Int) (a : Int) (hl : l.length ≤ 9223372036854775806) : Ev (fun k => spec_GuardOk.f k l a) (guardOk l a) := by
  have hloop : l.length ≤ 9 → Ev (fun k => spec_GuardOk.l0 k 0 l a) (pastOk l && decide (l.sum ≤ 30)) := by
    intro h9
    have hend : pastOk l = true → Ev (fun k => spec_GuardOk.l0 k (l.length : Int) l a) (decide (l.sum ≤ 30)) := by
      intro hp
      have hs := pastOk_sum hp
      refine Ev.step (fun q => by rw [spec_GuardOk.l0]) ?_
      refine ev_if_neg (by omega) (Ev.bind (spec_l16Sum_ev l hl) ?_)
      rw [w64 (by omega) (by omega)]
      exact ev_some
    cases hp : pastOk l with
    | true =>
      refine ev_cast (count_loop l.length (fun k i => spec_GuardOk.l0 k i l a) (decide (l.sum ≤ 30)) (hend hp) (fun i hi h => ?_) 0 (by omega)) (by simp)
      refine Ev.step (fun q => by rw [spec_GuardOk.l0]) ?_
      refine ev_if_pos (by omega) (ev_if_pos (by omega) ?_)
      have hc : l.drop i = l[i] :: l.drop (i + 1) := List.drop_eq_getElem_cons hi
      have hm : decide (0 ≤ l[i] ∧ l[i] ≤ 30) = true := by
        have := List.all_eq_true.1 hp l[i] (List.getElem_mem hi)
        exact this
      rw [rd_drop hc, spec_l01In_eq, hm, w64_succ (by omega)]
      simp only [Option.bind_some, if_true]
      exact h
    | false =>
      refine ev_cast (list_loop l (fun k (_ : Unit) i => spec_GuardOk.l0 k i l a) (fun r _ => if pastOk r = true then wrap64 l.sum ≤ 30 else false) (fun _ => ?_) (fun i _ x rest hx hi h => ?_) 0 (by omega) ()) (by simp [hp])
      · refine Ev.step (fun q => by rw [spec_GuardOk.l0]) ?_
        refine ev_if_neg (by omega) (Ev.bind (spec_l16Sum_ev l hl) (ev_cast ev_some ?_))
        simp [pastOk]
      · refine Ev.step (fun q => by rw [spec_GuardOk.l0]) ?_
        refine ev_if_pos (by omega) (ev_if_pos (by omega) ?_)
        rw [rd_drop hx, spec_l01In_eq, w64_succ (by omega)]
        simp only [Option.bind_some, decide_eq_true_eq]
        by_cases hx2 : 0 ≤ x ∧ x ≤ 30
        · refine ev_if_pos hx2 (ev_cast (h ()) ?_)
          rw [pastOk_cons]; simp [hx2]
        · refine ev_if_neg hx2 (ev_cast ev_some ?_)
          rw [pastOk_cons]; simp [hx2]
  unfold spec_GuardOk.f
  by_cases h9 : (l.length : Int) > 9
  · refine ev_if_pos h9 ?_
    refine Ev.step (fun q => by rw [spec_GuardOk.j0]) (ev_if_pos rfl (ev_cast ev_some ?_))
    have h9' : ¬ l.length ≤ 9 := by omega
    simp [guardOk, h9']
  · refine ev_if_neg h9 ?_
    simp only [spec_SenseOk_eq, Option.bind_some]
    have h9' : l.length ≤ 9 := by omega
    refine Ev.step (fun q => by rw [spec_GuardOk.j0]) ?_
    cases hs : senseOk a with
    | false => exact ev_if_pos rfl (ev_cast ev_some (by simp [guardOk, hs]))
    | true =>
      refine ev_if_neg (by simp) (ev_cast (hloop h9') ?_)
      simp [guardOk, hs, h9']

def allow (l : List Int) (a m : Int) : Int := if guardOk l a = true ∧ a = 0 then max (min m (30 - l.sum)) 0 else 0
theorem guardOk_den {l : List Int} {a : Int} (h : guardOk l a = true) : l.length ≤ 9 ∧ pastOk l = true ∧ l.sum ≤ 30 ∧ senseOk a = true := by
  unfold guardOk at h
  simp only [Bool.and_eq_true, decide_eq_true_iff] at h
  exact ⟨h.1.1.1, h.1.1.2, h.1.2, h.2⟩
theorem guardOk_sum {l : List Int} {a : Int} (h : guardOk l a = true) : 0 ≤ l.sum ∧ l.sum ≤ 30 := by
  have h' := guardOk_den h
  have := pastOk_sum h'.2.1
  omega
theorem impl_Allow_ev (l : List Int) (a m : Int) (hl : l.length ≤ 9223372036854775806) : Ev (fun k => impl_Allow.f k l a m) (allow l a m) := by
  unfold impl_Allow.f allow
  refine Ev.bind (impl_GuardOk_ev l a hl) ?_
  by_cases h : guardOk l a = true
  · refine ev_if_pos h ?_
    have hs := guardOk_sum h
    by_cases h0 : a = 0
    · refine ev_if_pos h0 (Ev.bind (impl_RoomOf_ev l a hl) (ev_cast ev_some ?_))
      rw [if_pos ⟨h, h0⟩, mx_eq, mn_eq, w64 (by omega) (by omega)]
    · refine ev_if_neg h0 (ev_cast ev_some ?_)
      rw [if_neg (by simp [h0])]
  · refine ev_if_neg h (ev_cast ev_some ?_)
    rw [if_neg (by simp [h])]
def pass (l : List Int) (a n : Int) : List Int := if guardOk l a = true then (min (max n 0) (30 - l.sum) :: l).take 9 else l
theorem impl_copyGuard_eq (l : List Int) (a : Int) (hl : l.length < 17592186044416) : impl_copyGuard.f l a = some (l, a) := by
  unfold impl_copyGuard.f impl_copyInts.f
  simp only [Option.bind_some, List.length_nil, Nat.zero_add, List.nil_append]
  rw [if_pos hl]; rfl
theorem spec_l16Copy_eq (l : List Int) (a : Int) (hl : l.length < 17592186044416) : spec_l16Copy.f l a = some (l, a) := by
  unfold spec_l16Copy.f
  simp only [Option.bind_some, List.length_nil, Nat.zero_add, List.nil_append]
  rw [if_pos hl]
theorem impl_Pass_ev (l : List Int) (a n : Int) (hl : l.length < 17592186044416) : Ev (fun k => impl_Pass.f k l a n) (pass l a n, a) := by
  unfold impl_Pass.f pass
  simp only [impl_copyGuard_eq l a hl, Option.bind_some]
  refine Ev.bind (impl_GuardOk_ev l a (by omega)) ?_
  by_cases h : guardOk l a = true
  · have hs := guardOk_sum h
    have h9 := (guardOk_den h).1
    rw [if_pos h]
    refine ev_if_pos h (Ev.bind (impl_RoomOf_ev l a (by omega)) ?_)
    simp only [mn_eq, mx_eq, List.singleton_append, List.length_singleton]
    refine ev_if_pos (by omega) ?_
    refine ev_if_pos (by omega) (ev_if_pos (by omega) (ev_cast ev_some ?_))
    rw [w64 (by omega) (by omega)]
    congr 1
    simp only [List.length_cons]
    by_cases h8 : l.length + 1 ≤ 9
    · rw [List.take_of_length_le (by simp only [List.length_cons]; omega), List.take_of_length_le (by simp only [List.length_cons]; omega)]
    · congr 1; omega
  · rw [if_neg h]
    exact ev_if_neg h ev_some
theorem spec_Pass_ev (l : List Int) (a n : Int) (hl : l.length < 17592186044416) : Ev (fun k => spec_Pass.f k l a n) (pass l a n, a) := by
  have hj : ∀ x, x = max n 0 → guardOk l a = true → Ev (fun k => spec_Pass.j0 k x l a l a) (pass l a n, a) := by
    intro x hx h
    have hs := guardOk_sum h
    have h9 := (guardOk_den h).1
    refine Ev.step (fun q => by rw [spec_Pass.j0]) ?_
    refine Ev.bind (spec_RoomOf_ev l a (by omega)) ?_
    simp only [spec_l15Less_eq, Option.bind_some, List.singleton_append, List.length_singleton]
    refine ev_if_pos (by omega) ?_
    have hp : pass l a n = (min x (wrap64 (30 - l.sum)) :: l).take 9 := by
      unfold pass; rw [if_pos h, w64 (by omega) (by omega), hx]
    by_cases h8 : l.length + 1 > 9
    · refine ev_if_pos (by simp only [List.length_cons]; omega) (ev_if_pos (by simp only [List.length_cons]; omega) ?_)
      refine ev_if_pos ?_ (ev_cast ev_some ?_)
      · rw [List.length_take]; simp; omega
      · rw [hp]; rfl
    · refine ev_if_neg (by simp only [List.length_cons]; omega) (ev_cast ev_some ?_)
      rw [hp, List.take_of_length_le (by simp only [List.length_cons]; omega)]
  unfold spec_Pass.f
  simp only [spec_l16Copy_eq l a hl, Option.bind_some]
  refine Ev.bind (spec_GuardOk_ev l a (by omega)) ?_
  by_cases h : guardOk l a = true
  · refine ev_if_pos h ?_
    by_cases hn : n < 0
    · exact ev_if_pos hn (hj 0 (by omega) h)
    · exact ev_if_neg hn (hj n (by omega) h)
  · refine ev_if_neg h (ev_cast ev_some ?_)
    unfold pass; rw [if_neg h]

theorem ev_of_mono {α : Type} {g : Nat → Option α} {r : α} (m : ∀ k, LeO (g k) (g (k + 1))) (n : Nat) (h : g n = some r) : Ev g r := by
  refine ⟨n, fun k hk => ?_⟩
  induction hk with
  | refl => exact h
  | step _ ih => exact m _ _ ih
theorem l13_or : ∀ a b : Fin 16, spec_l13Both.f 5 (a.val : Int) (b.val : Int) = some (Go.bits .or .i64 (a.val : Int) (b.val : Int)) := by decide +kernel
theorem spec_l13Both_ev (a b : Int) (ha : 0 ≤ a ∧ a ≤ 15) (hb : 0 ≤ b ∧ b ≤ 15) : Ev (fun k => spec_l13Both.f k a b) (Go.bits .or .i64 a b) := by
  have h := l13_or ⟨a.toNat, by omega⟩ ⟨b.toNat, by omega⟩
  simp only [Int.toNat_of_nonneg ha.1, Int.toNat_of_nonneg hb.1] at h
  exact ev_of_mono (fun k => spec_l13Both.mono _ _ k) 5 h
def feel (l : List Int) (a s : Int) (b : Bool) : Int := if guardOk l a = true ∧ senseOk s = true then (if b = true then s else Go.bits .or .i64 a s) else a
theorem spec_Feel_ev (l : List Int) (a s : Int) (b : Bool) (hl : l.length < 17592186044416) : Ev (fun k => spec_Feel.f k l a s b) (l, feel l a s b) := by
  have hj : ∀ x, (x = true → ¬ (guardOk l a = true ∧ senseOk s = true)) → (x = false → guardOk l a = true ∧ senseOk s = true) → Ev (fun k => spec_Feel.j0 k s b x l a l a) (l, feel l a s b) := by
    intro x h1 h2
    refine Ev.step (fun q => by rw [spec_Feel.j0]) ?_
    unfold feel
    cases x with
    | true => exact ev_if_pos rfl (ev_cast ev_some (by rw [if_neg (h1 rfl)]))
    | false =>
      have hg := (guardOk_den (h2 rfl).1).2.2.2
      have hs := (h2 rfl).2
      unfold senseOk at hg hs
      refine ev_if_neg (by simp) (Ev.bind (spec_l13Both_ev a s (of_decide_eq_true hg) (of_decide_eq_true hs)) ?_)
      rw [if_pos (h2 rfl)]
      cases b with
      | true => exact ev_if_pos rfl ev_some
      | false => exact ev_if_neg (by simp) ev_some
  unfold spec_Feel.f
  simp only [spec_l16Copy_eq l a hl, Option.bind_some]
  refine Ev.bind (spec_GuardOk_ev l a (by omega)) ?_
  by_cases h : guardOk l a = true
  · refine ev_if_pos h ?_
    simp only [spec_SenseOk_eq, Option.bind_some]
    refine hj _ (fun e => ?_) (fun e => ?_)
    · intro q; rw [q.2] at e; cases e
    · refine ⟨h, ?_⟩; cases hs : senseOk s with
      | true => rfl
      | false => rw [hs] at e; cases e
  · exact ev_if_neg h (hj true (fun _ q => h q.1) (fun e => by cases e))

theorem and255 (x : Int) : 0 ≤ Go.bits .and .i64 x 255 ∧ Go.bits .and .i64 x 255 ≤ 255 := by
  have e : Go.bits .and .i64 x 255 = IntKind.i64.wrap (((BitVec.ofInt 64 x &&& BitVec.ofInt 64 255).toNat : Nat) : Int) := rfl
  have h : (BitVec.ofInt 64 x &&& BitVec.ofInt 64 255).toNat ≤ 255 := by
    rw [BitVec.toNat_and]
    exact Nat.le_trans Nat.and_le_right (by decide)
  rw [e, IntKind.wrap_i64]
  omega
theorem l01Byte_some (l : List Int) (i s : Int) (hl : l.length ≤ 1048576) (hi : 0 ≤ i) : ∃ b i' s', spec_l01Byte.f l i s = some (b, i', s') ∧ 0 ≤ b ∧ b ≤ 255 ∧ 0 ≤ i' := by
  unfold spec_l01Byte.f
  by_cases h : i < (l.length : Int)
  · rw [if_pos h, if_pos hi, w64 (n := i + 1) (by omega) (by omega)]
    exact ⟨_, _, _, rfl, (and255 _).1, (and255 _).2, by omega⟩
  · rw [if_neg h]
    exact ⟨_, _, _, rfl, (and255 _).1, (and255 _).2, hi⟩
theorem l01Below_some (l : List Int) (i s n : Int) (hl : l.length ≤ 1048576) (hi : 0 ≤ i) (hn : 0 < n) : ∃ v i' s', spec_l01Below.f l i s n = some (v, i', s') ∧ 0 ≤ v ∧ v < n ∧ 0 ≤ i' := by
  unfold spec_l01Below.f
  rw [if_neg (by omega)]
  by_cases h : n ≤ 256
  · rw [if_pos h]
    obtain ⟨b, i1, s1, e, h1, h2, h3⟩ := l01Byte_some l i s hl hi
    rw [e, Option.bind_some, if_neg (by omega)]
    exact ⟨_, _, _, rfl, Int.tmod_nonneg _ h1, Int.tmod_lt_of_pos _ hn, h3⟩
  · rw [if_neg h]
    obtain ⟨b1, i1, s1, e1, h11, h12, h13⟩ := l01Byte_some l i s hl hi
    obtain ⟨b2, i2, s2, e2, h21, h22, h23⟩ := l01Byte_some l i1 s1 hl h13
    obtain ⟨b3, i3, s3, e3, h31, h32, h33⟩ := l01Byte_some l i2 s2 hl h23
    obtain ⟨b4, i4, s4, e4, h41, h42, h43⟩ := l01Byte_some l i3 s3 hl h33
    rw [e1, Option.bind_some, e2, Option.bind_some, e3, Option.bind_some, e4, Option.bind_some, if_neg (by omega)]
    refine ⟨_, _, _, rfl, Int.tmod_nonneg _ ?_, Int.tmod_lt_of_pos _ hn, h43⟩
    show 0 ≤ wrap64 ((wrap64 ((wrap64 ((wrap64 (b1 * 16777216)) + (wrap64 (b2 * 65536)))) + (wrap64 (b3 * 256)))) + b4)
    unfold wrap64; omega
theorem l01Once_some (l : List Int) (i s n : Int) (hl : l.length ≤ 1048576) (hi : 0 ≤ i) (hn : 0 < n) : ∃ b i' s', spec_l01Once.f l i s n = some (b, i', s') ∧ 0 ≤ i' := by
  unfold spec_l01Once.f
  obtain ⟨v, i1, s1, e, _, _, h⟩ := l01Below_some l i s n hl hi hn
  rw [e]; exact ⟨_, _, _, rfl, h⟩
theorem l01New_ev (l : List Int) (hl : l.length ≤ 1048576) : ∃ x, Ev (fun k => spec_l01New.f k l) (l, 0, x) := by
  have key : ∀ (d : Nat) (i : Nat), l.length = i + d → ∀ x, ∃ y, Ev (fun k => spec_l01New.l0 k l x (i : Int)) (l, 0, y) := by
    intro d
    induction d with
    | zero =>
      intro i hi x
      exact ⟨x, Ev.step (fun q => by rw [spec_l01New.l0]) (ev_if_neg (by omega) ev_some)⟩
    | succ d ih =>
      intro i hi x
      by_cases h4 : (i : Int) < 4000
      · obtain ⟨y, hy⟩ := ih (i + 1) (by omega) (Go.bits .and .i64 (wrap64 ((wrap64 ((wrap64 (x * 131)) + (wrap64 (rd l (i : Int))))) + 7)) 1073741823)
        refine ⟨y, Ev.step (fun q => by rw [spec_l01New.l0]) (ev_if_pos (by omega) (ev_if_pos h4 (ev_if_pos (by omega) ?_)))⟩
        rw [w64_succ (by omega)]
        exact hy
      · exact ⟨x, Ev.step (fun q => by rw [spec_l01New.l0]) (ev_if_pos (by omega) (ev_if_neg h4 ev_some))⟩
  unfold spec_l01New.f
  exact key l.length 0 (by omega) _
theorem pastOk_take {l : List Int} (n : Nat) (h : pastOk l = true) : pastOk (l.take n) = true := by
  unfold pastOk at h ⊢
  rw [List.all_eq_true] at h ⊢
  exact fun x hx => h x (List.mem_of_mem_take hx)
theorem sum_nonneg {l : List Int} (h : ∀ x ∈ l, 0 ≤ x) : 0 ≤ l.sum := by
  induction l with
  | nil => simp
  | cons x l ih =>
    have := ih (fun y hy => h y (List.mem_cons_of_mem _ hy))
    have := h x List.mem_cons_self
    simp only [List.sum_cons]; omega
theorem sum_take_le {l : List Int} (n : Nat) (h : ∀ x ∈ l, 0 ≤ x) : (l.take n).sum ≤ l.sum := by
  induction l generalizing n with
  | nil => simp
  | cons x l ih =>
    cases n with
    | zero => simpa using sum_nonneg h
    | succ n =>
      have := ih n (fun y hy => h y (List.mem_cons_of_mem _ hy))
      simp only [List.take_succ_cons, List.sum_cons]; omega
theorem pastOk_nonneg {l : List Int} (h : pastOk l = true) : ∀ x ∈ l, 0 ≤ x := by
  unfold pastOk at h
  rw [List.all_eq_true] at h
  intro x hx
  have := of_decide_eq_true (h x hx)
  omega
theorem guardOk_mk {l : List Int} {a : Int} (h1 : l.length ≤ 9) (h2 : pastOk l = true) (h3 : l.sum ≤ 30) (h4 : senseOk a = true) : guardOk l a = true := by
  unfold guardOk
  rw [h2, h4, decide_eq_true h1, decide_eq_true h3]; rfl
theorem guardOk_pass {l : List Int} {a : Int} (n : Int) (h : guardOk l a = true) : guardOk (pass l a n) a = true := by
  have hs := guardOk_sum h
  obtain ⟨h1, h2, h3, h4⟩ := guardOk_den h
  have hc : pastOk (min (max n 0) (30 - l.sum) :: l) = true := by
    rw [pastOk_cons, h2, Bool.and_true, decide_eq_true_iff]; omega
  unfold pass
  rw [if_pos h]
  refine guardOk_mk (by rw [List.length_take]; omega) (pastOk_take 9 hc) ?_ h4
  have := sum_take_le 9 (pastOk_nonneg hc)
  simp only [List.sum_cons] at this
  omega
theorem or15 : ∀ a b : Fin 16, senseOk (Go.bits .or .i64 (a.val : Int) (b.val : Int)) = true := by decide +kernel
theorem senseOk_or {a b : Int} (ha : senseOk a = true) (hb : senseOk b = true) : senseOk (Go.bits .or .i64 a b) = true := by
  unfold senseOk at ha hb
  have ha := of_decide_eq_true ha
  have hb := of_decide_eq_true hb
  have h := or15 ⟨a.toNat, by omega⟩ ⟨b.toNat, by omega⟩
  simp only [Int.toNat_of_nonneg ha.1, Int.toNat_of_nonneg hb.1] at h
  exact h
theorem guardOk_feel {l : List Int} {a : Int} (s : Int) (b : Bool) (h : guardOk l a = true) : guardOk l (feel l a s b) = true := by
  obtain ⟨h1, h2, h3, h4⟩ := guardOk_den h
  refine guardOk_mk h1 h2 h3 ?_
  unfold feel
  split
  · rename_i q
    split
    · exact q.2
    · exact senseOk_or h4 q.2
  · exact h4
theorem l16Guard_ev (S : List Int) (hS : S.length ≤ 1048576) : ∀ (d x : Nat), x + d = 14 → ∀ (i s : Int) (l : List Int) (a : Int), 0 ≤ i → guardOk l a = true →
    ∃ l' a' i' s', Ev (fun k => spec_l16Guard.l0 k (x : Int) S i s l a) (l', a', i', s') ∧ guardOk l' a' = true ∧ 0 ≤ i' := by
  intro d
  induction d with
  | zero =>
    intro x hx i s l a hi hg
    obtain ⟨v, i1, s1, e1, _, v2, hi1⟩ := l01Below_some S i s 14 hS hi (by omega)
    obtain ⟨b, i2, s2, e2, hi2⟩ := l01Once_some S i1 s1 2 hS hi1 (by omega)
    obtain ⟨h1, h2, h3, h4⟩ := guardOk_den hg
    have hv : ¬ (x : Int) < v := by omega
    cases b with
    | true =>
      refine ⟨l, 0, i2, s2, ?_, guardOk_mk h1 h2 h3 (by decide), hi2⟩
      refine Ev.step (fun q => by rw [spec_l16Guard.l0]) ?_
      refine ev_bind_eq e1 ?_
      refine ev_if_neg hv ?_
      refine ev_bind_eq e2 ?_
      exact ev_if_pos rfl ev_some
    | false =>
      refine ⟨l, a, i2, s2, ?_, hg, hi2⟩
      refine Ev.step (fun q => by rw [spec_l16Guard.l0]) ?_
      refine ev_bind_eq e1 ?_
      refine ev_if_neg hv ?_
      refine ev_bind_eq e2 ?_
      exact ev_if_neg Bool.false_ne_true ev_some
  | succ d ih =>
    intro x hx i s l a hi hg
    obtain ⟨v, i1, s1, e1, _, v2, hi1⟩ := l01Below_some S i s 14 hS hi (by omega)
    by_cases hv : (x : Int) < v
    · obtain ⟨p, i2, s2, e2, _, _, hi2⟩ := l01Below_some S i1 s1 8 hS hi1 (by omega)
      obtain ⟨b, i3, s3, e3, hi3⟩ := l01Once_some S i2 s2 6 hS hi2 (by omega)
      have hp := guardOk_pass p hg
      have hP := spec_Pass_ev l a p (by have := (guardOk_den hg).1; omega)
      cases b with
      | true =>
        obtain ⟨m, i4, s4, e4, _, _, hi4⟩ := l01Below_some S i3 s3 16 hS hi3 (by omega)
        obtain ⟨c, i5, s5, e5, hi5⟩ := l01Once_some S i4 s4 2 hS hi4 (by omega)
        obtain ⟨l', a', i', s', hE, hG, hI⟩ := ih (x + 1) (by omega) i5 s5 (pass l a p) (feel (pass l a p) a m c) hi5 (guardOk_feel m c hp)
        refine ⟨l', a', i', s', ?_, hG, hI⟩
        refine Ev.step (fun q => by rw [spec_l16Guard.l0]) (ev_bind_eq e1 (ev_if_pos hv (ev_bind_eq e2 (Ev.bind hP (ev_bind_eq e3 (ev_if_pos rfl (ev_bind_eq e4 (ev_bind_eq e5 (Ev.bind (spec_Feel_ev (pass l a p) a m c (by have := (guardOk_den hp).1; omega)) ?_)))))))))
        rw [w64_succ (by omega)]
        exact hE
      | false =>
        obtain ⟨l', a', i', s', hE, hG, hI⟩ := ih (x + 1) (by omega) i3 s3 (pass l a p) a hi3 hp
        refine ⟨l', a', i', s', ?_, hG, hI⟩
        refine Ev.step (fun q => by rw [spec_l16Guard.l0]) (ev_bind_eq e1 (ev_if_pos hv (ev_bind_eq e2 (Ev.bind hP (ev_bind_eq e3 (ev_if_neg Bool.false_ne_true ?_))))))
        rw [w64_succ (by omega)]
        exact hE
    · obtain ⟨b, i2, s2, e2, hi2⟩ := l01Once_some S i1 s1 2 hS hi1 (by omega)
      obtain ⟨h1, h2, h3, h4⟩ := guardOk_den hg
      cases b with
      | true =>
        refine ⟨l, 0, i2, s2, ?_, guardOk_mk h1 h2 h3 (by decide), hi2⟩
        refine Ev.step (fun q => by rw [spec_l16Guard.l0]) ?_
        refine ev_bind_eq e1 ?_
        refine ev_if_neg hv ?_
        refine ev_bind_eq e2 ?_
        exact ev_if_pos rfl ev_some
      | false =>
        refine ⟨l, a, i2, s2, ?_, hg, hi2⟩
        refine Ev.step (fun q => by rw [spec_l16Guard.l0]) ?_
        refine ev_bind_eq e1 ?_
        refine ev_if_neg hv ?_
        refine ev_bind_eq e2 ?_
        exact ev_if_neg Bool.false_ne_true ev_some
theorem DrawGuard_ev (S : List Int) (hS : S.length ≤ 1048576) : ∃ l a, Ev (fun k => spec_DrawGuard.f k S) (l, a) ∧ guardOk l a = true := by
  obtain ⟨x, hx⟩ := l01New_ev S hS
  obtain ⟨l, a, i, s, h, hg, _⟩ := l16Guard_ev S hS 14 0 (by omega) 0 x [] 0 (by omega) (by decide)
  refine ⟨l, a, ?_, hg⟩
  unfold spec_DrawGuard.f
  exact Ev.bind hx (Ev.bind (show Ev (fun k => spec_l16Guard.f k S 0 x) (l, a, i, s) from h) ev_some)
theorem DrawPlaces_ev (S : List Int) (hS : S.length ≤ 1048576) : ∃ p, Ev (fun k => spec_DrawPlaces.f k S) p ∧ p.length = 12 ∧ ∀ x ∈ p, 0 ≤ x ∧ x < 10000 := by
  obtain ⟨x, hx⟩ := l01New_ev S hS
  obtain ⟨b, i1, s1, e1, _, _, hi1⟩ := l01Byte_some S 0 x hS (by omega)
  have key : ∀ (d n : Nat), n + d = 12 → ∀ (p : List Int) (i s : Int), p.length = n → 0 ≤ i → (∀ x ∈ p, 0 ≤ x ∧ x < 10000) → ∃ p', Ev (fun k => spec_DrawPlaces.l0 k p (n : Int) S i s) p' ∧ p'.length = 12 ∧ ∀ x ∈ p', 0 ≤ x ∧ x < 10000 := by
    intro d
    induction d with
    | zero =>
      intro n hn p i s hp hi hb
      exact ⟨p, Ev.step (fun q => by rw [spec_DrawPlaces.l0]) (ev_if_neg (by omega) ev_some), by omega, hb⟩
    | succ d ih =>
      intro n hn p i s hp hi hb
      obtain ⟨v, i2, s2, e2, v1, v2, hi2⟩ := l01Below_some S i s 10000 hS hi (by omega)
      obtain ⟨p', hE, hP⟩ := ih (n + 1) (by omega) (p ++ [v]) i2 s2 (by simp [hp]) hi2 (by
        intro x hx
        rcases List.mem_append.1 hx with h | h
        · exact hb x h
        · obtain rfl := List.mem_singleton.1 h; exact ⟨v1, v2⟩)
      refine ⟨p', ?_, hP⟩
      refine Ev.step (fun q => by rw [spec_DrawPlaces.l0]) (ev_if_pos (by omega) (ev_bind_eq e2 ?_))
      refine ev_if_pos (by omega) ?_
      rw [w64_succ (by omega)]
      exact hE
  obtain ⟨p, hE, hp⟩ := key 12 0 (by omega) [] i1 s1 rfl hi1 (by simp)
  refine ⟨p, ?_, hp⟩
  unfold spec_DrawPlaces.f
  exact Ev.bind hx (ev_bind_eq e1 hE)
theorem big_eq (l : List Int) : laws_big.f l = some (decide ((l.length : Int) > 1048576)) := rfl

def hs (a m : Int) : Bool := (Int.tmod (wrap64 (Int.tdiv a m)) 2) == 1
theorem window (r : List Int) (h0 : ∀ x ∈ r, 0 ≤ x) (h : ∀ j, ((r.drop j).take 10).sum ≤ 30) (i w : Nat) (hw : w ≤ 10) : ((r.reverse.drop i).take w).sum ≤ 30 := by
  rw [List.drop_reverse, List.take_reverse, List.sum_reverse]
  have e : ((r.take (r.length - i)).drop ((r.take (r.length - i)).length - w)) = (r.drop ((r.take (r.length - i)).length - w)).take ((r.length - i) - ((r.take (r.length - i)).length - w)) := by
    rw [List.drop_take]
  rw [e]
  have hm : (r.length - i) - ((r.take (r.length - i)).length - w) ≤ 10 := by rw [List.length_take]; omega
  generalize (r.length - i) - ((r.take (r.length - i)).length - w) = m at hm ⊢
  generalize (r.take (r.length - i)).length - w = j
  have e2 : (r.drop j).take m = ((r.drop j).take 10).take m := by rw [List.take_take]; congr 1; omega
  rw [e2]
  have := sum_take_le (l := (r.drop j).take 10) m (fun x hx => h0 x (List.mem_of_mem_drop (List.mem_of_mem_take hx)))
  have := h j
  omega
theorem guards_l3 (x5 l : List Int) (h : ∀ i w, w ≤ 10 → ((x5.drop i).take w).sum ≤ 30) (hb : x5.length ≤ 100) (hx0 : ∀ x ∈ x5, 0 ≤ x) (i : Nat) (r : Bool) (hi : i < x5.length)
    (next : Ev (fun k => laws_FnGuards.l2 k x5 ((i : Int) + 1) l 0) r) :
    ∀ (d w : Nat), w + d = 10 → i + w ≤ x5.length → Ev (fun k => laws_FnGuards.l3 k x5 (i : Int) ((x5.drop i).take w).sum ((i + w : Nat) : Int) l 0) r := by
  intro d
  induction d with
  | zero =>
    intro w hw hle
    have hs := h i w (by omega)
    refine Ev.step (fun q => by rw [laws_FnGuards.l3]) ?_
    by_cases hlt : ((i + w : Nat) : Int) < (x5.length : Int)
    · refine ev_if_pos hlt (ev_if_neg ?_ (ev_if_neg (by omega) ?_))
      · rw [w64 (by omega) (by omega)]; omega
      · rw [w64_succ (by omega)]; exact next
    · refine ev_if_neg hlt (ev_if_neg (by omega) ?_)
      rw [w64_succ (by omega)]; exact next
  | succ d ih =>
    intro w hw hle
    have hs := h i w (by omega)
    refine Ev.step (fun q => by rw [laws_FnGuards.l3]) ?_
    by_cases hlt : ((i + w : Nat) : Int) < (x5.length : Int)
    · have hlt' : i + w < x5.length := by omega
      refine ev_if_pos hlt (ev_if_pos ?_ (ev_if_pos (by omega) ?_))
      · rw [w64 (by omega) (by omega)]; omega
      · have hs1 := h i (w + 1) (by omega)
        have hl : w < (x5.drop i).length := by rw [List.length_drop]; omega
        have e1 : ((x5.drop i).take (w + 1)).sum = ((x5.drop i).take w).sum + x5[i + w] := by
          rw [List.take_succ_eq_append_getElem hl, List.sum_append]
          simp [List.getElem_drop]
        have e : rd x5 ((i + w : Nat) : Int) = x5[i + w] := getD_at (List.getElem?_eq_getElem hlt')
        have hn0 : 0 ≤ ((x5.drop i).take w).sum := sum_nonneg (fun x hx => hx0 x (List.mem_of_mem_drop (List.mem_of_mem_take hx)))
        have hx1 : 0 ≤ x5[i + w] := hx0 _ (List.getElem_mem hlt')
        rw [e, w64 (by omega) (by omega), ← e1, w64_succ (by omega)]
        exact ih (w + 1) (by omega) (by omega)
    · refine ev_if_neg hlt (ev_if_neg (by omega) ?_)
      rw [w64_succ (by omega)]; exact next
theorem guards_l2 (x5 l : List Int) (hl : l.length ≤ 9) (hg : guardOk l 0 = true) (h : ∀ i w, w ≤ 10 → ((x5.drop i).take w).sum ≤ 30) (hb : x5.length ≤ 100) (hx0 : ∀ x ∈ x5, 0 ≤ x) : Ev (fun k => laws_FnGuards.l2 k x5 0 l 0) true := by
  refine count_loop x5.length (fun k i => laws_FnGuards.l2 k x5 i l 0) true ?_ (fun i hi next => ?_) 0 (by omega)
  · refine Ev.step (fun q => by rw [laws_FnGuards.l2]) ?_
    refine ev_if_neg (by omega) (Ev.bind (impl_Allow_ev l 0 (-1) (by omega)) (ev_if_pos ?_ ?_))
    · have hs := guardOk_sum hg
      unfold allow; rw [if_pos ⟨hg, rfl⟩]; omega
    · refine Ev.bind (impl_RoomOf_ev l 0 (by omega)) (Ev.bind (spec_RoomOf_ev l 0 (by omega)) (ev_cast ev_some (by simp)))
  · refine Ev.step (fun q => by rw [laws_FnGuards.l2]) ?_
    refine ev_if_pos (by omega) ?_
    exact (guards_l3 x5 l h hb hx0 i true hi next 10 0 (by omega) (by omega)).congr (fun k => by simp)
theorem guards_l1 (p : List Int) (hp : p.length = 12) (hpb : ∀ x ∈ p, 0 ≤ x ∧ x < 10000) : ∀ (d n : Nat), n + d = 12 → ∀ (r l : List Int), guardOk l 0 = true → l = r.take 9 → r.length ≤ 9 + n → (∀ x ∈ r, 0 ≤ x) → (∀ j, ((r.drop j).take 10).sum ≤ 30) →
    Ev (fun k => laws_FnGuards.l1 k p r.reverse (n : Int) l 0) true := by
  intro d
  induction d with
  | zero =>
    intro n hn r l hg hl hr h0 h
    refine Ev.step (fun q => by rw [laws_FnGuards.l1]) (ev_if_neg (by omega) ?_)
    refine guards_l2 r.reverse l (guardOk_den hg).1 hg (fun i w hw => window r h0 h i w hw) (by simp; omega) (by simpa using h0)
  | succ d ih =>
    intro n hn r l hg hl hr h0 h
    have hn12 : n < p.length := by omega
    obtain ⟨l9, _, _, _⟩ := guardOk_den hg
    have hs := guardOk_sum hg
    refine Ev.step (fun q => by rw [laws_FnGuards.l1]) (ev_if_pos (by omega) (ev_if_pos (by omega) (ev_if_pos (by omega) ?_)))
    have hv : 0 ≤ rd p (n : Int) := by
      have e : rd p (n : Int) = p[n] := getD_at (List.getElem?_eq_getElem hn12)
      rw [e]; exact (hpb _ (List.getElem_mem hn12)).1
    have hm : 0 ≤ Int.tmod (rd p (n : Int)) 9 := Int.tmod_nonneg _ hv
    generalize Int.tmod (rd p (n : Int)) 9 = m at hm
    refine Ev.bind (impl_Allow_ev l 0 m (by omega)) ?_
    have ha : allow l 0 m = max (min m (30 - l.sum)) 0 := by unfold allow; rw [if_pos ⟨hg, rfl⟩]
    have ha1 : 0 ≤ allow l 0 m ∧ allow l 0 m ≤ m ∧ allow l 0 m ≤ 30 - l.sum := by rw [ha]; omega
    generalize allow l 0 m = g at ha1
    refine ev_if_neg (by omega) (Ev.bind (impl_RoomOf_ev l 0 (by omega)) ?_)
    rw [w64 (by omega) (by omega)]
    have hgt : ¬ (decide (g > 30 - l.sum) = true) := by simp; omega
    refine Ev.step (fun q => by rw [laws_FnGuards.j2]) (ev_if_neg hgt (Ev.bind (impl_Pass_ev l 0 g (by omega)) ?_))
    have hpass : pass l 0 g = (g :: l).take 9 := by
      unfold pass; rw [if_pos hg]; congr 2; omega
    have hG := guardOk_pass g hg
    refine ev_if_pos (by simp; omega) (Ev.bind (impl_GuardOk_ev (pass l 0 g) 0 (by have := (guardOk_den hG).1; omega)) (ev_if_pos hG ?_))
    refine ev_if_pos ?_ (ev_if_pos ?_ ?_)
    · rw [hpass]; simp
    · rw [hpass]; rfl
    · rw [w64_succ (by omega)]
      have er : r.reverse ++ [g] = (g :: r).reverse := by simp
      rw [er]
      refine ih (n + 1) (by omega) (g :: r) (pass l 0 g) hG ?_ (by simp; omega) ?_ ?_
      · rw [hpass, hl, List.take_succ_cons, List.take_succ_cons, List.take_take]; congr 2
      · intro x hx
        rcases List.mem_cons.1 hx with e | e
        · omega
        · exact h0 x e
      · intro j
        cases j with
        | zero =>
          rw [List.drop_zero, List.take_succ_cons, List.sum_cons, ← hl]; omega
        | succ j => exact h j
theorem guards_l0 (p l : List Int) (hl : l.length ≤ 9) (r : Bool) (done : Ev (fun k => laws_FnGuards.l1 k p l.reverse 0 l 0) r) :
    ∀ n, n ≤ l.length → Ev (fun k => laws_FnGuards.l0 k p (l.drop n).reverse ((n : Int) - 1) l 0) r := by
  intro n
  induction n with
  | zero =>
    intro _
    refine Ev.step (fun q => by rw [laws_FnGuards.l0]) (ev_if_neg (by omega) ?_)
    simpa using done
  | succ n ih =>
    intro hn
    refine Ev.step (fun q => by rw [laws_FnGuards.l0]) (ev_if_pos (by omega) (ev_if_pos (by omega) (ev_if_pos (by omega) (ev_if_pos (by simp; omega) ?_))))
    have hn' : n < l.length := by omega
    have e1 : ((n + 1 : Nat) : Int) - 1 = (n : Int) := by omega
    have e : rd l (n : Int) = l[n] := getD_at (List.getElem?_eq_getElem hn')
    have e2 : (l.drop (n + 1)).reverse ++ [l[n]] = (l.drop n).reverse := by
      rw [List.drop_eq_getElem_cons hn', List.reverse_cons]
    rw [e1, e, e2, w64 (by omega) (by omega)]
    exact ih (by omega)
theorem FnGuards : laws_FnGuards.Pure := by
  intro S hS1 _ _
  refine Ev.rounds ?_
  unfold laws_FnGuards.f
  rw [big_eq]
  simp only [Option.bind_some]
  by_cases h : (S.length : Int) > 1048576
  · exact ev_if_pos (decide_eq_true h) ev_some
  · refine ev_if_neg (by simpa using h) ?_
    have hS : S.length ≤ 1048576 := by omega
    obtain ⟨l, a, hD, hg⟩ := DrawGuard_ev S hS
    obtain ⟨p, hP, hp, hpb⟩ := DrawPlaces_ev S hS
    obtain ⟨h1, h2, h3, h4⟩ := guardOk_den hg
    have hg0 : guardOk l 0 = true := guardOk_mk h1 h2 h3 (by decide)
    refine Ev.bind hD (Ev.bind hP ?_)
    have hl1 := guards_l1 p hp hpb 12 0 (by omega) l l hg0 (List.take_of_length_le h1).symm (by omega) (pastOk_nonneg h2) (fun j => by
      have q1 := sum_take_le (l := l.drop j) 10 (fun x hx => pastOk_nonneg h2 x (List.mem_of_mem_drop hx))
      have q2 : (l.drop j).sum ≤ l.sum := by
        have q3 : (l.take j).sum + (l.drop j).sum = l.sum := by rw [← List.sum_append, List.take_append_drop]
        have q4 : 0 ≤ (l.take j).sum := sum_nonneg (fun x hx => pastOk_nonneg h2 x (List.mem_of_mem_take hx))
        omega
      omega)
    have hl0 := guards_l0 p l h1 true hl1 l.length (Nat.le_refl _)
    rw [List.drop_length] at hl0
    show Ev (fun k => laws_FnGuards.l0 k p [] (wrap64 ((l.length : Int) - 1)) l 0) true
    rw [w64 (by omega) (by omega)]
    exact hl0

end Go.Proofs.Ytieddilnccjabaa.Pure
