/- For all arguments the program's Feel returns what the reference's returns. Conditions: none (a list longer than the statement's own bound is let by). -/
import Derived.Test.YtklcjpidbpplkaaQFnExactFeelx
import Derived.Test.YtklcjpidbpplkaaQFnExactFeelW
set_option linter.unusedVariables false
set_option linter.unusedSimpArgs false
namespace Go.Proofs.Ytklcjpidbpplkaa.Pure
open Go.RowKit Go.Proofs.Ytklcjpidbpplkaa.PFnExactFeel Go.Proofs.YtklcjpidbpplkaaW.PrintWords Go.Proofs.YtklcjpidbpplkaaW.PrintLast Go.Proofs.YtklcjpidbpplkaaW.PrintMore
theorem ev_if_pos {α : Type} {c : Prop} [Decidable c] {a b : Nat → Option α} {r : α} (h : c) (k : Ev a r) : Ev (fun n => if c then a n else b n) r :=
  Ev.congr (fun n => if_pos h) k
theorem ev_if_neg {α : Type} {c : Prop} [Decidable c] {a b : Nat → Option α} {r : α} (h : ¬ c) (k : Ev b r) : Ev (fun n => if c then a n else b n) r :=
  Ev.congr (fun n => if_neg h) k
theorem ev_some {α : Type} {r : α} : Ev (fun _ => some r) r := Ev.now r
theorem ev_cast {α : Type} {g : Nat → Option α} {r r' : α} (h : Ev g r) (e : r = r') : Ev g r' := e ▸ h
/-- A loop over a list, from a place on: what it comes to is told by a function of what is left and of what is carried. -/
theorem list_loop {α σ ρ : Type} (l : List α) (L : Nat → σ → Int → Option ρ) (F : List α → σ → ρ)
    (done : ∀ s, Ev (fun k => L k s (l.length : Int)) (F [] s))
    (step : ∀ (i : Nat) (s : σ) (x : α) (rest : List α), l.drop i = x :: rest → i < l.length → (∀ s', Ev (fun k => L k s' ((i : Int) + 1)) (F rest s')) → Ev (fun k => L k s (i : Int)) (F (x :: rest) s)) :
    ∀ (i : Nat), i ≤ l.length → ∀ s, Ev (fun k => L k s (i : Int)) (F (l.drop i) s) := by
  intro i hi
  obtain ⟨d, hd⟩ : ∃ d, d = l.length - i := ⟨_, rfl⟩
  induction d generalizing i with
  | zero =>
    intro s
    have e : i = l.length := by omega
    subst e
    rw [List.drop_length]
    exact done s
  | succ d ih =>
    intro s
    have hlt : i < l.length := by omega
    have hc : l.drop i = l[i] :: l.drop (i + 1) := List.drop_eq_getElem_cons hlt
    rw [hc]
    refine step i s _ _ hc hlt (fun s' => ?_)
    have := ih (i + 1) (by omega) (by omega) s'
    simpa using this
theorem w64 {n : Int} (h0 : -9223372036854775808 ≤ n) (h1 : n ≤ 9223372036854775807) : wrap64 n = n := by unfold wrap64; omega
theorem w64_succ {i : Nat} (h : i < 9223372036854775807) : wrap64 ((i : Int) + 1) = (i : Int) + 1 := w64 (by omega) (by omega)
theorem maxLen_eq : maxLen = 9223372036854775807 := rfl
theorem rd_drop {l : List Int} {i : Nat} {x : Int} {r : List Int} (h : l.drop i = x :: r) : rd l (i : Int) = x := by
  unfold rd
  have : l[i]? = some x := by
    have h2 : (l.drop i)[0]? = some x := by rw [h]; rfl
    simpa using h2
  simp [List.getD_eq_getElem?_getD, this]
theorem count_loop {ρ : Type} (n : Nat) (L : Nat → Int → Option ρ) (r : ρ) (done : Ev (fun k => L k (n : Int)) r)
    (step : ∀ i : Nat, i < n → Ev (fun k => L k ((i : Int) + 1)) r → Ev (fun k => L k (i : Int)) r) : ∀ i : Nat, i ≤ n → Ev (fun k => L k (i : Int)) r := by
  intro i hi
  obtain ⟨d, hd⟩ : ∃ d, d = n - i := ⟨_, rfl⟩
  induction d generalizing i with
  | zero =>
    have e : i = n := by omega
    subst e
    exact done
  | succ d ih =>
    have := ih (i + 1) (by omega) (by omega)
    exact step i (by omega) (by simpa using this)
/-- A loop that fills a new list, place by place. -/
theorem map_loop {α β : Type} (c : α → β) (z : β) (l : List α) (L : Nat → List β → Int → Option (List β)) (done : ∀ out, Ev (fun k => L k out (l.length : Int)) out)
    (step : ∀ (i : Nat) (x : α) (out : List β) (r : List β), l[i]? = some x → i < l.length → out.length = l.length → Ev (fun k => L k (out.set i (c x)) ((i : Int) + 1)) r → Ev (fun k => L k out (i : Int)) r) :
    Ev (fun k => L k (List.replicate l.length z) 0) (l.map c) := by
  have key : ∀ (suf pre : List α), l = pre ++ suf → Ev (fun k => L k (pre.map c ++ List.replicate suf.length z) (pre.length : Int)) (l.map c) := by
    intro suf
    induction suf with
    | nil =>
      intro pre h
      have := done (pre.map c)
      simp only [List.append_nil] at h
      subst h
      simpa using this
    | cons x suf ih =>
      intro pre h
      have h1 := ih (pre ++ [x]) (by rw [h]; simp)
      have hlen : l.length = pre.length + (suf.length + 1) := by rw [h]; simp
      refine step pre.length x _ _ (by rw [h]; simp) (by omega) (by simp [hlen]) ?_
      have e : (List.map c pre ++ List.replicate (x :: suf).length z).set pre.length (c x) = List.map c (pre ++ [x]) ++ List.replicate suf.length z := by
        rw [List.set_append_right _ _ (by simp)]
        simp [List.replicate_succ]
      rw [e]
      simpa using h1
  simpa using key l [] rfl
theorem getD_at {α : Type} {l : List α} {i : Nat} {x z : α} (h : l[i]? = some x) : l.getD (i : Int).toNat z = x := by simp [List.getD_eq_getElem?_getD, h]

theorem impl_within_eq (a b c : Int) : impl_within.f a b c = some (decide (b ≤ a ∧ a ≤ c)) := by
  unfold impl_within.f; split <;> simp_all <;> omega
theorem spec_l01In_eq (a b c : Int) : spec_l01In.f a b c = some (decide (b ≤ a ∧ a ≤ c)) := by
  unfold spec_l01In.f; split <;> simp_all <;> omega
def senseOk (a : Int) : Bool := decide (0 ≤ a ∧ a ≤ 15)
theorem impl_SenseOk_eq (a : Int) : impl_SenseOk.f a = some (senseOk a) := by unfold impl_SenseOk.f; rw [impl_within_eq]; rfl
theorem spec_SenseOk_eq (a : Int) : spec_SenseOk.f a = some (senseOk a) := by unfold spec_SenseOk.f; rw [spec_l01In_eq]; rfl
theorem szIntS_eq (l : List Int) (hl : l.length ≤ maxLen) (a : Int) (ha : 0 ≤ a ∧ a ≤ 1048576) : laws_szIntS.f l a = some (if (l.length : Int) ≤ a then a - (l.length : Int) else -1) := by
  rw [maxLen_eq] at hl
  unfold laws_szIntS.f
  rw [w64 (by omega) (by omega)]
  by_cases h : (l.length : Int) ≤ a
  · rw [if_neg (by omega), if_pos h]
  · rw [if_pos (by omega), if_neg h]
theorem toIntS_ev (l : List Int) (hl : l.length ≤ 1048576) : Ev (fun k => laws_toIntS.f k l) l := by
  unfold laws_toIntS.f
  refine ev_if_pos (by omega) (ev_if_pos (by omega) ?_)
  simp only [Int.toNat_natCast]
  refine ev_cast (map_loop (fun x : Int => x) 0 l (fun k out i => laws_toIntS.l0 k l out i) (fun out => ?_) (fun i x out r hx hi ho h => ?_)) (by simp)
  · refine Ev.step (fun q => by rw [laws_toIntS.l0]) ?_
    exact ev_if_neg (by omega) ev_some
  · refine Ev.step (fun q => by rw [laws_toIntS.l0]) ?_
    refine ev_if_pos (by omega) (ev_if_pos (by omega) (ev_if_pos (by omega) ?_))
    have e : rd l (i : Int) = x := getD_at hx
    rw [e, w64_succ (by omega)]
    exact h
theorem eqIntS_refl (l : List Int) (hl : l.length ≤ 9223372036854775807) : Ev (fun k => laws_eqIntS.f k l l) true := by
  unfold laws_eqIntS.f
  refine ev_if_pos rfl ?_
  refine count_loop l.length (fun k i => laws_eqIntS.l0 k l l i) true ?_ (fun i hi h => ?_) 0 (by omega)
  · refine Ev.step (fun q => by rw [laws_eqIntS.l0]) ?_
    exact ev_if_neg (by omega) ev_some
  · refine Ev.step (fun q => by rw [laws_eqIntS.l0]) ?_
    refine ev_if_pos (by omega) (ev_if_pos (by omega) (ev_if_pos (by omega) (ev_if_pos rfl ?_)))
    rw [w64_succ (by omega)]
    exact h
theorem szGuard_eq (l : List Int) (b : Int) (hl : l.length ≤ maxLen) (a : Int) (ha : 0 ≤ a ∧ a ≤ 1048576) : laws_szGuard.f l b a = some (if (l.length : Int) ≤ a then a - (l.length : Int) else -1) := by
  unfold laws_szGuard.f
  rw [szIntS_eq l hl a ha, Option.bind_some]
  by_cases h : (l.length : Int) ≤ a
  · rw [if_pos h, if_neg (by omega)]
  · rw [if_neg h, if_pos (by omega)]
theorem toGuard_ev (l : List Int) (a : Int) (hl : l.length ≤ 1048576) : Ev (fun k => laws_toGuard.f k l a) (l, a) := by
  unfold laws_toGuard.f
  exact Ev.bind (toIntS_ev l hl) ev_some
theorem eqGuard_refl (l : List Int) (a : Int) (hl : l.length ≤ 9223372036854775807) : Ev (fun k => laws_eqGuard.f k l a l a) true := by
  unfold laws_eqGuard.f
  exact Ev.bind (eqIntS_refl l hl) (ev_if_pos rfl (ev_if_pos rfl ev_some))
theorem wrap64_sub (a b : Int) : wrap64 (wrap64 a - b) = wrap64 (a - b) := by unfold wrap64; omega
theorem wrap64_add (a b : Int) : wrap64 (wrap64 a + b) = wrap64 (a + b) := by unfold wrap64; omega
theorem spec_l16Sum_ev (l : List Int) (hl : l.length ≤ 9223372036854775806) : Ev (fun k => spec_l16Sum.f k l) (wrap64 l.sum) := by
  unfold spec_l16Sum.f
  refine Ev.congr (f := fun k => spec_l16Sum.l0 k l (wrap64 0) ((0 : Nat) : Int)) (fun k => by rw [w64 (n := 0) (by omega) (by omega)]; rfl) ?_
  refine ev_cast (list_loop l (fun k s i => spec_l16Sum.l0 k l (wrap64 s) i) (fun r s => wrap64 (s + r.sum)) (fun s => ?_) (fun i s x rest hx hi h => ?_) 0 (by omega) 0) (by simp)
  · refine Ev.step (fun q => by rw [spec_l16Sum.l0]) ?_
    exact ev_if_neg (by omega) (ev_cast ev_some (by simp))
  · refine Ev.step (fun q => by rw [spec_l16Sum.l0]) ?_
    refine ev_if_pos (by omega) (ev_if_pos (by omega) ?_)
    rw [rd_drop hx, w64_succ (by omega), wrap64_add]
    refine ev_cast (h (s + x)) ?_
    simp [Int.add_assoc]
theorem impl_RoomOf_ev (l : List Int) (a : Int) (hl : l.length ≤ 9223372036854775806) : Ev (fun k => impl_RoomOf.f k l a) (wrap64 (30 - l.sum)) := by
  unfold impl_RoomOf.f
  refine Ev.congr (f := fun k => impl_RoomOf.l0 k (wrap64 30) l (l.length : Int) ((0 : Nat) : Int)) (fun k => by rw [w64 (n := 30) (by omega) (by omega)]; rfl) ?_
  refine ev_cast (list_loop l (fun k s i => impl_RoomOf.l0 k (wrap64 s) l (l.length : Int) i) (fun r s => wrap64 (s - r.sum)) (fun s => ?_) (fun i s x rest hx hi h => ?_) 0 (by omega) 30) (by simp)
  · refine Ev.step (fun q => by rw [impl_RoomOf.l0]) ?_
    exact ev_if_neg (by omega) (ev_cast ev_some (by simp))
  · refine Ev.step (fun q => by rw [impl_RoomOf.l0]) ?_
    refine ev_if_pos (by omega) (ev_if_pos (by omega) (ev_if_pos (by omega) ?_))
    rw [rd_drop hx, w64_succ (by omega), wrap64_sub]
    refine ev_cast (h (s - x)) ?_
    congr 1
    simp only [List.sum_cons]; omega
def pastOk (l : List Int) : Bool := l.all (fun x => decide (0 ≤ x ∧ x ≤ 30))
theorem pastOk_cons (x : Int) (l : List Int) : pastOk (x :: l) = (decide (0 ≤ x ∧ x ≤ 30) && pastOk l) := by simp [pastOk]
theorem pastOk_sum {l : List Int} (h : pastOk l = true) : 0 ≤ l.sum ∧ l.sum ≤ 30 * l.length := by
  induction l with
  | nil => simp
  | cons x l ih =>
    rw [pastOk_cons, Bool.and_eq_true, decide_eq_true_iff] at h
    have := ih h.2
    simp only [List.sum_cons, List.length_cons]
    omega
def guardOk (l : List Int) (a : Int) : Bool := decide (l.length ≤ 9) && pastOk l && decide (l.sum ≤ 30) && senseOk a
theorem impl_GuardOk_ev (l : List Int) (a : Int) (hl : l.length ≤ 9223372036854775806) : Ev (fun k => impl_GuardOk.f k l a) (guardOk l a) := by
  unfold impl_GuardOk.f
  have hend : Ev (fun k => impl_GuardOk.l0 k l (l.length : Int) (l.length : Int) l a) (if pastOk l = true then guardOk l a else decide (l.length ≤ 9) && decide (0 ≤ wrap64 (30 - l.sum)) && senseOk a) := by
    refine Ev.step (fun q => by rw [impl_GuardOk.l0]) ?_
    refine ev_if_neg (by omega) ?_
    by_cases h9 : (l.length : Int) ≤ 9
    · refine ev_if_pos h9 (Ev.bind (impl_RoomOf_ev l a hl) ?_)
      simp only [impl_SenseOk_eq, Option.bind_some]
      have h9' : l.length ≤ 9 := by omega
      by_cases hp : pastOk l = true
      · have hs := pastOk_sum hp
        rw [w64 (by omega) (by omega), if_pos hp]
        unfold guardOk
        rw [hp]
        by_cases h30 : l.sum ≤ 30
        · refine ev_if_pos (by omega) (ev_cast ev_some ?_)
          simp [h9', h30]
        · refine ev_if_neg (by omega) (ev_cast ev_some ?_)
          simp [h30]
      · rw [if_neg hp]
        by_cases h30 : wrap64 (30 - l.sum) ≥ 0
        · refine ev_if_pos h30 (ev_cast ev_some ?_)
          have : 0 ≤ wrap64 (30 - l.sum) := h30
          simp [h9', this]
        · refine ev_if_neg h30 (ev_cast ev_some ?_)
          have : ¬ 0 ≤ wrap64 (30 - l.sum) := h30
          simp [this]
    · refine ev_if_neg h9 (ev_cast ev_some ?_)
      have h9' : ¬ l.length ≤ 9 := by omega
      unfold guardOk
      split <;> simp [h9']
  refine ev_cast (list_loop l (fun k (_ : Unit) i => impl_GuardOk.l0 k l (l.length : Int) i l a) (fun r _ => pastOk r && (if pastOk l = true then guardOk l a else decide (l.length ≤ 9) && decide (0 ≤ wrap64 (30 - l.sum)) && senseOk a)) (fun _ => ev_cast hend (by simp [pastOk])) (fun i _ x rest hx hi h => ?_) 0 (by omega) ()) ?_
  · refine Ev.step (fun q => by rw [impl_GuardOk.l0]) ?_
    refine ev_if_pos (by omega) (ev_if_pos (by omega) (ev_if_pos (by omega) ?_))
    rw [rd_drop hx, impl_within_eq, w64_succ (by omega)]
    simp only [Option.bind_some, decide_eq_true_eq]
    by_cases hx2 : 0 ≤ x ∧ x ≤ 30
    · refine ev_if_pos hx2 (ev_cast (h ()) ?_)
      rw [pastOk_cons]; simp [hx2]
    · refine ev_if_neg hx2 (ev_cast ev_some ?_)
      rw [pastOk_cons]; simp [hx2]
  · simp only [List.drop_zero]
    cases hp : pastOk l with
    | true => simp
    | false => unfold guardOk; rw [hp]; simp
theorem spec_GuardOk_ev (l : List Int) (a : Int) (hl : l.length ≤ 9223372036854775806) : Ev (fun k => spec_GuardOk.f k l a) (guardOk l a) := by
  have hloop : l.length ≤ 9 → Ev (fun k => spec_GuardOk.l0 k 0 l a) (pastOk l && decide (l.sum ≤ 30)) := by
    intro h9
    have hend : pastOk l = true → Ev (fun k => spec_GuardOk.l0 k (l.length : Int) l a) (decide (l.sum ≤ 30)) := by
      intro hp
      have hs := pastOk_sum hp
      refine Ev.step (fun q => by rw [spec_GuardOk.l0]) ?_
      refine ev_if_neg (by omega) (Ev.bind (spec_l16Sum_ev l hl) ?_)
      rw [w64 (by omega) (by omega)]
      exact ev_some
    cases hp : pastOk l with
    | true =>
      refine ev_cast (count_loop l.length (fun k i => spec_GuardOk.l0 k i l a) (decide (l.sum ≤ 30)) (hend hp) (fun i hi h => ?_) 0 (by omega)) (by simp)
      refine Ev.step (fun q => by rw [spec_GuardOk.l0]) ?_
      refine ev_if_pos (by omega) (ev_if_pos (by omega) ?_)
      have hc : l.drop i = l[i] :: l.drop (i + 1) := List.drop_eq_getElem_cons hi
      have hm : decide (0 ≤ l[i] ∧ l[i] ≤ 30) = true := by
        have := List.all_eq_true.1 hp l[i] (List.getElem_mem hi)
        exact this
      rw [rd_drop hc, spec_l01In_eq, hm, w64_succ (by omega)]
      simp only [Option.bind_some, if_true]
      exact h
    | false =>
      refine ev_cast (list_loop l (fun k (_ : Unit) i => spec_GuardOk.l0 k i l a) (fun r _ => if pastOk r = true then wrap64 l.sum ≤ 30 else false) (fun _ => ?_) (fun i _ x rest hx hi h => ?_) 0 (by omega) ()) (by simp [hp])
      · refine Ev.step (fun q => by rw [spec_GuardOk.l0]) ?_
        refine ev_if_neg (by omega) (Ev.bind (spec_l16Sum_ev l hl) (ev_cast ev_some ?_))
        simp [pastOk]
      · refine Ev.step (fun q => by rw [spec_GuardOk.l0]) ?_
        refine ev_if_pos (by omega) (ev_if_pos (by omega) ?_)
        rw [rd_drop hx, spec_l01In_eq, w64_succ (by omega)]
        simp only [Option.bind_some, decide_eq_true_eq]
        by_cases hx2 : 0 ≤ x ∧ x ≤ 30
        · refine ev_if_pos hx2 (ev_cast (h ()) ?_)
          rw [pastOk_cons]; simp [hx2]
        · refine ev_if_neg hx2 (ev_cast ev_some ?_)
          rw [pastOk_cons]; simp [hx2]
  unfold spec_GuardOk.f
  by_cases h9 : (l.length : Int) > 9
  · refine ev_if_pos h9 ?_
    refine Ev.step (fun q => by rw [spec_GuardOk.j0]) (ev_if_pos rfl (ev_cast ev_some ?_))
    have h9' : ¬ l.length ≤ 9 := by omega
    simp [guardOk, h9']
  · refine ev_if_neg h9 ?_
    simp only [spec_SenseOk_eq, Option.bind_some]
    have h9' : l.length ≤ 9 := by omega
    refine Ev.step (fun q => by rw [spec_GuardOk.j0]) ?_
    cases hs : senseOk a with
    | false => exact ev_if_pos rfl (ev_cast ev_some (by simp [guardOk, hs]))
    | true =>
      refine ev_if_neg (by simp) (ev_cast (hloop h9') ?_)
      simp [guardOk, hs, h9']

theorem guardOk_den {l : List Int} {a : Int} (h : guardOk l a = true) : l.length ≤ 9 ∧ pastOk l = true ∧ l.sum ≤ 30 ∧ senseOk a = true := by
  unfold guardOk at h
  simp only [Bool.and_eq_true, decide_eq_true_iff] at h
  exact ⟨h.1.1.1, h.1.1.2, h.1.2, h.2⟩
def marks (m : Int) (n : Nat) : List Int := (List.range n).map (fun (i : Nat) => m + (i : Int))
theorem marks_length (m : Int) (n : Nat) : (marks m n).length = n := by simp [marks]
theorem marks_get (m : Int) {n i : Nat} (h : i < n) : (marks m n)[i]? = some (m + (i : Int)) := by simp [marks, h]
theorem markIntS_ev (l : List Int) (m : Int) (hm : 0 ≤ m ∧ m ≤ 9000000000000000000) (hl : l.length ≤ 17592186044416) : Ev (fun k => laws_markIntS.f k l m) (m + (l.length : Int), marks m l.length) := by
  unfold laws_markIntS.f
  have key : ∀ (d i : Nat) (x : List Int), i + d = l.length → x.length = l.length → Ev (fun k => laws_markIntS.l0 k x (m + (i : Int)) (i : Int)) (m + (l.length : Int), x.take i ++ (List.range' i d).map (fun (j : Nat) => m + (j : Int))) := by
    intro d
    induction d with
    | zero =>
      intro i x hi hx
      refine Ev.step (fun q => by rw [laws_markIntS.l0]) ?_
      refine ev_if_neg (by omega) (ev_cast ev_some ?_)
      have e : i = l.length := by omega
      subst e
      simp [List.take_of_length_le (Nat.le_of_eq hx)]
    | succ d ih =>
      intro i x hi hx
      refine Ev.step (fun q => by rw [laws_markIntS.l0]) ?_
      refine ev_if_pos (by omega) (ev_if_pos (by omega) ?_)
      rw [Int.toNat_natCast, w64_succ (by omega), w64 (n := m + (i : Int) + 1) (by omega) (by omega)]
      have e1 : m + (i : Int) + 1 = m + ((i + 1 : Nat) : Int) := by omega
      have e2 : (i : Int) + 1 = ((i + 1 : Nat) : Int) := by omega
      rw [e1, e2]
      refine ev_cast (ih (i + 1) (x.set i (m + (i : Int))) (by omega) (by rw [List.length_set]; exact hx)) ?_
      have hix : i < (x.set i (m + (i : Int))).length := by rw [List.length_set]; omega
      rw [List.range'_succ, List.map_cons, List.take_succ_eq_append_getElem hix, List.getElem_set_self, List.take_set_of_le (Nat.le_refl i), List.append_assoc]
      rfl
  refine ev_cast (key l.length 0 l (by omega) rfl) ?_ |>.congr (fun k => by simp)
  simp [marks, List.range_eq_range']
theorem heldIntS_ev (m : Int) (n : Nat) (hm : 0 ≤ m ∧ m ≤ 9000000000000000000) (hl : n ≤ 17592186044416) : Ev (fun k => laws_heldIntS.f k (marks m n) m) (m + (n : Int)) := by
  unfold laws_heldIntS.f
  refine (count_loop n (fun k i => laws_heldIntS.l0 k (marks m n) (m + i) i) (m + (n : Int)) ?_ (fun i hi h => ?_) 0 (by omega)).congr (fun k => by simp)
  · refine Ev.step (fun q => by rw [laws_heldIntS.l0]) ?_
    exact ev_if_neg (by rw [marks_length]; omega) ev_some
  · refine Ev.step (fun q => by rw [laws_heldIntS.l0]) ?_
    refine ev_if_pos (by rw [marks_length]; omega) (ev_if_pos (by omega) ?_)
    have e : rd (marks m n) (i : Int) = m + (i : Int) := getD_at (marks_get m hi)
    refine ev_if_pos e ?_
    rw [w64_succ (by omega), w64 (n := m + (i : Int) + 1) (by omega) (by omega), Int.add_assoc]
    exact h
theorem markGuard_ev (l : List Int) (a m : Int) (hm : 0 ≤ m ∧ m ≤ 9000000000000000000) (hl : l.length ≤ 17592186044416) : Ev (fun k => laws_markGuard.f k l a m) (m + (l.length : Int), marks m l.length) := by
  unfold laws_markGuard.f
  exact Ev.bind (markIntS_ev l m hm hl) ev_some
theorem heldGuard_ev (a m : Int) (n : Nat) (hm : 0 ≤ m ∧ m ≤ 9000000000000000000) (hl : n ≤ 17592186044416) : Ev (fun k => laws_heldGuard.f k (marks m n) a m) (m + (n : Int)) := by
  unfold laws_heldGuard.f
  exact Ev.bind (heldIntS_ev m n hm hl) (ev_if_neg (by omega) ev_some)
theorem impl_copyGuard_eq (l : List Int) (a : Int) (hl : l.length < 17592186044416) : impl_copyGuard.f l a = some (l, a) := by
  unfold impl_copyGuard.f impl_copyInts.f
  simp only [Option.bind_some, List.length_nil, Nat.zero_add, List.nil_append]
  rw [if_pos hl]; rfl
theorem spec_l16Copy_eq (l : List Int) (a : Int) (hl : l.length < 17592186044416) : spec_l16Copy.f l a = some (l, a) := by
  unfold spec_l16Copy.f
  simp only [Option.bind_some, List.length_nil, Nat.zero_add, List.nil_append]
  rw [if_pos hl]
theorem ev_of_mono {α : Type} {g : Nat → Option α} {r : α} (m : ∀ k, LeO (g k) (g (k + 1))) (n : Nat) (h : g n = some r) : Ev g r := by
  refine ⟨n, fun k hk => ?_⟩
  induction hk with
  | refl => exact h
  | step _ ih => exact m _ _ ih
theorem l13_or : ∀ a b : Fin 16, spec_l13Both.f 5 (a.val : Int) (b.val : Int) = some (Go.bits .or .i64 (a.val : Int) (b.val : Int)) := by decide +kernel
theorem spec_l13Both_ev (a b : Int) (ha : 0 ≤ a ∧ a ≤ 15) (hb : 0 ≤ b ∧ b ≤ 15) : Ev (fun k => spec_l13Both.f k a b) (Go.bits .or .i64 a b) := by
  have h := l13_or ⟨a.toNat, by omega⟩ ⟨b.toNat, by omega⟩
  simp only [Int.toNat_of_nonneg ha.1, Int.toNat_of_nonneg hb.1] at h
  exact ev_of_mono (fun k => spec_l13Both.mono _ _ k) 5 h
def feel (l : List Int) (a s : Int) (b : Bool) : Int := if guardOk l a = true ∧ senseOk s = true then (if b = true then s else Go.bits .or .i64 a s) else a
theorem impl_Feel_ev (l : List Int) (a s : Int) (b : Bool) (hl : l.length < 17592186044416) : Ev (fun k => impl_Feel.f k l a s b) (l, feel l a s b) := by
  have hj : ∀ x, (x = true → ¬ (guardOk l a = true ∧ senseOk s = true)) → (x = false → guardOk l a = true ∧ senseOk s = true) → Ev (fun k => impl_Feel.j0 k s b x l a) (l, feel l a s b) := by
    intro x h1 h2
    refine Ev.step (fun q => by rw [impl_Feel.j0]) ?_
    unfold feel
    cases x with
    | true => exact ev_if_pos rfl (ev_cast ev_some (by rw [if_neg (h1 rfl)]))
    | false =>
      refine ev_if_neg (by simp) ?_
      rw [if_pos (h2 rfl)]
      cases b with
      | true => exact ev_if_pos rfl ev_some
      | false => exact ev_if_neg (by simp) ev_some
  unfold impl_Feel.f
  simp only [impl_copyGuard_eq l a hl, Option.bind_some]
  refine Ev.bind (impl_GuardOk_ev l a (by omega)) ?_
  by_cases h : guardOk l a = true
  · refine ev_if_pos h ?_
    simp only [impl_SenseOk_eq, Option.bind_some]
    refine hj _ (fun e => ?_) (fun e => ?_)
    · intro q; rw [q.2] at e; cases e
    · refine ⟨h, ?_⟩; cases hs : senseOk s with
      | true => rfl
      | false => rw [hs] at e; cases e
  · exact ev_if_neg h (hj true (fun _ q => h q.1) (fun e => by cases e))
theorem spec_Feel_ev (l : List Int) (a s : Int) (b : Bool) (hl : l.length < 17592186044416) : Ev (fun k => spec_Feel.f k l a s b) (l, feel l a s b) := by
  have hj : ∀ x, (x = true → ¬ (guardOk l a = true ∧ senseOk s = true)) → (x = false → guardOk l a = true ∧ senseOk s = true) → Ev (fun k => spec_Feel.j0 k s b x l a l a) (l, feel l a s b) := by
    intro x h1 h2
    refine Ev.step (fun q => by rw [spec_Feel.j0]) ?_
    unfold feel
    cases x with
    | true => exact ev_if_pos rfl (ev_cast ev_some (by rw [if_neg (h1 rfl)]))
    | false =>
      have hg := (guardOk_den (h2 rfl).1).2.2.2
      have hs := (h2 rfl).2
      unfold senseOk at hg hs
      refine ev_if_neg (by simp) (Ev.bind (spec_l13Both_ev a s (of_decide_eq_true hg) (of_decide_eq_true hs)) ?_)
      rw [if_pos (h2 rfl)]
      cases b with
      | true => exact ev_if_pos rfl ev_some
      | false => exact ev_if_neg (by simp) ev_some
  unfold spec_Feel.f
  simp only [spec_l16Copy_eq l a hl, Option.bind_some]
  refine Ev.bind (spec_GuardOk_ev l a (by omega)) ?_
  by_cases h : guardOk l a = true
  · refine ev_if_pos h ?_
    simp only [spec_SenseOk_eq, Option.bind_some]
    refine hj _ (fun e => ?_) (fun e => ?_)
    · intro q; rw [q.2] at e; cases e
    · refine ⟨h, ?_⟩; cases hs : senseOk s with
      | true => rfl
      | false => rw [hs] at e; cases e
  · exact ev_if_neg h (hj true (fun _ q => h q.1) (fun e => by cases e))

theorem FnExactFeel : ∀ (l0_0 : (List Int)) (a0_1 : Int) (a1 : Int) (a2 : Bool), (l0_0.length ≤ maxLen ∧ ∀ x ∈ l0_0, (Lit.int .i64 x).wf = true) → (Lit.int .i64 a0_1).wf = true → (Lit.int .i64 a1).wf = true → ∃ k, laws_FnExactFeel.f k l0_0 a0_1 a1 a2 = some true := by
  rintro l a s b ⟨hl, _⟩ _ _
  refine Ev.rounds ?_
  unfold laws_FnExactFeel.f
  rw [szGuard_eq l a hl 1048576 (by omega)]
  simp only [Option.bind_some]
  by_cases h : (l.length : Int) ≤ 1048576
  · rw [if_pos h]
    have hn : l.length ≤ 1048576 := by omega
    refine ev_if_neg (by omega) ?_
    refine Ev.bind (toGuard_ev l a hn) ?_
    refine Ev.bind (spec_Feel_ev l a s b (by omega)) ?_
    refine Ev.bind (toGuard_ev l a hn) ?_
    refine Ev.bind (impl_Feel_ev l a s b (by omega)) ?_
    refine Ev.bind (eqGuard_refl l _ (by omega)) ?_
    refine ev_if_pos rfl ?_
    refine Ev.bind (toGuard_ev l a hn) ?_
    refine Ev.bind (eqGuard_refl l a (by omega)) ?_
    refine ev_if_pos rfl ?_
    refine Ev.bind (markGuard_ev l a 1 (by omega) (by omega)) ?_
    refine ev_if_neg (by show ¬ (1 + (l.length : Int) < 0); omega) ?_
    refine Ev.bind (eqGuard_refl l _ (by omega)) ?_
    refine Ev.step (fun q => by rw [laws_FnExactFeel.j0]) ?_
    refine ev_if_neg (by simp) ?_
    refine Ev.bind (markGuard_ev l _ 1 (by omega) (by omega)) ?_
    refine Ev.bind (heldGuard_ev _ 1 l.length (by omega) (by omega)) ?_
    refine ev_if_neg (by omega) (ev_if_pos rfl ?_)
    refine Ev.bind (toGuard_ev l a hn) ?_
    refine Ev.bind (impl_Feel_ev l a s b (by omega)) ?_
    refine Ev.bind (eqGuard_refl l _ (by omega)) ?_
    refine ev_if_pos rfl ?_
    refine Ev.bind (heldGuard_ev _ 1 l.length (by omega) (by omega)) ?_
    exact ev_if_neg (by omega) (ev_if_pos rfl ev_some)
  · rw [if_neg h]
    exact ev_if_pos (by omega) ev_some

end Go.Proofs.Ytklcjpidbpplkaa.Pure
