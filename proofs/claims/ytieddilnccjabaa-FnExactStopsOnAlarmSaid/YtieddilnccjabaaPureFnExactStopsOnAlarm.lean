/- For all arguments the program's StopsOnAlarm returns what the reference's returns. Conditions: none (a list longer than the statement's own bound is let by). -/
import Derived.Test.YtieddilnccjabaaPFnExactStopsOnAlarmx
import Derived.Test.YtieddilnccjabaaWMore
set_option linter.unusedVariables false
set_option linter.unusedSimpArgs false
namespace Go.Proofs.Ytieddilnccjabaa.Pure
open Go.RowKit Go.Proofs.Ytieddilnccjabaa.PFnExactStopsOnAlarm Go.Proofs.YtieddilnccjabaaW.PrintWords Go.Proofs.YtieddilnccjabaaW.PrintLast Go.Proofs.YtieddilnccjabaaW.PrintMore
def g84 (x : S84) : Prop := (Lit.int .i64 x.f0).wf = true ∧ (Lit.int .i64 x.f1).wf = true ∧ (Lit.int .i64 x.f2).wf = true
theorem ev_if_pos {α : Type} {c : Prop} [Decidable c] {a b : Nat → Option α} {r : α} (h : c) (k : Ev a r) : Ev (fun n => if c then a n else b n) r :=
  Ev.congr (fun n => if_pos h) k
theorem ev_if_neg {α : Type} {c : Prop} [Decidable c] {a b : Nat → Option α} {r : α} (h : ¬ c) (k : Ev b r) : Ev (fun n => if c then a n else b n) r :=
  Ev.congr (fun n => if_neg h) k
theorem ev_some {α : Type} {r : α} : Ev (fun _ => some r) r := Ev.now r
theorem ev_cast {α : Type} {g : Nat → Option α} {r r' : α} (h : Ev g r) (e : r = r') : Ev g r' := e ▸ h
/-- A loop over a list, from a place on: what it comes to is told by a function of what is left and of what is carried. -/
theorem list_loop {α σ ρ : Type} (l : List α) (L : Nat → σ → Int → Option ρ) (F : List α → σ → ρ)
    (done : ∀ s, Ev (fun k => L k s (l.length : Int)) (F [] s))
    (step : ∀ (i : Nat) (s : σ) (x : α) (rest : List α), l.drop i = x :: rest → i < l.length → (∀ s', Ev (fun k => L k s' ((i : Int) + 1)) (F rest s')) → Ev (fun k => L k s (i : Int)) (F (x :: rest) s)) :
    ∀ (i : Nat), i ≤ l.length → ∀ s, Ev (fun k => L k s (i : Int)) (F (l.drop i) s) := by
  intro i hi
  obtain ⟨d, hd⟩ : ∃ d, d = l.length - i := ⟨_, rfl⟩
  induction d generalizing i with
  | zero =>
    intro s
    have e : i = l.length := by omega
    subst e
    rw [List.drop_length]
    exact done s
  | succ d ih =>
    intro s
    have hlt : i < l.length := by omega
    have hc : l.drop i = l[i] :: l.drop (i + 1) := List.drop_eq_getElem_cons hlt
    rw [hc]
    refine step i s _ _ hc hlt (fun s' => ?_)
    have := ih (i + 1) (by omega) (by omega) s'
    simpa using this
theorem w64 {n : Int} (h0 : -9223372036854775808 ≤ n) (h1 : n ≤ 9223372036854775807) : wrap64 n = n := by unfold wrap64; omega
theorem w64_succ {i : Nat} (h : i < 9223372036854775807) : wrap64 ((i : Int) + 1) = (i : Int) + 1 := w64 (by omega) (by omega)
theorem maxLen_eq : maxLen = 9223372036854775807 := rfl
theorem getD_drop {α : Type} {l : List α} {i : Nat} {x z : α} {r : List α} (h : l.drop i = x :: r) : l.getD (i : Int).toNat z = x := by
  have : l[i]? = some x := by
    have h2 : (l.drop i)[0]? = some x := by rw [h]; rfl
    simpa using h2
  simp [List.getD_eq_getElem?_getD, this]
theorem count_loop {ρ : Type} (n : Nat) (L : Nat → Int → Option ρ) (r : ρ) (done : Ev (fun k => L k (n : Int)) r)
    (step : ∀ i : Nat, i < n → Ev (fun k => L k ((i : Int) + 1)) r → Ev (fun k => L k (i : Int)) r) : ∀ i : Nat, i ≤ n → Ev (fun k => L k (i : Int)) r := by
  intro i hi
  obtain ⟨d, hd⟩ : ∃ d, d = n - i := ⟨_, rfl⟩
  induction d generalizing i with
  | zero =>
    have e : i = n := by omega
    subst e
    exact done
  | succ d ih =>
    have := ih (i + 1) (by omega) (by omega)
    exact step i (by omega) (by simpa using this)
/-- A loop that fills a new list, place by place. -/
theorem map_loop {α β : Type} (c : α → β) (z : β) (l : List α) (L : Nat → List β → Int → Option (List β)) (done : ∀ out, Ev (fun k => L k out (l.length : Int)) out)
    (step : ∀ (i : Nat) (x : α) (out : List β) (r : List β), l[i]? = some x → i < l.length → out.length = l.length → Ev (fun k => L k (out.set i (c x)) ((i : Int) + 1)) r → Ev (fun k => L k out (i : Int)) r) :
    Ev (fun k => L k (List.replicate l.length z) 0) (l.map c) := by
  have key : ∀ (suf pre : List α), l = pre ++ suf → Ev (fun k => L k (pre.map c ++ List.replicate suf.length z) (pre.length : Int)) (l.map c) := by
    intro suf
    induction suf with
    | nil =>
      intro pre h
      have := done (pre.map c)
      simp only [List.append_nil] at h
      subst h
      simpa using this
    | cons x suf ih =>
      intro pre h
      have h1 := ih (pre ++ [x]) (by rw [h]; simp)
      have hlen : l.length = pre.length + (suf.length + 1) := by rw [h]; simp
      refine step pre.length x _ _ (by rw [h]; simp) (by omega) (by simp [hlen]) ?_
      have e : (List.map c pre ++ List.replicate (x :: suf).length z).set pre.length (c x) = List.map c (pre ++ [x]) ++ List.replicate suf.length z := by
        rw [List.set_append_right _ _ (by simp)]
        simp [List.replicate_succ]
      rw [e]
      simpa using h1
  simpa using key l [] rfl
theorem getD_at {α : Type} {l : List α} {i : Nat} {x z : α} (h : l[i]? = some x) : l.getD (i : Int).toNat z = x := by simp [List.getD_eq_getElem?_getD, h]

theorem szTickS_eq (l : List S84) (hl : l.length ≤ maxLen) (a : Int) (ha : 0 ≤ a ∧ a ≤ 1048576) : laws_szTickS.f l a = some (if (l.length : Int) ≤ a then a - (l.length : Int) else -1) := by
  rw [maxLen_eq] at hl
  unfold laws_szTickS.f
  rw [w64 (by omega) (by omega)]
  by_cases h : (l.length : Int) ≤ a
  · rw [if_neg (by omega), if_pos h]
  · rw [if_pos (by omega), if_neg h]
def cTick (x : S84) : S82 := ⟨x.f0, x.f1, x.f2⟩
theorem toTickS_ev (l : List S84) (hl : l.length ≤ 1048576) : Ev (fun k => laws_toTickS.f k l) (l.map cTick) := by
  unfold laws_toTickS.f
  refine ev_if_pos (by omega) (ev_if_pos (by omega) ?_)
  simp only [Int.toNat_natCast]
  refine map_loop cTick z82 l (fun k out i => laws_toTickS.l0 k l out i) (fun out => ?_) (fun i x out r hx hi ho h => ?_)
  · refine Ev.step (fun q => by rw [laws_toTickS.l0]) ?_
    exact ev_if_neg (by omega) ev_some
  · refine Ev.step (fun q => by rw [laws_toTickS.l0]) ?_
    refine ev_if_pos (by omega) (ev_if_pos (by omega) ?_)
    have e : rd_T84 l (i : Int) = x := getD_at hx
    rw [e]
    simp only [laws_toTick.f, Option.bind_some]
    refine ev_if_pos (by omega) ?_
    rw [w64_succ (by omega)]
    exact h
theorem eqTickS_refl (l : List S82) (hl : l.length ≤ 9223372036854775807) : Ev (fun k => laws_eqTickS.f k l l) true := by
  unfold laws_eqTickS.f
  refine ev_if_pos rfl ?_
  refine count_loop l.length (fun k i => laws_eqTickS.l0 k l l i) true ?_ (fun i hi h => ?_) 0 (by omega)
  · refine Ev.step (fun q => by rw [laws_eqTickS.l0]) ?_
    exact ev_if_neg (by omega) ev_some
  · refine Ev.step (fun q => by rw [laws_eqTickS.l0]) ?_
    refine ev_if_pos (by omega) (ev_if_pos (by omega) (ev_if_pos (by omega) ?_))
    have e : ∀ a b c, laws_eqTick.f a b c a b c = some true := by intro a b c; unfold laws_eqTick.f; simp
    rw [e]
    simp only [Option.bind_some, if_true]
    rw [w64_succ (by omega)]
    exact h
/-- Nothing is given in a tick with an alarm. -/
def stopsF : List S82 → Bool
  | [] => true
  | t :: r => if t.f1 ≠ 0 ∧ t.f0 ≠ 0 then false else stopsF r
theorem spec_StopsOnAlarm_ev (l : List S82) (hl : l.length ≤ 9223372036854775806) : Ev (fun k => spec_StopsOnAlarm.f k l) (stopsF l) := by
  unfold spec_StopsOnAlarm.f
  refine list_loop l (fun k (_ : Unit) i => spec_StopsOnAlarm.l0 k l i) (fun r _ => stopsF r) (fun _ => ?_) (fun i _ x rest hx hi h => ?_) 0 (by omega) ()
  · refine Ev.step (fun q => by rw [spec_StopsOnAlarm.l0]) ?_
    exact ev_if_neg (by omega) ev_some
  · refine Ev.step (fun q => by rw [spec_StopsOnAlarm.l0]) ?_
    refine ev_if_pos (by omega) (ev_if_pos (by omega) ?_)
    have e : rd_T82 l (i : Int) = x := getD_drop hx
    rw [e, w64_succ (by omega)]
    by_cases h1 : x.f1 = 0
    · refine ev_if_pos h1 (ev_cast (h ()) ?_)
      simp [stopsF, h1]
    · refine ev_if_neg h1 ?_
      by_cases h2 : x.f0 = 0
      · refine ev_if_pos h2 (ev_cast (h ()) ?_)
        simp [stopsF, h2]
      · refine ev_if_neg h2 (ev_cast ev_some ?_)
        simp [stopsF, h1, h2]
theorem impl_StopsOnAlarm_ev (l : List S82) (hl : l.length ≤ 9223372036854775806) : Ev (fun k => impl_StopsOnAlarm.f k l) (stopsF l) := by
  unfold impl_StopsOnAlarm.f
  refine list_loop l (fun k (_ : Unit) i => impl_StopsOnAlarm.l0 k l (l.length : Int) i) (fun r _ => stopsF r) (fun _ => ?_) (fun i _ x rest hx hi h => ?_) 0 (by omega) ()
  · refine Ev.step (fun q => by rw [impl_StopsOnAlarm.l0]) ?_
    exact ev_if_neg (by omega) ev_some
  · refine Ev.step (fun q => by rw [impl_StopsOnAlarm.l0]) ?_
    refine ev_if_pos (by omega) (ev_if_pos (by omega) (ev_if_pos (by omega) ?_))
    have e : rd_T82 l (i : Int) = x := getD_drop hx
    rw [e, w64_succ (by omega)]
    by_cases h1 : x.f1 = 0
    · refine ev_if_pos h1 (ev_cast (h ()) ?_)
      simp [stopsF, h1]
    · refine ev_if_neg h1 ?_
      by_cases h2 : x.f0 = 0
      · refine ev_if_pos h2 (ev_cast (h ()) ?_)
        simp [stopsF, h2]
      · refine ev_if_neg h2 (ev_cast ev_some ?_)
        simp [stopsF, h1, h2]
theorem FnExactStopsOnAlarm : ∀ (l0 : (List S84)), (l0.length ≤ maxLen ∧ ∀ x ∈ l0, g84 x) → ∃ k, laws_FnExactStopsOnAlarm.f k l0 = some true := by
  rintro l ⟨hl, _⟩
  refine Ev.rounds ?_
  unfold laws_FnExactStopsOnAlarm.f
  rw [szTickS_eq l hl 1048576 (by omega)]
  simp only [Option.bind_some]
  by_cases h : (l.length : Int) ≤ 1048576
  · rw [if_pos h]
    have hn : l.length ≤ 1048576 := by omega
    have hm : (l.map cTick).length ≤ 1048576 := by simpa using hn
    refine ev_if_neg (by omega) ?_
    refine Ev.bind (toTickS_ev l hn) ?_
    refine Ev.bind (spec_StopsOnAlarm_ev _ (by omega)) ?_
    refine Ev.bind (toTickS_ev l hn) ?_
    refine Ev.bind (impl_StopsOnAlarm_ev _ (by omega)) ?_
    refine ev_if_neg (by simp) ?_
    refine Ev.bind (toTickS_ev l hn) ?_
    refine Ev.bind (eqTickS_refl _ (by omega)) ?_
    exact ev_if_pos rfl ev_some
  · rw [if_neg h]
    exact ev_if_pos (by omega) ev_some

end Go.Proofs.Ytieddilnccjabaa.Pure
