/- For all arguments the program's WithinLimits returns what the reference's returns. Conditions: none (a list longer than the statement's own bound is let by). -/
import Derived.Test.YtieddilnccjabaaPFnExactWithinLimitsx
import Derived.Test.YtieddilnccjabaaWMore
set_option linter.unusedVariables false
set_option linter.unusedSimpArgs false
namespace Go.Proofs.Ytieddilnccjabaa.Pure
open Go.RowKit Go.Proofs.Ytieddilnccjabaa.PFnExactWithinLimits Go.Proofs.YtieddilnccjabaaW.PrintWords Go.Proofs.YtieddilnccjabaaW.PrintLast Go.Proofs.YtieddilnccjabaaW.PrintMore
def g84 (x : S84) : Prop := (Lit.int .i64 x.f0).wf = true ∧ (Lit.int .i64 x.f1).wf = true ∧ (Lit.int .i64 x.f2).wf = true
theorem ev_if_pos {α : Type} {c : Prop} [Decidable c] {a b : Nat → Option α} {r : α} (h : c) (k : Ev a r) : Ev (fun n => if c then a n else b n) r :=
  Ev.congr (fun n => if_pos h) k
theorem ev_if_neg {α : Type} {c : Prop} [Decidable c] {a b : Nat → Option α} {r : α} (h : ¬ c) (k : Ev b r) : Ev (fun n => if c then a n else b n) r :=
  Ev.congr (fun n => if_neg h) k
theorem ev_some {α : Type} {r : α} : Ev (fun _ => some r) r := Ev.now r
theorem ev_cast {α : Type} {g : Nat → Option α} {r r' : α} (h : Ev g r) (e : r = r') : Ev g r' := e ▸ h
/-- A loop over a list, from a place on: what it comes to is told by a function of what is left and of what is carried. -/
theorem list_loop {α σ ρ : Type} (l : List α) (L : Nat → σ → Int → Option ρ) (F : List α → σ → ρ)
    (done : ∀ s, Ev (fun k => L k s (l.length : Int)) (F [] s))
    (step : ∀ (i : Nat) (s : σ) (x : α) (rest : List α), l.drop i = x :: rest → i < l.length → (∀ s', Ev (fun k => L k s' ((i : Int) + 1)) (F rest s')) → Ev (fun k => L k s (i : Int)) (F (x :: rest) s)) :
    ∀ (i : Nat), i ≤ l.length → ∀ s, Ev (fun k => L k s (i : Int)) (F (l.drop i) s) := by
  intro i hi
  obtain ⟨d, hd⟩ : ∃ d, d = l.length - i := ⟨_, rfl⟩
  induction d generalizing i with
  | zero =>
    intro s
    have e : i = l.length := by omega
    subst e
    rw [List.drop_length]
    exact done s
  | succ d ih =>
    intro s
    have hlt : i < l.length := by omega
    have hc : l.drop i = l[i] :: l.drop (i + 1) := List.drop_eq_getElem_cons hlt
    rw [hc]
    refine step i s _ _ hc hlt (fun s' => ?_)
    have := ih (i + 1) (by omega) (by omega) s'
    simpa using this
theorem w64 {n : Int} (h0 : -9223372036854775808 ≤ n) (h1 : n ≤ 9223372036854775807) : wrap64 n = n := by unfold wrap64; omega
theorem w64_succ {i : Nat} (h : i < 9223372036854775807) : wrap64 ((i : Int) + 1) = (i : Int) + 1 := w64 (by omega) (by omega)
theorem maxLen_eq : maxLen = 9223372036854775807 := rfl
theorem mx_eq (a b : Int) : mx a b = max a b := by unfold mx; split <;> omega
theorem mn_eq (a b : Int) : mn a b = min a b := by unfold mn; split <;> omega
theorem getD_drop {α : Type} {l : List α} {i : Nat} {x z : α} {r : List α} (h : l.drop i = x :: r) : l.getD (i : Int).toNat z = x := by
  have : l[i]? = some x := by
    have h2 : (l.drop i)[0]? = some x := by rw [h]; rfl
    simpa using h2
  simp [List.getD_eq_getElem?_getD, this]
theorem count_loop {ρ : Type} (n : Nat) (L : Nat → Int → Option ρ) (r : ρ) (done : Ev (fun k => L k (n : Int)) r)
    (step : ∀ i : Nat, i < n → Ev (fun k => L k ((i : Int) + 1)) r → Ev (fun k => L k (i : Int)) r) : ∀ i : Nat, i ≤ n → Ev (fun k => L k (i : Int)) r := by
  intro i hi
  obtain ⟨d, hd⟩ : ∃ d, d = n - i := ⟨_, rfl⟩
  induction d generalizing i with
  | zero =>
    have e : i = n := by omega
    subst e
    exact done
  | succ d ih =>
    have := ih (i + 1) (by omega) (by omega)
    exact step i (by omega) (by simpa using this)
/-- A loop that fills a new list, place by place. -/
theorem map_loop {α β : Type} (c : α → β) (z : β) (l : List α) (L : Nat → List β → Int → Option (List β)) (done : ∀ out, Ev (fun k => L k out (l.length : Int)) out)
    (step : ∀ (i : Nat) (x : α) (out : List β) (r : List β), l[i]? = some x → i < l.length → out.length = l.length → Ev (fun k => L k (out.set i (c x)) ((i : Int) + 1)) r → Ev (fun k => L k out (i : Int)) r) :
    Ev (fun k => L k (List.replicate l.length z) 0) (l.map c) := by
  have key : ∀ (suf pre : List α), l = pre ++ suf → Ev (fun k => L k (pre.map c ++ List.replicate suf.length z) (pre.length : Int)) (l.map c) := by
    intro suf
    induction suf with
    | nil =>
      intro pre h
      have := done (pre.map c)
      simp only [List.append_nil] at h
      subst h
      simpa using this
    | cons x suf ih =>
      intro pre h
      have h1 := ih (pre ++ [x]) (by rw [h]; simp)
      have hlen : l.length = pre.length + (suf.length + 1) := by rw [h]; simp
      refine step pre.length x _ _ (by rw [h]; simp) (by omega) (by simp [hlen]) ?_
      have e : (List.map c pre ++ List.replicate (x :: suf).length z).set pre.length (c x) = List.map c (pre ++ [x]) ++ List.replicate suf.length z := by
        rw [List.set_append_right _ _ (by simp)]
        simp [List.replicate_succ]
      rw [e]
      simpa using h1
  simpa using key l [] rfl
theorem getD_at {α : Type} {l : List α} {i : Nat} {x z : α} (h : l[i]? = some x) : l.getD (i : Int).toNat z = x := by simp [List.getD_eq_getElem?_getD, h]

theorem szTickS_eq (l : List S84) (hl : l.length ≤ maxLen) (a : Int) (ha : 0 ≤ a ∧ a ≤ 1048576) : laws_szTickS.f l a = some (if (l.length : Int) ≤ a then a - (l.length : Int) else -1) := by
  rw [maxLen_eq] at hl
  unfold laws_szTickS.f
  rw [w64 (by omega) (by omega)]
  by_cases h : (l.length : Int) ≤ a
  · rw [if_neg (by omega), if_pos h]
  · rw [if_pos (by omega), if_neg h]
def cTick (x : S84) : S82 := ⟨x.f0, x.f1, x.f2⟩
theorem toTickS_ev (l : List S84) (hl : l.length ≤ 1048576) : Ev (fun k => laws_toTickS.f k l) (l.map cTick) := by
  unfold laws_toTickS.f
  refine ev_if_pos (by omega) (ev_if_pos (by omega) ?_)
  simp only [Int.toNat_natCast]
  refine map_loop cTick z82 l (fun k out i => laws_toTickS.l0 k l out i) (fun out => ?_) (fun i x out r hx hi ho h => ?_)
  · refine Ev.step (fun q => by rw [laws_toTickS.l0]) ?_
    exact ev_if_neg (by omega) ev_some
  · refine Ev.step (fun q => by rw [laws_toTickS.l0]) ?_
    refine ev_if_pos (by omega) (ev_if_pos (by omega) ?_)
    have e : rd_T84 l (i : Int) = x := getD_at hx
    rw [e]
    simp only [laws_toTick.f, Option.bind_some]
    refine ev_if_pos (by omega) ?_
    rw [w64_succ (by omega)]
    exact h
theorem eqTickS_refl (l : List S82) (hl : l.length ≤ 9223372036854775807) : Ev (fun k => laws_eqTickS.f k l l) true := by
  unfold laws_eqTickS.f
  refine ev_if_pos rfl ?_
  refine count_loop l.length (fun k i => laws_eqTickS.l0 k l l i) true ?_ (fun i hi h => ?_) 0 (by omega)
  · refine Ev.step (fun q => by rw [laws_eqTickS.l0]) ?_
    exact ev_if_neg (by omega) ev_some
  · refine Ev.step (fun q => by rw [laws_eqTickS.l0]) ?_
    refine ev_if_pos (by omega) (ev_if_pos (by omega) (ev_if_pos (by omega) ?_))
    have e : ∀ a b c, laws_eqTick.f a b c a b c = some true := by intro a b c; unfold laws_eqTick.f; simp
    rw [e]
    simp only [Option.bind_some, if_true]
    rw [w64_succ (by omega)]
    exact h
def clamp (a : Int) : Int := max (-1000000000000) (min a 1000000000000)
def addSat (a b : Int) : Int := clamp (clamp a + clamp b)
theorem clamp_range (a : Int) : -1000000000000 ≤ clamp a ∧ clamp a ≤ 1000000000000 := by unfold clamp; omega
theorem impl_bounded_eq (a : Int) : impl_bounded.f a = some (clamp a) := by
  unfold impl_bounded.f clamp; rw [mx_eq, mn_eq]; congr 1; omega
theorem spec_l03Into_eq (a : Int) : spec_l03Into.f a = some (clamp a) := by
  unfold spec_l03Into.f clamp; split
  · congr 1; omega
  · split <;> (congr 1; omega)
theorem impl_AddSat_eq (a b : Int) : impl_AddSat.f a b = some (addSat a b) := by
  have h1 := clamp_range a
  have h2 := clamp_range b
  unfold impl_AddSat.f addSat
  simp only [impl_bounded_eq, Option.bind_some]
  rw [w64 (by omega) (by omega)]
theorem spec_AddSat_eq (a b : Int) : spec_AddSat.f a b = some (addSat a b) := by
  have h1 := clamp_range a
  have h2 := clamp_range b
  unfold spec_AddSat.f addSat
  simp only [spec_l03Into_eq, Option.bind_some]
  rw [w64 (by omega) (by omega)]
/-- Is no sum of the begin of a list (each added as it stays) above the limit? -/
def underF : List S82 → Int → Bool
  | [], _ => true
  | t :: r, s => if addSat s t.f0 > 30 then false else underF r (addSat s t.f0)
def withinF : List S82 → Bool
  | [] => true
  | t :: r => underF ((t :: r).take 10) 0 && withinF r
theorem spec_WithinLimits_ev (l : List S82) (hl : l.length ≤ 1048576) : Ev (fun k => spec_WithinLimits.f k l) (withinF l) := by
  unfold spec_WithinLimits.f
  refine list_loop l (fun k (_ : Unit) i => spec_WithinLimits.l0 k l i) (fun r _ => withinF r) (fun _ => ?_) (fun i _ x rest hx hi h => ?_) 0 (by omega) ()
  · refine Ev.step (fun q => by rw [spec_WithinLimits.l0]) ?_
    exact ev_if_neg (by omega) ev_some
  · refine Ev.step (fun q => by rw [spec_WithinLimits.l0]) ?_
    refine ev_if_pos (by omega) ?_
    have inner : ∀ (d j : Nat) (s : Int), d = 10 - j → j ≤ 10 → Ev (fun k => spec_WithinLimits.l1 k l (i : Int) s ((i + j : Nat) : Int)) (underF (((x :: rest).drop j).take (10 - j)) s && withinF rest) := by
      intro d
      induction d with
      | zero =>
        intro j s hd hj
        have ej : j = 10 := by omega
        subst ej
        refine Ev.step (fun q => by rw [spec_WithinLimits.l1]) ?_
        have fin : ∀ b, b = false → Ev (fun k => spec_WithinLimits.j2 k l (i : Int) s ((i + 10 : Nat) : Int) b) (underF (((x :: rest).drop 10).take (10 - 10)) s && withinF rest) := by
          rintro b rfl
          refine Ev.step (fun q => by rw [spec_WithinLimits.j2]) ?_
          refine ev_if_neg (by simp) ?_
          rw [w64_succ (by omega)]
          refine ev_cast (h ()) ?_
          simp [underF]
        by_cases hb : ((i + 10 : Nat) : Int) < (l.length : Int)
        · refine ev_if_pos hb (fin _ ?_)
          rw [w64 (by omega) (by omega)]
          simp
        · exact ev_if_neg hb (fin _ rfl)
      | succ d ih =>
        intro j s hd hj
        refine Ev.step (fun q => by rw [spec_WithinLimits.l1]) ?_
        by_cases hb : ((i + j : Nat) : Int) < (l.length : Int)
        · refine ev_if_pos hb ?_
          have hlt : ((i + j : Nat) : Int) < wrap64 ((i : Int) + 10) := by rw [w64 (by omega) (by omega)]; omega
          simp only [hlt, decide_true]
          refine Ev.step (fun q => by rw [spec_WithinLimits.j2]) ?_
          refine ev_if_pos rfl (ev_if_pos (by omega) (ev_if_pos hb ?_))
          have hj' : l.drop (i + j) = (x :: rest).drop j := by rw [← List.drop_drop, hx]
          have hlt2 : i + j < l.length := by omega
          have hc : l.drop (i + j) = l[i + j] :: l.drop (i + j + 1) := List.drop_eq_getElem_cons hlt2
          have e : rd_T82 l ((i + j : Nat) : Int) = l[i + j] := getD_drop hc
          rw [e, spec_AddSat_eq]
          simp only [Option.bind_some]
          have hu : underF (((x :: rest).drop j).take (10 - j)) s = if addSat s (l[i + j]).f0 > 30 then false else underF (((x :: rest).drop (j + 1)).take (10 - (j + 1))) (addSat s (l[i + j]).f0) := by
            rw [← hj', hc, show 10 - j = (10 - (j + 1)) + 1 by omega, List.take_succ_cons, underF]
            have : (x :: rest).drop (j + 1) = l.drop (i + j + 1) := by rw [← hx, List.drop_drop, Nat.add_assoc]
            rw [this]
          by_cases h30 : addSat s (l[i + j]).f0 > 30
          · refine ev_if_pos h30 (ev_cast ev_some ?_)
            rw [hu, if_pos h30]; rfl
          · refine ev_if_neg h30 ?_
            rw [w64_succ (by omega)]
            have := ih (j + 1) (addSat s (l[i + j]).f0) (by omega) (by omega)
            rw [hu, if_neg h30]
            exact_mod_cast this
        · refine ev_if_neg hb ?_
          refine Ev.step (fun q => by rw [spec_WithinLimits.j2]) ?_
          refine ev_if_neg (by simp) ?_
          rw [w64_succ (by omega)]
          refine ev_cast (h ()) ?_
          have hlen : (x :: rest).length = l.length - i := by rw [← hx, List.length_drop]
          rw [List.drop_eq_nil_of_le (by omega)]
          simp [underF]
    have := inner 10 0 0 rfl (by omega)
    exact this
theorem impl_WithinLimits_ev (l : List S82) (hl : l.length ≤ 1048576) : Ev (fun k => impl_WithinLimits.f k l) (withinF l) := by
  unfold impl_WithinLimits.f
  refine list_loop l (fun k (_ : Unit) i => impl_WithinLimits.l0 k l (l.length : Int) i) (fun r _ => withinF r) (fun _ => ?_) (fun i _ x rest hx hi h => ?_) 0 (by omega) ()
  · refine Ev.step (fun q => by rw [impl_WithinLimits.l0]) ?_
    exact ev_if_neg (by omega) ev_some
  · refine Ev.step (fun q => by rw [impl_WithinLimits.l0]) ?_
    rw [w64 (n := (i : Int) + 10) (by omega) (by omega), mn_eq]
    refine ev_if_pos (by omega) (ev_if_pos (by omega) (ev_if_pos (by omega) (ev_if_pos (by omega) ?_)))
    have em : (l.take (min ((i : Int) + 10) (l.length : Int)).toNat).drop ((i : Int)).toNat = (x :: rest).take 10 := by
      rw [← hx, Int.toNat_natCast, List.drop_take]
      by_cases hm : i + 10 ≤ l.length
      · rw [show (min ((i : Int) + 10) (l.length : Int)).toNat - i = 10 by omega]
      · rw [show (min ((i : Int) + 10) (l.length : Int)).toNat - i = l.length - i by omega, List.take_of_length_le (by simp), List.take_of_length_le (by simp; omega)]
    rw [em]
    simp only [Option.bind_some]
    have hlen : (x :: rest).length = l.length - i := by rw [← hx, List.length_drop]
    refine ev_cast (list_loop ((x :: rest).take 10) (fun k s j => impl_WithinLimits.l1 k l s (l.length : Int) (i : Int) ((x :: rest).take 10) (((x :: rest).take 10).length : Int) j) (fun r s => underF r s && withinF rest) (fun s => ?_) (fun j s y rest' hy hj h' => ?_) 0 (by omega) 0) (by simp [withinF])
    · refine Ev.step (fun q => by rw [impl_WithinLimits.l1]) ?_
      refine ev_if_neg (by omega) ?_
      rw [w64_succ (by omega)]
      refine ev_cast (h ()) ?_
      simp [underF]
    · refine Ev.step (fun q => by rw [impl_WithinLimits.l1]) ?_
      refine ev_if_pos (by omega) (ev_if_pos (by omega) (ev_if_pos (by omega) ?_))
      have e : rd_T82 ((x :: rest).take 10) (j : Int) = y := getD_drop hy
      rw [e, impl_AddSat_eq]
      simp only [Option.bind_some]
      by_cases h30 : addSat s y.f0 > 30
      · refine ev_if_pos h30 (ev_cast ev_some ?_)
        simp [underF, h30]
      · refine ev_if_neg h30 ?_
        have hl10 : ((x :: rest).take 10).length ≤ 10 := by simp; omega
        rw [w64_succ (by omega)]
        refine ev_cast (h' _) ?_
        simp [underF, h30]

theorem FnExactWithinLimits : ∀ (l0 : (List S84)), (l0.length ≤ maxLen ∧ ∀ x ∈ l0, g84 x) → ∃ k, laws_FnExactWithinLimits.f k l0 = some true := by
  rintro l ⟨hl, _⟩
  refine Ev.rounds ?_
  unfold laws_FnExactWithinLimits.f
  rw [szTickS_eq l hl 1048576 (by omega)]
  simp only [Option.bind_some]
  by_cases h : (l.length : Int) ≤ 1048576
  · rw [if_pos h]
    have hn : l.length ≤ 1048576 := by omega
    have hm : (l.map cTick).length ≤ 1048576 := by simpa using hn
    refine ev_if_neg (by omega) ?_
    refine Ev.bind (toTickS_ev l hn) ?_
    refine Ev.bind (spec_WithinLimits_ev _ (by omega)) ?_
    refine Ev.bind (toTickS_ev l hn) ?_
    refine Ev.bind (impl_WithinLimits_ev _ (by omega)) ?_
    refine ev_if_neg (by simp) ?_
    refine Ev.bind (toTickS_ev l hn) ?_
    refine Ev.bind (eqTickS_refl _ (by omega)) ?_
    exact ev_if_pos rfl ev_some
  · rw [if_neg h]
    exact ev_if_pos (by omega) ev_some

end Go.Proofs.Ytieddilnccjabaa.Pure
