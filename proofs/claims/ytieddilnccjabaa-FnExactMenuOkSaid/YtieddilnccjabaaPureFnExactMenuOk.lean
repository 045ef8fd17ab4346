/- For all arguments the program's MenuOk returns what the reference's returns. Conditions: none (a text longer than the statement's own bound is let by). -/
import Derived.Test.YtieddilnccjabaaPFnExactMenuOkx
import Derived.Test.YtieddilnccjabaaWMore
set_option linter.unusedVariables false
set_option linter.unusedSimpArgs false
namespace Go.Proofs.Ytieddilnccjabaa.Pure
open Go.RowKit Go.Proofs.Ytieddilnccjabaa.PFnExactMenuOk Go.Proofs.YtieddilnccjabaaW.PrintWords Go.Proofs.YtieddilnccjabaaW.PrintLast Go.Proofs.YtieddilnccjabaaW.PrintMore
theorem ev_if_pos {α : Type} {c : Prop} [Decidable c] {a b : Nat → Option α} {r : α} (h : c) (k : Ev a r) : Ev (fun n => if c then a n else b n) r :=
  Ev.congr (fun n => if_pos h) k
theorem ev_if_neg {α : Type} {c : Prop} [Decidable c] {a b : Nat → Option α} {r : α} (h : ¬ c) (k : Ev b r) : Ev (fun n => if c then a n else b n) r :=
  Ev.congr (fun n => if_neg h) k
theorem ev_bind_eq {α β : Type} {g : Option α} {f : Nat → α → Option β} {a : α} {r : β} (h : g = some a) (k : Ev (fun n => f n a) r) : Ev (fun n => g.bind (f n)) r :=
  Ev.congr (fun n => by rw [h]; rfl) k
theorem ev_some {α : Type} {r : α} : Ev (fun _ => some r) r := Ev.now r
theorem ev_cast {α : Type} {g : Nat → Option α} {r r' : α} (h : Ev g r) (e : r = r') : Ev g r' := e ▸ h
/-- A loop over a list, from a place on: what it comes to is told by a function of what is left and of what is carried. -/
theorem list_loop {α σ ρ : Type} (l : List α) (L : Nat → σ → Int → Option ρ) (F : List α → σ → ρ)
    (done : ∀ s, Ev (fun k => L k s (l.length : Int)) (F [] s))
    (step : ∀ (i : Nat) (s : σ) (x : α) (rest : List α), l.drop i = x :: rest → i < l.length → (∀ s', Ev (fun k => L k s' ((i : Int) + 1)) (F rest s')) → Ev (fun k => L k s (i : Int)) (F (x :: rest) s)) :
    ∀ (i : Nat), i ≤ l.length → ∀ s, Ev (fun k => L k s (i : Int)) (F (l.drop i) s) := by
  intro i hi
  obtain ⟨d, hd⟩ : ∃ d, d = l.length - i := ⟨_, rfl⟩
  induction d generalizing i with
  | zero =>
    intro s
    have e : i = l.length := by omega
    subst e
    rw [List.drop_length]
    exact done s
  | succ d ih =>
    intro s
    have hlt : i < l.length := by omega
    have hc : l.drop i = l[i] :: l.drop (i + 1) := List.drop_eq_getElem_cons hlt
    rw [hc]
    refine step i s _ _ hc hlt (fun s' => ?_)
    have := ih (i + 1) (by omega) (by omega) s'
    simpa using this
theorem w64 {n : Int} (h0 : -9223372036854775808 ≤ n) (h1 : n ≤ 9223372036854775807) : wrap64 n = n := by unfold wrap64; omega
theorem w64_succ {i : Nat} (h : i < 9223372036854775807) : wrap64 ((i : Int) + 1) = (i : Int) + 1 := w64 (by omega) (by omega)
theorem maxLen_eq : maxLen = 9223372036854775807 := rfl
theorem impl_within_eq (a b c : Int) : impl_within.f a b c = some (decide (b ≤ a ∧ a ≤ c)) := by
  unfold impl_within.f; split <;> simp_all <;> omega
theorem spec_l01In_eq (a b c : Int) : spec_l01In.f a b c = some (decide (b ≤ a ∧ a ≤ c)) := by
  unfold spec_l01In.f; split <;> simp_all <;> omega
theorem baLoop (s : ByteArray) (d : Nat) : ∀ (i : Nat) (r : List UInt8), d = s.size - i → ByteArray.toList.loop s i r = r.reverse ++ s.data.toList.drop i := by
  induction d with
  | zero =>
    intro i r h
    rw [ByteArray.toList.loop, if_neg (by omega)]
    rw [List.drop_eq_nil_of_le (by rw [Array.length_toList]; have : s.data.size = s.size := rfl; omega)]; simp
  | succ d ih =>
    intro i r h
    have hi : i < s.size := by omega
    rw [ByteArray.toList.loop, if_pos hi, ih (i + 1) _ (by omega)]
    have hi' : i < s.data.toList.length := by rw [Array.length_toList]; exact hi
    rw [List.drop_eq_getElem_cons hi']
    have e : s.get! i = s.data.toList[i] := by
      have hi2 : i < s.data.size := hi
      show s.data[i]! = _
      rw [getElem!_pos s.data i hi2]; simp
    rw [e]; simp
theorem ba_toList (s : ByteArray) : s.toList = s.data.toList := by
  unfold ByteArray.toList
  rw [baLoop s s.size 0 [] (by omega)]; simp
def bl (s : ByteArray) : List UInt8 := s.data.toList
theorem bl_length (s : ByteArray) : (bl s).length = s.size := by unfold bl; rw [Array.length_toList]; rfl
theorem bt_get {s : ByteArray} {i : Nat} (h : i < (bl s).length) : bt s (i : Int) = (((bl s)[i]).toNat : Int) := by
  have hi : i < s.size := by rw [bl_length] at h; exact h
  unfold bt
  simp only [Int.toNat_natCast]
  rw [dif_pos hi]
  rfl
theorem bt_drop {s : ByteArray} {i : Nat} {x : UInt8} {r : List UInt8} (h : (bl s).drop i = x :: r) : bt s (i : Int) = (x.toNat : Int) := by
  have hi : i < (bl s).length := by
    apply Decidable.byContradiction
    intro hn
    rw [List.drop_eq_nil_of_le (by omega)] at h
    cases h
  rw [bt_get hi]
  rw [List.drop_eq_getElem_cons hi] at h
  injection h with h1 _
  rw [h1]
theorem u8_range (x : UInt8) : 0 ≤ (x.toNat : Int) ∧ (x.toNat : Int) ≤ 255 := by have := x.toNat_lt; omega
/-- A loop over the bytes of a text. -/
theorem bytes_loop {σ ρ : Type} (s : ByteArray) (L : Nat → σ → Int → Option ρ) (F : List UInt8 → σ → ρ)
    (done : ∀ a, Ev (fun k => L k a (s.size : Int)) (F [] a))
    (step : ∀ (i : Nat) (a : σ) (x : UInt8) (rest : List UInt8), (bl s).drop i = x :: rest → i < s.size → (∀ a', Ev (fun k => L k a' ((i : Int) + 1)) (F rest a')) → Ev (fun k => L k a (i : Int)) (F (x :: rest) a)) :
    ∀ a, Ev (fun k => L k a 0) (F (bl s) a) := by
  intro a
  have := list_loop (bl s) L F (fun a => by rw [bl_length]; exact done a) (fun i a x rest hx hi h => step i a x rest hx (by rw [bl_length] at hi; exact hi) h) 0 (by omega) a
  exact this

def digitsOk (l : List UInt8) : Bool := l.all (fun c => decide (48 ≤ (c.toNat : Int) ∧ (c.toNat : Int) ≤ 57))
theorem digitsOk_cons (x : UInt8) (l : List UInt8) : digitsOk (x :: l) = (decide (48 ≤ (x.toNat : Int) ∧ (x.toNat : Int) ≤ 57) && digitsOk l) := by simp [digitsOk]
def menuOk (a : Int) (b : Bool) (n d : Int) (s : ByteArray) : Bool :=
  decide ((1 ≤ a ∧ a ≤ 4) ∧ (0 ≤ n ∧ n ≤ 9999) ∧ (0 ≤ d ∧ d ≤ 9999) ∧ s.size ≤ 4) && (digitsOk (bl s) && (decide (a ≠ 1) || (decide (s.size = 0) && (!b && (decide (n = 0) && decide (d = 0))))))
theorem size_zero_iff (s : ByteArray) : s.toList = ([] : List UInt8) ↔ s.size = 0 := by
  rw [ba_toList, ← bl_length]; unfold bl; exact List.length_eq_zero_iff.symm
theorem spec_MenuOk_ev (a : Int) (b : Bool) (n d : Int) (s : ByteArray) (hs : s.size ≤ 9223372036854775806) : Ev (fun k => spec_MenuOk.f k a b n d s) (menuOk a b n d s) := by
  have hj : ∀ x : Bool, Ev (fun k => spec_MenuOk.j0 k x a b n d s) (!x && (digitsOk (bl s) && (decide (a ≠ 1) || (decide (s.size = 0) && (!b && (decide (n = 0) && decide (d = 0))))))) := by
    intro x
    refine Ev.step (fun q => by rw [spec_MenuOk.j0]) ?_
    cases x with
    | true => exact ev_if_pos rfl ev_some
    | false =>
      refine ev_if_neg (by simp) ?_
      refine ev_cast (bytes_loop s (fun k (_ : Unit) i => spec_MenuOk.l0 k i a b n d s) (fun r _ => digitsOk r && (decide (a ≠ 1) || (decide (s.size = 0) && (!b && (decide (n = 0) && decide (d = 0)))))) (fun _ => ?_) (fun i _ x rest hx hi h => ?_) ()) (by simp)
      · refine Ev.step (fun q => by rw [spec_MenuOk.l0]) ?_
        refine ev_if_neg (by omega) ?_
        by_cases h1 : a = 1
        · refine ev_if_pos h1 ?_
          by_cases h2 : s.toList = ([] : List UInt8)
          · refine ev_if_pos h2 ?_
            rw [size_zero_iff] at h2
            by_cases h3 : b = true
            · refine ev_if_pos h3 (ev_cast ev_some ?_); simp [h3, h1, digitsOk]
            · refine ev_if_neg h3 ?_
              by_cases h4 : n = 0
              · refine ev_if_pos h4 (ev_cast ev_some ?_); simp [h1, h2, h3, h4, digitsOk]; rfl
              · refine ev_if_neg h4 (ev_cast ev_some ?_); simp [h1, h4, digitsOk]
          · refine ev_if_neg h2 (ev_cast ev_some ?_)
            rw [size_zero_iff] at h2
            simp [h1, h2, digitsOk]
        · refine ev_if_neg h1 (ev_cast ev_some ?_); simp [h1, digitsOk]
      · refine Ev.step (fun q => by rw [spec_MenuOk.l0]) ?_
        refine ev_if_pos (by omega) (ev_if_pos (by omega) ?_)
        rw [bt_drop hx, w64_succ (by omega)]
        by_cases h1 : (x.toNat : Int) < 48
        · refine ev_if_pos h1 (ev_cast ev_some ?_)
          rw [digitsOk_cons, decide_eq_false (by omega)]; rfl
        · refine ev_if_neg h1 ?_
          by_cases h2 : (x.toNat : Int) > 57
          · refine ev_if_pos h2 (ev_cast ev_some ?_)
            rw [digitsOk_cons, decide_eq_false (by omega)]; rfl
          · refine ev_if_neg h2 (ev_cast (h ()) ?_)
            have h3 : 48 ≤ (x.toNat : Int) ∧ (x.toNat : Int) ≤ 57 := by omega
            rw [digitsOk_cons, decide_eq_true h3, Bool.true_and]
  unfold spec_MenuOk.f menuOk
  simp only [spec_l01In_eq, Option.bind_some, decide_eq_true_eq]
  by_cases h1 : 1 ≤ a ∧ a ≤ 4
  · refine ev_if_pos h1 ?_
    by_cases h2 : 0 ≤ n ∧ n ≤ 9999
    · refine ev_if_pos h2 ?_
      by_cases h3 : 0 ≤ d ∧ d ≤ 9999
      · refine ev_if_pos h3 (ev_cast (hj _) ?_)
        by_cases h4 : s.size ≤ 4
        · rw [decide_eq_false (p := (s.size : Int) > 4) (by omega)]; simp [h1, h2, h3, h4]
        · rw [decide_eq_true (p := (s.size : Int) > 4) (by omega)]; simp [h4]
      · refine ev_if_neg h3 (ev_cast (hj _) ?_); simp [h3]
    · refine ev_if_neg h2 (ev_cast (hj _) ?_); simp [h2]
  · refine ev_if_neg h1 (ev_cast (hj _) ?_); simp [h1]
theorem impl_MenuOk_ev (a : Int) (b : Bool) (n d : Int) (s : ByteArray) (hs : s.size ≤ 9223372036854775806) : Ev (fun k => impl_MenuOk.f k a b n d s) (menuOk a b n d s) := by
  unfold impl_MenuOk.f
  refine ev_cast (bytes_loop s (fun k (_ : Unit) i => impl_MenuOk.l0 k (s.size : Int) i a b n d s) (fun r _ => digitsOk r && (if a = 1 then decide (s.size = 0) && (!b && (decide (n = 0) && decide (d = 0))) else decide ((2 ≤ a ∧ a ≤ 4) ∧ (0 ≤ n ∧ n ≤ 9999) ∧ (0 ≤ d ∧ d ≤ 9999) ∧ s.size ≤ 4))) (fun _ => ?_) (fun i _ x rest hx hi h => ?_) ()) ?_
  · refine Ev.step (fun q => by rw [impl_MenuOk.l0]) ?_
    refine ev_if_neg (by omega) ?_
    by_cases h1 : a = 1
    · refine ev_if_pos h1 ?_
      simp only [impl_MenuNew.f, Option.bind_some]
      refine ev_cast ev_some ?_
      rw [if_pos h1]
      have e : (s.toList == (⟨#[]⟩ : ByteArray).toList) = decide (s.size = 0) := by
        rw [Bool.eq_iff_iff, beq_iff_eq, decide_eq_true_iff, ← size_zero_iff, ba_toList ⟨#[]⟩]
      rw [e, h1]
      cases b <;> simp [digitsOk, Bool.and_comm, Bool.and_left_comm, Bool.and_assoc] <;> rfl
    · refine ev_if_neg h1 ?_
      simp only [impl_within_eq, Option.bind_some, decide_eq_true_eq, if_neg h1]
      by_cases h2 : 2 ≤ a ∧ a ≤ 4
      · refine ev_if_pos h2 ?_
        by_cases h3 : 0 ≤ n ∧ n ≤ 9999
        · refine ev_if_pos h3 ?_
          by_cases h4 : 0 ≤ d ∧ d ≤ 9999
          · refine ev_if_pos h4 (ev_cast ev_some ?_)
            by_cases h5 : s.size ≤ 4
            · rw [decide_eq_true (p := (s.size : Int) ≤ 4) (by omega)]; simp [h2, h3, h4, h5, digitsOk]
            · rw [decide_eq_false (p := (s.size : Int) ≤ 4) (by omega)]; simp [h5, digitsOk]
          · refine ev_if_neg h4 (ev_cast ev_some ?_); simp [h4, digitsOk]
        · refine ev_if_neg h3 (ev_cast ev_some ?_); simp [h3, digitsOk]
      · refine ev_if_neg h2 (ev_cast ev_some ?_); simp [h2, digitsOk]
  · refine Ev.step (fun q => by rw [impl_MenuOk.l0]) ?_
    refine ev_if_pos (by omega) (ev_if_pos (by omega) (ev_if_pos (by omega) ?_))
    have := u8_range x
    rw [bt_drop hx, w64_succ (by omega), w64 (by omega) (by omega)]
    simp only [impl_within_eq, Option.bind_some, decide_eq_true_eq]
    by_cases h1 : 48 ≤ (x.toNat : Int) ∧ (x.toNat : Int) ≤ 57
    · refine ev_if_pos h1 (ev_cast (h ()) ?_)
      rw [digitsOk_cons, decide_eq_true h1, Bool.true_and]
    · refine ev_if_neg h1 (ev_cast ev_some ?_)
      rw [digitsOk_cons, decide_eq_false h1]; rfl
  · unfold menuOk
    by_cases h1 : a = 1
    · rw [if_pos h1]
      subst h1
      cases b
      · by_cases h2 : s.size = 0
        · by_cases h3 : n = 0
          · by_cases h4 : d = 0
            · simp [h2, h3, h4]
            · simp [h4]
          · simp [h3]
        · simp [h2]
      · simp
    · rw [if_neg h1]
      have e : (2 ≤ a ∧ a ≤ 4) ↔ (1 ≤ a ∧ a ≤ 4) := by omega
      simp only [e]
      rw [Bool.and_comm]
      simp [h1]
theorem szMenu_eq (a : Int) (b : Bool) (c d : Int) (s : ByteArray) (hs : s.size ≤ maxLen) (z : Int) (hz : 0 ≤ z ∧ z ≤ 1048576) : laws_szMenu.f a b c d s z = some (if (s.size : Int) ≤ z then z - (s.size : Int) else -1) := by
  rw [maxLen_eq] at hs
  unfold laws_szMenu.f
  rw [w64 (by omega) (by omega)]
  by_cases h : (s.size : Int) ≤ z
  · rw [if_neg (by omega), if_pos h]
  · rw [if_pos (by omega), if_neg h]

theorem FnExactMenuOk : ∀ (a0_0 : Int) (a0_1 : Bool) (a0_2 : Int) (a0_3 : Int) (a0_4 : ByteArray), (Lit.int .i64 a0_0).wf = true → (Lit.int .i64 a0_2).wf = true → (Lit.int .i64 a0_3).wf = true → a0_4.size ≤ maxLen → ∃ k, laws_FnExactMenuOk.f k a0_0 a0_1 a0_2 a0_3 a0_4 = some true := by
  intro a b n d s _ _ _ hs
  refine Ev.rounds ?_
  unfold laws_FnExactMenuOk.f laws_toMenu.f
  simp only [Option.bind_some]
  have hz : laws_szMenu.f a b n d s 1048576 = some (if (s.size : Int) ≤ 1048576 then 1048576 - (s.size : Int) else -1) := szMenu_eq a b n d s hs 1048576 (by omega)
  refine ev_bind_eq hz ?_
  by_cases h : (s.size : Int) ≤ 1048576
  · rw [if_pos h]
    refine ev_if_neg (by omega) ?_
    refine Ev.bind (spec_MenuOk_ev a b n d s (by omega)) ?_
    refine Ev.bind (impl_MenuOk_ev a b n d s (by omega)) ?_
    exact ev_if_neg (by simp) ev_some
  · rw [if_neg h]
    exact ev_if_pos (by omega) ev_some

end Go.Proofs.Ytieddilnccjabaa.Pure
