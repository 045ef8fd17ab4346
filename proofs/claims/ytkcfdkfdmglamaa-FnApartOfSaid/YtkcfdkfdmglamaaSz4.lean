/- A symbolic executor of the model's code, run by the kernel, and that it is sound; plain lemmas. -/
import Derived.Test.YtkcfdkfdmglamaaSz3
/- Rounds, numbers, loops over lists: what the pure proofs share. -/
set_option linter.unusedVariables false
set_option linter.unusedSimpArgs false
namespace Go.Sx
open Go.RowKit (wrap64)
/-- A contract under another name for what it comes to. -/
theorem CtrOK.nice {P : Program} {f : FuncId} {ak : List AK} {n : Nat} {rk : List OK} {fn : Nat → AKs ak → Option (OKs rk)} {g : AKs ak → Option (OKs rk)} (h : CtrOK P f ⟨ak, n, rk, fn⟩) (hg : ∀ x b, g x = some b → ∃ k, fn k x = some b) : CtrOK P f ⟨ak, n, rk, fun _ => g⟩ := by
  refine ⟨h.1, fun k x b hb => ?_⟩
  obtain ⟨k', hk⟩ := hg x b hb
  exact h.2 k' x b hk
theorem ite_r {α : Sort _} {c : Prop} [Decidable c] {a b r : α} (h1 : c → a = r) (h2 : ¬ c → b = r) : (if c then a else b) = r := by
  by_cases h : c
  · rw [if_pos h]; exact h1 h
  · rw [if_neg h]; exact h2 h
/-! ### rounds -/
/-- From some number of rounds on this is told. -/
def Ev {α : Type} (f : Nat → Option α) (r : α) : Prop := ∃ N, ∀ k, N ≤ k → f k = some r
theorem Ev.now {α : Type} {f : Nat → Option α} {r : α} (h : ∀ k, f k = some r) : Ev f r := ⟨0, fun k _ => h k⟩
theorem Ev.get {α : Type} {f : Nat → Option α} {r : α} (h : Ev f r) : ∃ k, f k = some r := by
  obtain ⟨N, h⟩ := h
  exact ⟨N, h N (Nat.le_refl _)⟩
theorem Ev.step {α : Type} {f g : Nat → Option α} {r : α} (h : ∀ k, f (k + 1) = g k) (hg : Ev g r) : Ev f r := by
  obtain ⟨N, hg⟩ := hg
  refine ⟨N + 1, fun k hk => ?_⟩
  obtain ⟨m, rfl⟩ : ∃ m, k = m + 1 := ⟨k - 1, by omega⟩
  rw [h]
  exact hg m (by omega)
theorem Ev.congr {α : Type} {f g : Nat → Option α} {r : α} (h : ∀ k, f k = g k) (hg : Ev g r) : Ev f r := by
  obtain ⟨N, hg⟩ := hg
  exact ⟨N, fun k hk => (h k).trans (hg k hk)⟩
theorem Ev.cast {α : Type} {f : Nat → Option α} {r r' : α} (h : Ev f r) (e : r = r') : Ev f r' := e ▸ h
theorem ev_pos {α : Type} {c : Prop} [Decidable c] {a b : Nat → Option α} {r : α} (h : c) (k : Ev a r) : Ev (fun n => if c then a n else b n) r :=
  Ev.congr (fun n => if_pos h) k
theorem ev_neg {α : Type} {c : Prop} [Decidable c] {a b : Nat → Option α} {r : α} (h : ¬ c) (k : Ev b r) : Ev (fun n => if c then a n else b n) r :=
  Ev.congr (fun n => if_neg h) k
theorem ev_bind {α β : Type} {g : Option α} {f : Nat → α → Option β} {a : α} {r : β} (h : g = some a) (k : Ev (fun n => f n a) r) : Ev (fun n => g.bind (f n)) r :=
  Ev.congr (fun n => by rw [h]; rfl) k
theorem ev_some {α : Type} {r : α} : Ev (fun _ => some r) r := ⟨0, fun _ _ => rfl⟩
theorem ev_eq {α : Type} {g : Option α} {r : α} (h : g = some r) : Ev (fun _ => g) r := ⟨0, fun _ _ => h⟩
theorem ev_dom {α : Type} {c : Prop} [Decidable c] {a b : Nat → Option α} {r : α} (h1 : c → Ev a r) (h2 : ¬ c → Ev b r) : Ev (fun n => if c then a n else b n) r := by
  by_cases h : c
  · exact ev_pos h (h1 h)
  · exact ev_neg h (h2 h)
/-- What is told from some number of rounds on. -/
noncomputable def evG {α β : Type} (f : Nat → α → Option β) (x : α) : Option β :=
  open Classical in if h : ∃ r, Ev (fun k => f k x) r then some (Classical.choose h) else none
theorem Ev.uniq {α : Type} {f : Nat → Option α} {r r' : α} (h : Ev f r) (h' : Ev f r') : r = r' := by
  obtain ⟨N, h⟩ := h
  obtain ⟨M, h'⟩ := h'
  exact Option.some.inj ((h (max N M) (Nat.le_max_left _ _)).symm.trans (h' (max N M) (Nat.le_max_right _ _)))
theorem evG_eq {α β : Type} {f : Nat → α → Option β} {x : α} {r : β} (h : Ev (fun k => f k x) r) : evG f x = some r := by
  have hx : ∃ r, Ev (fun k => f k x) r := ⟨r, h⟩
  unfold evG
  rw [dif_pos hx]
  congr 1
  exact (Classical.choose_spec hx).uniq h
theorem evG_e {α β : Type} (f : Nat → α → Option β) : ∀ x b, evG f x = some b → ∃ k, f k x = some b := by
  intro x b h
  unfold evG at h
  split at h
  · rename_i hx
    obtain rfl := Option.some.inj h
    exact (Classical.choose_spec hx).get
  · cases h
/-! ### loops -/
/-- A loop over a list, from a place on: what it comes to is told by a function of what is left and of what is carried. -/
theorem list_loop {α σ ρ : Type} (l : List α) (L : Nat → σ → Int → Option ρ) (F : List α → σ → ρ)
    (done : ∀ s, Ev (fun k => L k s (l.length : Int)) (F [] s))
    (step : ∀ (i : Nat) (s : σ) (x : α) (rest : List α), l.drop i = x :: rest → i < l.length → (∀ s', Ev (fun k => L k s' ((i : Int) + 1)) (F rest s')) → Ev (fun k => L k s (i : Int)) (F (x :: rest) s)) :
    ∀ (i : Nat), i ≤ l.length → ∀ s, Ev (fun k => L k s (i : Int)) (F (l.drop i) s) := by
  intro i hi
  obtain ⟨d, hd⟩ : ∃ d, d = l.length - i := ⟨_, rfl⟩
  induction d generalizing i with
  | zero =>
    intro s
    have e : i = l.length := by omega
    subst e
    rw [List.drop_length]
    exact done s
  | succ d ih =>
    intro s
    have hlt : i < l.length := by omega
    have hc : l.drop i = l[i] :: l.drop (i + 1) := List.drop_eq_getElem_cons hlt
    rw [hc]
    refine step i s _ _ hc hlt (fun s' => ?_)
    have := ih (i + 1) (by omega) (by omega) s'
    simpa using this
/-- A loop by a count, with what is true of what is carried. -/
theorem count_loop {σ ρ : Type} (n : Nat) (L : Nat → σ → Int → Option ρ) (I : Nat → σ → Prop) (F : σ → ρ → Prop)
    (done : ∀ s, I n s → ∃ r, Ev (fun k => L k s (n : Int)) r ∧ F s r)
    (step : ∀ (i : Nat) (s : σ), i < n → I i s → ∃ s', I (i + 1) s' ∧ (∀ r, F s' r → F s r) ∧ ∀ r, Ev (fun k => L k s' ((i : Int) + 1)) r → Ev (fun k => L k s (i : Int)) r) :
    ∀ (i : Nat), i ≤ n → ∀ s, I i s → ∃ r, Ev (fun k => L k s (i : Int)) r ∧ F s r := by
  intro i hi
  obtain ⟨d, hd⟩ : ∃ d, d = n - i := ⟨_, rfl⟩
  induction d generalizing i with
  | zero =>
    intro s hs
    have e : i = n := by omega
    subst e
    exact done s hs
  | succ d ih =>
    intro s hs
    obtain ⟨s', h1, h2, h3⟩ := step i s (by omega) hs
    obtain ⟨r, h4, h5⟩ := ih (i + 1) (by omega) (by omega) s' h1
    exact ⟨r, h3 r (by simpa using h4), h2 r h5⟩
/-! ### numbers -/
def I64 (a : Int) : Prop := -9223372036854775808 ≤ a ∧ a ≤ 9223372036854775807
theorem wf64 {a : Int} (h : (Lit.int .i64 a).wf = true) : I64 a := by
  simp only [Lit.wf, IntKind.min, IntKind.max, IntKind.signed, IntKind.bits, Bool.and_eq_true, decide_eq_true_eq] at h
  unfold I64
  simp at h
  omega
theorem wf8 {a : Int} (h : (Lit.int .u8 a).wf = true) : 0 ≤ a ∧ a ≤ 255 := by
  simp only [Lit.wf, IntKind.min, IntKind.max, IntKind.signed, IntKind.bits, Bool.and_eq_true, decide_eq_true_eq] at h
  simp at h
  omega
theorem w64 {n : Int} (h0 : -9223372036854775808 ≤ n) (h1 : n ≤ 9223372036854775807) : wrap64 n = n := by unfold wrap64; omega
theorem w64_succ {i : Nat} (h : i < 9223372036854775807) : wrap64 ((i : Int) + 1) = (i : Int) + 1 := w64 (by omega) (by omega)
theorem w64_range (n : Int) : I64 (wrap64 n) := by unfold wrap64 I64; omega
theorem maxLen_eq : maxLen = 9223372036854775807 := rfl
theorem mx_eq (a b : Int) : mx a b = max a b := by unfold mx; split <;> omega
theorem mn_eq (a b : Int) : mn a b = min a b := by unfold mn; split <;> omega
theorem wr8 (n : Int) : wr .u8 n = n % 256 := rfl
theorem getD_drop {α : Type} {l : List α} {i : Nat} {x z : α} {r : List α} (h : l.drop i = x :: r) : l.getD (i : Int).toNat z = x := by
  have : l[i]? = some x := by
    have h2 : (l.drop i)[0]? = some x := by rw [h]; rfl
    simpa using h2
  simp [List.getD_eq_getElem?_getD, this]
theorem mem_of_drop {α : Type} {l : List α} {i : Nat} {x : α} {r : List α} (h : l.drop i = x :: r) : x ∈ l := by
  have : x ∈ l.drop i := by rw [h]; exact List.mem_cons_self
  exact List.mem_of_mem_drop this
theorem drop_succ_of {α : Type} {l : List α} {i : Nat} {x : α} {r : List α} (h : l.drop i = x :: r) : l.drop (i + 1) = r := by
  rw [← List.drop_drop, h]; rfl
theorem getD_at {α : Type} {l : List α} {i : Nat} {x z : α} (h : l[i]? = some x) : l.getD (i : Int).toNat z = x := by simp [List.getD_eq_getElem?_getD, h]
theorem getD_lt {α : Type} {l : List α} {i : Nat} {z : α} (h : i < l.length) : l.getD (i : Int).toNat z = l[i] := by simp [List.getD_eq_getElem?_getD, h]
/-! ### bytes -/
/-- A text's bytes. -/
def bl (s : ByteArray) : List UInt8 := s.data.toList
theorem bl_len (s : ByteArray) : (bl s).length = s.size := by simp [bl]
theorem byt_lt {s : ByteArray} {i : Nat} (h : i < s.size) : byt s (i : Int) = (((bl s)[i]'(by rw [bl_len]; exact h)).toNat : Int) := by
  unfold byt
  simp [h, bl]
  rfl
theorem byt_drop {s : ByteArray} {i : Nat} {x : UInt8} {r : List UInt8} (h : (bl s).drop i = x :: r) : byt s (i : Int) = (x.toNat : Int) := by
  have hl : i < (bl s).length := by
    rcases Nat.lt_or_ge i (bl s).length with h1 | h1
    · exact h1
    · rw [List.drop_eq_nil_of_le h1] at h; cases h
  rw [byt_lt (by rw [← bl_len]; exact hl)]
  rw [List.drop_eq_getElem_cons hl] at h
  injection h with h _
  rw [h]
/-- A loop over a text's bytes. -/
theorem bytes_loop {σ ρ : Type} (s : ByteArray) (L : Nat → σ → Int → Option ρ) (F : List UInt8 → σ → ρ)
    (done : ∀ z, Ev (fun k => L k z (s.size : Int)) (F [] z))
    (step : ∀ (i : Nat) (z : σ) (x : UInt8) (rest : List UInt8), (bl s).drop i = x :: rest → i < s.size → (∀ z', Ev (fun k => L k z' ((i : Int) + 1)) (F rest z')) → Ev (fun k => L k z (i : Int)) (F (x :: rest) z)) (z : σ) :
    Ev (fun k => L k z 0) (F (bl s) z) := by
  have := list_loop (bl s) L F (by rw [bl_len]; exact done) (fun i z x rest h hi => step i z x rest h (by rw [← bl_len]; exact hi)) 0 (Nat.zero_le _) z
  simpa using this
end Go.Sx
/- The pump, its orders: what the functions come to, told once for both packages. -/
set_option linter.unusedVariables false
set_option linter.unusedSimpArgs false
namespace Go.Sx
open Go.RowKit (wrap64)
theorem eq_dec {b : Bool} {P : Prop} [Decidable P] (h : b = true ↔ P) : some b = some (decide P) := by
  congr 1
  rw [Bool.eq_iff_iff, h, decide_eq_true_iff]
theorem dec_yes {P : Prop} [Decidable P] (h : P) : some true = some (decide P) := by rw [decide_eq_true h]
theorem dec_no {P : Prop} [Decidable P] (h : ¬ P) : some false = some (decide P) := by rw [decide_eq_false h]
def senseOk (a : Int) : Bool := decide (0 ≤ a ∧ a ≤ 15)
/-! ### rates -/
abbrev Rate := Int × Int × Int
def RateOkP (n d r : Int) : Prop := (0 ≤ n ∧ n ≤ 1000000) ∧ (1 ≤ d ∧ d ≤ 1000000) ∧ (0 ≤ r ∧ r ≤ d - 1)
instance (n d r : Int) : Decidable (RateOkP n d r) := by unfold RateOkP; infer_instance
def rateOk (n d r : Int) : Bool := decide (RateOkP n d r)
theorem rateOk_den {n d r : Int} (h : rateOk n d r = true) : (0 ≤ n ∧ n ≤ 1000000) ∧ (1 ≤ d ∧ d ≤ 1000000) ∧ (0 ≤ r ∧ r ≤ d - 1) := of_decide_eq_true h
/-- What a step of a rate leaves as the rest, and how many it gives. -/
def stepRest (n d r : Int) : Int := if rateOk n d r = true then (r + n) % d else r
def stepGives (n d r : Int) : Int := if rateOk n d r = true then (r + n) / d else 0
theorem step_plain {n d r : Int} (h : rateOk n d r = true) : Int.tmod (wrap64 (r + n)) d = (r + n) % d ∧ wrap64 (Int.tdiv (wrap64 (r + n)) d) = (r + n) / d := by
  have h' := rateOk_den h
  rw [w64 (n := r + n) (by omega) (by omega)]
  have e1 : Int.tmod (r + n) d = (r + n) % d := Int.tmod_eq_emod_of_nonneg (by omega)
  have e2 : Int.tdiv (r + n) d = (r + n) / d := Int.tdiv_eq_ediv_of_nonneg (by omega)
  have h0 : 0 ≤ (r + n) / d := Int.ediv_nonneg (by omega) (by omega)
  have h1 : (r + n) / d ≤ r + n := Int.ediv_le_self _ (by omega)
  rw [e1, e2]
  exact ⟨rfl, w64 (by omega) (by omega)⟩
/-! ### the pump -/
abbrev Pump := Int × Int × Int × Int × Int × Int × Int × Int
def PumpOkP (s n d r l b g k : Int) : Prop :=
  (0 ≤ s ∧ s ≤ 3) ∧ RateOkP n d r ∧ n ≤ 3 * d ∧ (0 ≤ k ∧ k ≤ 2) ∧ (k = 0 ∨ s = 3) ∧ (0 ≤ l ∧ l ≤ 5000) ∧ ((s = 1 ∨ (s = 3 ∧ k = 1)) ↔ 0 < l) ∧ (0 ≤ b ∧ b ≤ 100) ∧ (0 ≤ g ∧ g ≤ 1000000000000)
instance (s n d r l b g k : Int) : Decidable (PumpOkP s n d r l b g k) := by unfold PumpOkP; infer_instance
def pumpOk : Pump → Bool
  | (s, n, d, r, l, b, g, k) => decide (PumpOkP s n d r l b g k)
theorem pumpOk_den {s n d r l b g k : Int} (h : pumpOk (s, n, d, r, l, b, g, k) = true) : PumpOkP s n d r l b g k := of_decide_eq_true h
theorem pumpOk_mk {s n d r l b g k : Int} (h : PumpOkP s n d r l b g k) : pumpOk (s, n, d, r, l, b, g, k) = true := decide_eq_true h
/-- Does it run: is it right, and gives it or keeps open? -/
def runs (p : Pump) : Bool := pumpOk p && decide (p.1 = 1 ∨ p.1 = 2)
def wants : Pump → Int
  | (s, n, d, r, l, b, g, k) => if runs (s, n, d, r, l, b, g, k) = true then (if s = 1 then min (stepGives n d r) l else stepGives n d r) + min b 3 else 0
theorem stepGives_range {n d r : Int} (h : rateOk n d r = true) (h3 : n ≤ 3 * d) : 0 ≤ stepGives n d r ∧ stepGives n d r ≤ 3 := by
  have h' := rateOk_den h
  unfold stepGives
  rw [if_pos h]
  constructor
  · exact Int.ediv_nonneg (by omega) (by omega)
  · have : (r + n) / d < 4 := Int.ediv_lt_of_lt_mul (by omega) (by omega)
    omega
theorem runs_den {s n d r l b g k : Int} (h : runs (s, n, d, r, l, b, g, k) = true) : PumpOkP s n d r l b g k ∧ (s = 1 ∨ s = 2) := by
  unfold runs at h
  rw [Bool.and_eq_true] at h
  exact ⟨pumpOk_den h.1, of_decide_eq_true h.2⟩
theorem wants_range (p : Pump) : 0 ≤ wants p ∧ wants p ≤ 6 := by
  obtain ⟨s, n, d, r, l, b, g, k⟩ := p
  simp only [wants]
  split
  · rename_i h
    obtain ⟨⟨_, a2, a3, _, _, a6, _, a8, _⟩, _⟩ := runs_den h
    have := stepGives_range (decide_eq_true a2) a3
    split <;> omega
  · omega
def giveN (p : Pump) (m : Int) : Int := min (max m 0) (wants p)
def giveB (p : Pump) (m : Int) : Int := min (giveN p m) (min p.2.2.2.2.2.1 3)
def give (p : Pump) (m : Int) : Pump :=
  match p with
  | (s, n, d, r, l, b, g, k) =>
    if runs p = true then
      (if s = 1 ∧ l - (giveN p m - giveB p m) = 0 then (2, 1, 50, 0, 0, b - giveB p m, min (g + giveN p m) 1000000000000, k)
       else (s, n, d, stepRest n d r, (if s = 1 then l - (giveN p m - giveB p m) else l), b - giveB p m, min (g + giveN p m) 1000000000000, k))
    else p
/-! ### orders -/
abbrev Order := Int × Int × Int × Int
def OrderOkP (a b c x : Int) : Prop := (a = 1 ∧ (1 ≤ c ∧ c ≤ 1000) ∧ (1 ≤ b ∧ b ≤ 1000 ∧ b ≤ 3 * c) ∧ (1 ≤ x ∧ x ≤ 5000)) ∨ (a = 2 ∧ b = 0 ∧ c = 0 ∧ (1 ≤ x ∧ x ≤ 100)) ∨ ((3 ≤ a ∧ a ≤ 6) ∧ b = 0 ∧ c = 0 ∧ x = 0)
instance (a b c x : Int) : Decidable (OrderOkP a b c x) := by unfold OrderOkP; infer_instance
def orderOk : Order → Bool
  | (a, b, c, x) => decide (OrderOkP a b c x)
theorem orderOk_den {a b c x : Int} (h : orderOk (a, b, c, x) = true) : OrderOkP a b c x := of_decide_eq_true h
def takeR (p : Pump) (o : Order) : Option Pump :=
  match p, o with
  | (s, n, d, r, l, b, g, k), (a, c, e, x) =>
    if a = 1 then (if s = 0 ∨ s = 2 then some (1, c, e, 0, x, b, g, k) else none)
    else if a = 2 then (if (s = 1 ∨ s = 2) ∧ b = 0 then some (s, n, d, r, l, x, g, k) else none)
    else if a = 3 then (if s = 1 ∨ s = 2 then some (3, n, d, r, l, b, g, s) else none)
    else if a = 4 then (if s = 3 then some (k, n, d, r, l, b, g, 0) else none)
    else if a = 6 then some (0, n, d, r, 0, 0, g, 0)
    else none
def take (p : Pump) (o : Order) : Pump × Bool :=
  if pumpOk p = true ∧ orderOk o = true then (match takeR p o with
    | some q => (q, true)
    | none => (p, false)) else (p, false)
/-! ### the guard -/
theorem wrap64_sub (a b : Int) : wrap64 (wrap64 a - b) = wrap64 (a - b) := by unfold wrap64; omega
theorem wrap64_add (a b : Int) : wrap64 (wrap64 a + b) = wrap64 (a + b) := by unfold wrap64; omega
theorem wrap64_sub' (a b : Int) : wrap64 (a - wrap64 b) = wrap64 (a - b) := by unfold wrap64; omega
theorem wrap64_wrap64 (a : Int) : wrap64 (wrap64 a) = wrap64 a := by unfold wrap64; omega
def pastOk (l : List Int) : Bool := l.all (fun x => decide (0 ≤ x ∧ x ≤ 30))
theorem pastOk_cons (x : Int) (l : List Int) : pastOk (x :: l) = (decide (0 ≤ x ∧ x ≤ 30) && pastOk l) := by simp [pastOk]
theorem pastOk_sum {l : List Int} (h : pastOk l = true) : 0 ≤ l.sum ∧ l.sum ≤ 30 * l.length := by
  induction l with
  | nil => simp
  | cons x l ih =>
    rw [pastOk_cons, Bool.and_eq_true, decide_eq_true_iff] at h
    have := ih h.2
    simp only [List.sum_cons, List.length_cons]
    omega
def guardOk (l : List Int) (a : Int) : Bool := decide (l.length ≤ 9) && pastOk l && decide (l.sum ≤ 30) && senseOk a
theorem guardOk_den {l : List Int} {a : Int} (h : guardOk l a = true) : l.length ≤ 9 ∧ pastOk l = true ∧ l.sum ≤ 30 ∧ senseOk a = true := by
  unfold guardOk at h
  simp only [Bool.and_eq_true, decide_eq_true_iff] at h
  exact ⟨h.1.1.1, h.1.1.2, h.1.2, h.2⟩
theorem guardOk_sum {l : List Int} {a : Int} (h : guardOk l a = true) : 0 ≤ l.sum ∧ l.sum ≤ 30 := by
  have h' := guardOk_den h
  have := pastOk_sum h'.2.1
  omega
theorem guardOk_mk {l : List Int} {a : Int} (h1 : l.length ≤ 9) (h2 : pastOk l = true) (h3 : l.sum ≤ 30) (h4 : senseOk a = true) : guardOk l a = true := by
  unfold guardOk
  rw [h2, h4, decide_eq_true h1, decide_eq_true h3]; rfl
def allow (l : List Int) (a m : Int) : Int := if guardOk l a = true ∧ a = 0 then max (min m (30 - l.sum)) 0 else 0
def pass (l : List Int) (a n : Int) : List Int := if guardOk l a = true then (min (max n 0) (30 - l.sum) :: l).take 9 else l
theorem pass_length (l : List Int) (a n : Int) : (pass l a n).length ≤ l.length + 1 := by
  unfold pass; split
  · rw [List.length_take]; simp; omega
  · omega
def feel (l : List Int) (a s : Int) (b : Bool) : Int := if guardOk l a = true ∧ senseOk s = true then (if b = true then s else ior .i64 a s) else a
theorem pastOk_take {l : List Int} (n : Nat) (h : pastOk l = true) : pastOk (l.take n) = true := by
  unfold pastOk at h ⊢
  rw [List.all_eq_true] at h ⊢
  exact fun x hx => h x (List.mem_of_mem_take hx)
theorem sum_nonneg {l : List Int} (h : ∀ x ∈ l, 0 ≤ x) : 0 ≤ l.sum := by
  induction l with
  | nil => simp
  | cons x l ih =>
    have := ih (fun y hy => h y (List.mem_cons_of_mem _ hy))
    have := h x List.mem_cons_self
    simp only [List.sum_cons]; omega
theorem sum_take_le {l : List Int} (n : Nat) (h : ∀ x ∈ l, 0 ≤ x) : (l.take n).sum ≤ l.sum := by
  induction l generalizing n with
  | nil => simp
  | cons x l ih =>
    cases n with
    | zero => simpa using sum_nonneg h
    | succ n =>
      have := ih n (fun y hy => h y (List.mem_cons_of_mem _ hy))
      simp only [List.take_succ_cons, List.sum_cons]; omega
theorem pastOk_nonneg {l : List Int} (h : pastOk l = true) : ∀ x ∈ l, 0 ≤ x := by
  unfold pastOk at h
  rw [List.all_eq_true] at h
  intro x hx
  have := of_decide_eq_true (h x hx)
  omega
theorem guardOk_pass {l : List Int} {a : Int} (n : Int) (h : guardOk l a = true) : guardOk (pass l a n) a = true := by
  have hs := guardOk_sum h
  obtain ⟨h1, h2, h3, h4⟩ := guardOk_den h
  have hc : pastOk (min (max n 0) (30 - l.sum) :: l) = true := by
    rw [pastOk_cons, h2, Bool.and_true, decide_eq_true_iff]; omega
  unfold pass
  rw [if_pos h]
  refine guardOk_mk (by rw [List.length_take]; omega) (pastOk_take 9 hc) ?_ h4
  have := sum_take_le 9 (pastOk_nonneg hc)
  simp only [List.sum_cons] at this
  omega
theorem or15 : ∀ a b : _root_.Fin 16, senseOk (ior .i64 (a.val : Int) (b.val : Int)) = true := by decide +kernel
theorem senseOk_or {a b : Int} (ha : senseOk a = true) (hb : senseOk b = true) : senseOk (ior .i64 a b) = true := by
  unfold senseOk at ha hb
  have ha := of_decide_eq_true ha
  have hb := of_decide_eq_true hb
  have h := or15 ⟨a.toNat, by omega⟩ ⟨b.toNat, by omega⟩
  simp only [Int.toNat_of_nonneg ha.1, Int.toNat_of_nonneg hb.1] at h
  exact h
theorem guardOk_feel {l : List Int} {a : Int} (s : Int) (b : Bool) (h : guardOk l a = true) : guardOk l (feel l a s b) = true := by
  obtain ⟨h1, h2, h3, h4⟩ := guardOk_den h
  refine guardOk_mk h1 h2 h3 ?_
  unfold feel
  split
  · rename_i q
    split
    · exact q.2
    · exact senseOk_or h4 q.2
  · exact h4
theorem or15_zero : ∀ a : _root_.Fin 16, ior .i64 (a.val : Int) 0 = (a.val : Int) := by decide +kernel
theorem or_zero {a : Int} (ha : senseOk a = true) : ior .i64 a 0 = a := by
  unfold senseOk at ha
  have ha := of_decide_eq_true ha
  have h := or15_zero ⟨a.toNat, by omega⟩
  simp only [Int.toNat_of_nonneg ha.1] at h
  exact h
/-! ### lists marked and held -/
def marks (m : Int) (n : Nat) : List Int := (List.range n).map (fun (i : Nat) => m + (i : Int))
theorem marks_length (m : Int) (n : Nat) : (marks m n).length = n := by simp [marks]
theorem marks_get (m : Int) {n i : Nat} (h : i < n) : (marks m n)[i]? = some (m + (i : Int)) := by simp [marks, h]
end Go.Sx
/- Texts; the menu: what the functions come to. -/
set_option linter.unusedVariables false
set_option linter.unusedSimpArgs false
namespace Go.Sx
open Go.RowKit (wrap64)
/-! ### texts -/
theorem ba_ext {s t : ByteArray} (h : bl s = bl t) : s = t := by
  cases s; cases t
  simp [bl] at h
  rw [h]
theorem bl_append (s t : ByteArray) : bl (s ++ t) = bl s ++ bl t := by simp [bl]
theorem bl_bstr (l : List Int) : bl (bstr l) = l.map fun n => UInt8.ofNat n.toNat := rfl
theorem size_bl (s : ByteArray) : s.size = (bl s).length := (bl_len s).symm
theorem size_append (s t : ByteArray) : (s ++ t).size = s.size + t.size := by rw [size_bl, bl_append, List.length_append, ← size_bl, ← size_bl]
theorem size_bstr (l : List Int) : (bstr l).size = l.length := by rw [size_bl, bl_bstr, List.length_map]
theorem bl_empty : bl ⟨#[]⟩ = [] := rfl
theorem size_empty : (⟨#[]⟩ : ByteArray).size = 0 := rfl
theorem eq_empty (s : ByteArray) : s = ⟨#[]⟩ ↔ s.size = 0 := by
  constructor
  · rintro rfl; rfl
  · intro h
    refine ba_ext ?_
    rw [bl_empty]
    rw [size_bl] at h
    exact List.length_eq_zero_iff.1 h
theorem u8_range (x : UInt8) : 0 ≤ (x.toNat : Int) ∧ (x.toNat : Int) ≤ 255 := by
  have := x.toNat_lt
  omega
/-- The byte of a number. -/
def u8 (n : Int) : UInt8 := UInt8.ofNat n.toNat
theorem u8_toNat {n : Int} (h : 0 ≤ n ∧ n ≤ 255) : ((u8 n).toNat : Int) = n := by
  unfold u8
  rw [UInt8.toNat_ofNat']
  omega
/-! ### the menu -/
abbrev Menu := Int × Bool × Int × Int × ByteArray
def digitsOk (l : List UInt8) : Bool := l.all (fun c => decide (48 ≤ (c.toNat : Int) ∧ (c.toNat : Int) ≤ 57))
theorem digitsOk_cons (x : UInt8) (l : List UInt8) : digitsOk (x :: l) = (decide (48 ≤ (x.toNat : Int) ∧ (x.toNat : Int) ≤ 57) && digitsOk l) := by simp [digitsOk]
theorem digitsOk_append (l m : List UInt8) : digitsOk (l ++ m) = (digitsOk l && digitsOk m) := by simp [digitsOk]
def MenuOkP (a : Int) (b : Bool) (n d : Int) (s : ByteArray) : Prop :=
  digitsOk (bl s) = true ∧ (1 ≤ a ∧ a ≤ 4) ∧ (0 ≤ n ∧ n ≤ 9999) ∧ (0 ≤ d ∧ d ≤ 9999) ∧ s.size ≤ 4 ∧ (a = 1 → s.size = 0 ∧ b = false ∧ n = 0 ∧ d = 0)
instance (a : Int) (b : Bool) (n d : Int) (s : ByteArray) : Decidable (MenuOkP a b n d s) := by unfold MenuOkP; infer_instance
def menuOk : Menu → Bool
  | (a, b, n, d, s) => decide (MenuOkP a b n d s)
theorem menuOk_den {a : Int} {b : Bool} {n d : Int} {s : ByteArray} (h : menuOk (a, b, n, d, s) = true) : MenuOkP a b n d s := of_decide_eq_true h
theorem menuOk_mk {a : Int} {b : Bool} {n d : Int} {s : ByteArray} (h : MenuOkP a b n d s) : menuOk (a, b, n, d, s) = true := decide_eq_true h
def numF : List UInt8 → Int → Int
  | [], z => z
  | x :: l, z => numF l (wrap64 ((wrap64 (10 * z)) + (((x.toNat : Int) - 48) % 256)))
def num (s : ByteArray) : Int := numF (bl s) 0
def menuNew : Menu := (1, false, 0, 0, ⟨#[]⟩)
def sent (k n d x : Int) : Menu × Order × Bool := if orderOk (k, n, d, x) = true then (menuNew, (k, n, d, x), true) else (menuNew, (0, 0, 0, 0), false)
def press : Menu → Int → Menu × Order × Bool
  | (a, b, n, d, s), c =>
    if menuOk (a, b, n, d, s) = true then
      (if a = 1 then
        (if c = 98 then ((2, false, 0, 0, ⟨#[]⟩), (0, 0, 0, 0), false)
        else if c = 111 then ((4, true, 0, 0, ⟨#[]⟩), (0, 0, 0, 0), false)
        else if c = 112 then ((a, b, n, d, s), (3, 0, 0, 0), true)
        else if c = 103 then ((a, b, n, d, s), (4, 0, 0, 0), true)
        else if c = 115 then ((a, b, n, d, s), (5, 0, 0, 0), true)
        else if c = 120 then ((a, b, n, d, s), (6, 0, 0, 0), true)
        else ((a, b, n, d, s), (0, 0, 0, 0), false))
      else if c = 10 then
        (if a = 2 then ((3, b, num s, d, ⟨#[]⟩), (0, 0, 0, 0), false)
        else if a = 3 then ((4, b, n, num s, ⟨#[]⟩), (0, 0, 0, 0), false)
        else if b = true then sent 2 0 0 (num s)
        else sent 1 n d (num s))
      else if c = 99 then (menuNew, (0, 0, 0, 0), false)
      else if (48 ≤ c ∧ c ≤ 57) ∧ s.size < 4 then ((a, b, n, d, s ++ bstr [c % 256]), (0, 0, 0, 0), false)
      else ((a, b, n, d, s), (0, 0, 0, 0), false))
    else ((a, b, n, d, s), (0, 0, 0, 0), false)
def pressL : List UInt8 → Menu → List Order → Menu × List Order
  | [], m, os => (m, os)
  | x :: r, m, os => pressL r (press m (x.toNat : Int)).1 (if (press m (x.toNat : Int)).2.2 = true then os ++ [(press m (x.toNat : Int)).2.1] else os)
def pressAll (m : Menu) (s : ByteArray) : Menu × List Order := pressL (bl s) m []
theorem pressL_len : ∀ (l : List UInt8) (m : Menu) (os : List Order), (pressL l m os).2.length ≤ os.length + l.length
  | [], m, os => by simp [pressL]
  | x :: r, m, os => by
    have := pressL_len r (press m (x.toNat : Int)).1 (if (press m (x.toNat : Int)).2.2 = true then os ++ [(press m (x.toNat : Int)).2.1] else os)
    unfold pressL
    split at this
    · rename_i h
      rw [if_pos h]
      simp only [List.length_append, List.length_cons, List.length_nil] at this ⊢
      omega
    · rename_i h
      rw [if_neg h]
      simp only [List.length_cons] at this ⊢
      omega
theorem pressAll_len (m : Menu) (s : ByteArray) : (pressAll m s).2.length ≤ s.size := by
  have := pressL_len (bl s) m []
  rw [bl_len] at this
  simpa [pressAll] using this
theorem pressL_acc : ∀ (l : List UInt8) (m : Menu) (os : List Order), pressL l m os = ((pressL l m []).1, os ++ (pressL l m []).2)
  | [], m, os => by simp [pressL]
  | x :: r, m, os => by
    unfold pressL
    by_cases h : (press m (x.toNat : Int)).2.2 = true
    · rw [if_pos h, if_pos h, pressL_acc r _ (os ++ [(press m (x.toNat : Int)).2.1]), pressL_acc r _ ([] ++ [(press m (x.toNat : Int)).2.1])]
      simp
    · rw [if_neg h, if_neg h, pressL_acc r _ os]
theorem pressL_app (l l' : List UInt8) : ∀ (m : Menu) (os : List Order), pressL (l ++ l') m os = pressL l' (pressL l m os).1 (pressL l m os).2 := by
  induction l with
  | nil => intro m os; rfl
  | cons x r ih => intro m os; exact ih _ _
theorem ba_lit_size : (⟨#[]⟩ : ByteArray).size = 0 := rfl
theorem numF_range : ∀ (l : List UInt8) (z : Int), digitsOk l = true → 0 ≤ z → z < 10 ^ 10 → l.length ≤ 4 → 0 ≤ numF l z ∧ numF l z < (z + 1) * 10 ^ l.length
  | [], z, _, h0, _, _ => by simp [numF]; omega
  | x :: l, z, h, h0, h1, hl => by
    rw [digitsOk_cons, Bool.and_eq_true, decide_eq_true_iff] at h
    have hl' : l.length ≤ 3 := by simpa using hl
    have e : wrap64 ((wrap64 (10 * z)) + (((x.toNat : Int) - 48) % 256)) = 10 * z + ((x.toNat : Int) - 48) := by
      rw [w64 (n := 10 * z) (by omega) (by omega)]
      have : ((x.toNat : Int) - 48) % 256 = (x.toNat : Int) - 48 := by omega
      rw [this]
      exact w64 (by omega) (by omega)
    unfold numF
    rw [e]
    have hp : (10 : Int) ^ (x :: l).length = 10 * 10 ^ l.length := by
      rw [List.length_cons, Int.pow_succ]; omega
    rw [hp]
    have h4 : l.length = 0 ∨ l.length = 1 ∨ l.length = 2 ∨ l.length = 3 := by omega
    -- the numbers stay small: digits one by one
    cases l with
    | nil => simp [numF]; omega
    | cons y l =>
      rw [digitsOk_cons, Bool.and_eq_true, decide_eq_true_iff] at h
      have e2 : wrap64 ((wrap64 (10 * (10 * z + ((x.toNat : Int) - 48)))) + (((y.toNat : Int) - 48) % 256)) = 10 * (10 * z + ((x.toNat : Int) - 48)) + ((y.toNat : Int) - 48) := by
        rw [w64 (n := 10 * (10 * z + ((x.toNat : Int) - 48))) (by omega) (by omega)]
        have : ((y.toNat : Int) - 48) % 256 = (y.toNat : Int) - 48 := by omega
        rw [this]
        exact w64 (by omega) (by omega)
      unfold numF
      rw [e2]
      cases l with
      | nil => simp [numF]; omega
      | cons v l =>
        rw [digitsOk_cons, Bool.and_eq_true, decide_eq_true_iff] at h
        have e3 : wrap64 ((wrap64 (10 * (10 * (10 * z + ((x.toNat : Int) - 48)) + ((y.toNat : Int) - 48)))) + (((v.toNat : Int) - 48) % 256)) = 10 * (10 * (10 * z + ((x.toNat : Int) - 48)) + ((y.toNat : Int) - 48)) + ((v.toNat : Int) - 48) := by
          rw [w64 (n := 10 * (10 * (10 * z + ((x.toNat : Int) - 48)) + ((y.toNat : Int) - 48))) (by omega) (by omega)]
          have : ((v.toNat : Int) - 48) % 256 = (v.toNat : Int) - 48 := by omega
          rw [this]
          exact w64 (by omega) (by omega)
        unfold numF
        rw [e3]
        cases l with
        | nil => simp [numF]; omega
        | cons t l =>
          rw [digitsOk_cons, Bool.and_eq_true, decide_eq_true_iff] at h
          have e4 : wrap64 ((wrap64 (10 * (10 * (10 * (10 * z + ((x.toNat : Int) - 48)) + ((y.toNat : Int) - 48)) + ((v.toNat : Int) - 48)))) + (((t.toNat : Int) - 48) % 256)) = 10 * (10 * (10 * (10 * z + ((x.toNat : Int) - 48)) + ((y.toNat : Int) - 48)) + ((v.toNat : Int) - 48)) + ((t.toNat : Int) - 48) := by
            rw [w64 (n := 10 * (10 * (10 * (10 * z + ((x.toNat : Int) - 48)) + ((y.toNat : Int) - 48)) + ((v.toNat : Int) - 48))) (by omega) (by omega)]
            have : ((t.toNat : Int) - 48) % 256 = (t.toNat : Int) - 48 := by omega
            rw [this]
            exact w64 (by omega) (by omega)
          unfold numF
          rw [e4]
          cases l with
          | nil => simp [numF]; omega
          | cons _ _ => simp at hl'
theorem num_range {s : ByteArray} (h : digitsOk (bl s) = true) (h4 : s.size ≤ 4) : 0 ≤ num s ∧ num s ≤ 9999 := by
  have h4' : (bl s).length ≤ 4 := by rw [bl_len]; exact h4
  have := numF_range (bl s) 0 h (by omega) (by omega) h4'
  unfold num
  generalize (bl s).length = n at *
  have hn : n = 0 ∨ n = 1 ∨ n = 2 ∨ n = 3 ∨ n = 4 := by omega
  rcases hn with rfl | rfl | rfl | rfl | rfl <;> simp at this <;> omega
theorem menuNew_ok : menuOk menuNew = true := menuOk_mk ⟨rfl, by omega, by omega, by omega, Nat.zero_le _, fun _ => ⟨rfl, rfl, rfl, rfl⟩⟩
theorem sent_ok (k n d x : Int) : menuOk (sent k n d x).1 = true ∧ ((sent k n d x).2.2 = true → orderOk (sent k n d x).2.1 = true) := by
  unfold sent
  split
  · rename_i h; exact ⟨menuNew_ok, fun _ => h⟩
  · exact ⟨menuNew_ok, fun h => by cases h⟩
/-- A right menu stays right, whatever key; the orders that it makes are right. -/
theorem press_ok {m : Menu} (h : menuOk m = true) (c : Int) : menuOk (press m c).1 = true ∧ ((press m c).2.2 = true → orderOk (press m c).2.1 = true) := by
  obtain ⟨a, b, n, d, s⟩ := m
  obtain ⟨h1, h2, h3, h4, h5, h6⟩ := menuOk_den h
  have hn := num_range h1 h5
  have no : ∀ m' : Menu, menuOk m' = true → menuOk ((m', ((0, 0, 0, 0) : Order), false) : Menu × Order × Bool).1 = true ∧ (((m', ((0, 0, 0, 0) : Order), false) : Menu × Order × Bool).2.2 = true → orderOk ((m', ((0, 0, 0, 0) : Order), false) : Menu × Order × Bool).2.1 = true) := fun m' hm => ⟨hm, fun q => by cases q⟩
  have yes : ∀ k : Int, 3 ≤ k → k ≤ 6 → menuOk (((a, b, n, d, s), ((k, 0, 0, 0) : Order), true) : Menu × Order × Bool).1 = true ∧ ((((a, b, n, d, s), ((k, 0, 0, 0) : Order), true) : Menu × Order × Bool).2.2 = true → orderOk (((a, b, n, d, s), ((k, 0, 0, 0) : Order), true) : Menu × Order × Bool).2.1 = true) :=
    fun k h3 h6 => ⟨h, fun _ => decide_eq_true (by unfold OrderOkP; omega)⟩
  simp only [press, h, if_true]
  split
  · split
    · exact no _ (menuOk_mk ⟨rfl, by omega, by omega, by omega, Nat.zero_le _, fun q => by omega⟩)
    · split
      · exact no _ (menuOk_mk ⟨rfl, by omega, by omega, by omega, Nat.zero_le _, fun q => by omega⟩)
      · split
        · exact yes 3 (by omega) (by omega)
        · split
          · exact yes 4 (by omega) (by omega)
          · split
            · exact yes 5 (by omega) (by omega)
            · split
              · exact yes 6 (by omega) (by omega)
              · exact no _ h
  · split
    · split
      · exact no _ (menuOk_mk ⟨rfl, by omega, by omega, by omega, Nat.zero_le _, fun q => by omega⟩)
      · split
        · exact no _ (menuOk_mk ⟨rfl, by omega, by omega, by omega, Nat.zero_le _, fun q => by omega⟩)
        · split
          · exact sent_ok _ _ _ _
          · exact sent_ok _ _ _ _
    · split
      · exact no _ menuNew_ok
      · split
        · rename_i hd
          refine no _ (menuOk_mk ⟨?_, h2, h3, h4, ?_, fun q => absurd q (by assumption)⟩)
          · rw [bl_append, digitsOk_append, h1, bl_bstr]
            have : (c % 256) = c := by omega
            rw [this]
            show (true && (decide (48 ≤ ((u8 c).toNat : Int) ∧ ((u8 c).toNat : Int) ≤ 57) && true)) = true
            rw [u8_toNat (by omega), decide_eq_true hd.1]; rfl
          · rw [size_append, size_bstr, List.length_singleton]; omega
        · exact no _ h
theorem pressL_ok : ∀ (l : List UInt8) (m : Menu) (os : List Order), menuOk m = true → (∀ o ∈ os, orderOk o = true) → menuOk (pressL l m os).1 = true ∧ ∀ o ∈ (pressL l m os).2, orderOk o = true
  | [], m, os, h, ho => ⟨h, ho⟩
  | x :: r, m, os, h, ho => by
    have hp := press_ok h (x.toNat : Int)
    unfold pressL
    refine pressL_ok r _ _ hp.1 ?_
    split
    · rename_i hq
      intro o hm
      rcases List.mem_append.1 hm with hm | hm
      · exact ho o hm
      · rw [List.mem_singleton.1 hm]; exact hp.2 hq
    · exact ho
theorem pressAll_ok {m : Menu} (h : menuOk m = true) (s : ByteArray) : menuOk (pressAll m s).1 = true ∧ ∀ o ∈ (pressAll m s).2, orderOk o = true :=
  pressL_ok (bl s) m [] h (fun _ h => by cases h)
theorem bl_extract (s : ByteArray) (i j : Nat) : bl (s.extract i j) = ((bl s).take j).drop i := by
  simp [bl, List.extract_eq_take_drop, List.drop_take]
theorem pressAll_split (m : Menu) (s : ByteArray) (i : Nat) : pressAll m s = ((pressAll (pressAll m (s.extract 0 i)).1 (s.extract i s.size)).1, (pressAll m (s.extract 0 i)).2 ++ (pressAll (pressAll m (s.extract 0 i)).1 (s.extract i s.size)).2) := by
  have e1 : bl (s.extract 0 i) = (bl s).take i := by rw [bl_extract, List.drop_zero]
  have e2 : bl (s.extract i s.size) = (bl s).drop i := by rw [bl_extract, ← bl_len, List.take_length]
  unfold pressAll
  rw [e1, e2]
  have h := pressL_app ((bl s).take i) ((bl s).drop i) m []
  rw [List.take_append_drop] at h
  rw [h]
  exact pressL_acc _ _ _
theorem press_digits (m : Menu) (c : Int) (hs : m.2.2.2.2.size ≤ 1048580) : (press m c).1.2.2.2.2.size ≤ 1048580 := by
  obtain ⟨a, b, n, d, s⟩ := m
  unfold press sent menuNew
  simp only []
  repeat' split
  all_goals first
    | exact hs
    | exact Nat.zero_le _
    | (simp only [size_append, size_bstr, List.length_singleton]; omega)
end Go.Sx
/- The pump keeps right; what it gives. -/
set_option linter.unusedVariables false
set_option linter.unusedSimpArgs false
namespace Go.Sx
open Go.RowKit (wrap64)
theorem take_ok {p : Pump} (o : Order) (h : pumpOk p = true) : pumpOk (take p o).1 = true := by
  obtain ⟨s, n, d, r, l, b, g, k⟩ := p
  obtain ⟨a, c, e, x⟩ := o
  have hp := pumpOk_den h
  unfold take
  split
  · rename_i hq
    have ho := orderOk_den hq.2
    cases ht : takeR (s, n, d, r, l, b, g, k) (a, c, e, x) with
    | none => exact h
    | some q =>
      show pumpOk q = true
      simp only [takeR] at ht
      unfold PumpOkP RateOkP at hp
      unfold OrderOkP at ho
      split at ht
      · split at ht
        · obtain rfl := Option.some.inj ht
          exact pumpOk_mk (by unfold PumpOkP RateOkP; omega)
        · cases ht
      · split at ht
        · split at ht
          · obtain rfl := Option.some.inj ht
            exact pumpOk_mk (by unfold PumpOkP RateOkP; omega)
          · cases ht
        · split at ht
          · split at ht
            · obtain rfl := Option.some.inj ht
              exact pumpOk_mk (by unfold PumpOkP RateOkP; omega)
            · cases ht
          · split at ht
            · split at ht
              · obtain rfl := Option.some.inj ht
                exact pumpOk_mk (by unfold PumpOkP RateOkP; omega)
              · cases ht
            · split at ht
              · obtain rfl := Option.some.inj ht
                exact pumpOk_mk (by unfold PumpOkP RateOkP; omega)
              · cases ht
  · exact h
theorem take_no {p : Pump} {o : Order} (h : (take p o).2 = false) : (take p o).1 = p := by
  unfold take at h ⊢
  split
  · rename_i hq
    rw [if_pos hq] at h
    cases ht : takeR p o with
    | none => rfl
    | some q => rw [ht] at h; cases h
  · rfl
theorem stepRest_range {n d r : Int} (h : rateOk n d r = true) : 0 ≤ stepRest n d r ∧ stepRest n d r ≤ d - 1 := by
  have h' := rateOk_den h
  unfold stepRest
  rw [if_pos h]
  have h1 := Int.emod_nonneg (r + n) (show d ≠ 0 by omega)
  have h2 := Int.emod_lt_of_pos (r + n) (show 0 < d by omega)
  omega
/-- What is wanted of a pump that runs. -/
theorem wants_runs {s n d r l b g k : Int} (h : runs (s, n, d, r, l, b, g, k) = true) : wants (s, n, d, r, l, b, g, k) = (if s = 1 then min (stepGives n d r) l else stepGives n d r) + min b 3 := by
  simp only [wants, h, if_true]
theorem give_ok {p : Pump} (m : Int) (h : pumpOk p = true) : pumpOk (give p m) = true := by
  obtain ⟨s, n, d, r, l, b, g, k⟩ := p
  by_cases hr : runs (s, n, d, r, l, b, g, k) = true
  · obtain ⟨hp, hs⟩ := runs_den hr
    have hrate : rateOk n d r = true := decide_eq_true hp.2.1
    have hg := stepGives_range hrate hp.2.2.1
    have hq := stepRest_range hrate
    have hw := wants_runs hr
    unfold PumpOkP RateOkP at hp
    simp only [give, hr, if_true, giveB, giveN, hw]
    generalize stepGives n d r = G at *
    generalize stepRest n d r = R at *
    by_cases h1 : s = 1
    · simp only [h1, if_true, true_and] at hw ⊢
      generalize hN : min (max m 0) (min G l + min b 3) = N
      generalize hB : min N (min b 3) = B
      split
      · exact pumpOk_mk (by unfold PumpOkP RateOkP; omega)
      · exact pumpOk_mk (by unfold PumpOkP RateOkP; omega)
    · have h2 : s = 2 := by omega
      simp only [h1, if_false, false_and] at hw ⊢
      generalize hN : min (max m 0) (G + min b 3) = N
      generalize hB : min N (min b 3) = B
      exact pumpOk_mk (by unfold PumpOkP RateOkP; omega)
  · simp only [give, hr, if_false, Bool.false_eq_true]
    exact h
theorem give_given (p : Pump) (m : Int) (h : pumpOk p = true) : (give p m).2.2.2.2.2.2.1 = (if runs p = true then min (p.2.2.2.2.2.2.1 + giveN p m) 1000000000000 else p.2.2.2.2.2.2.1) := by
  obtain ⟨s, n, d, r, l, b, g, k⟩ := p
  by_cases hr : runs (s, n, d, r, l, b, g, k) = true
  · simp only [give, hr, if_true]
    split <;> rfl
  · simp only [give, hr, if_false, Bool.false_eq_true]
theorem giveN_range (p : Pump) (m : Int) : 0 ≤ giveN p m ∧ giveN p m ≤ wants p := by
  have := wants_range p
  unfold giveN; omega
theorem give_more (p : Pump) : give p (wants p) = give p (wants p + 5) := by
  have := wants_range p
  have e : giveN p (wants p) = giveN p (wants p + 5) := by unfold giveN; omega
  have e2 : giveB p (wants p) = giveB p (wants p + 5) := by unfold giveB; rw [e]
  obtain ⟨s, n, d, r, l, b, g, k⟩ := p
  simp only [give]
  rw [e, e2]
theorem pumpNew_ok : pumpOk (0, 0, 1, 0, 0, 0, 0, 0) = true := pumpOk_mk (by unfold PumpOkP RateOkP; omega)
end Go.Sx
/- The device: what the functions come to. -/
set_option linter.unusedVariables false
set_option linter.unusedSimpArgs false
namespace Go.Sx
open Go.RowKit (wrap64)
/-- A loop that fills a new list, place by place. -/
theorem map_loop {α : Type} (z : α) (l : List α) (L : Nat → List α → Int → Option (List α)) (done : ∀ out, Ev (fun k => L k out (l.length : Int)) out)
    (step : ∀ (i : Nat) (x : α) (out : List α) (r : List α), l[i]? = some x → i < l.length → out.length = l.length → Ev (fun k => L k (out.set i x) ((i : Int) + 1)) r → Ev (fun k => L k out (i : Int)) r) :
    Ev (fun k => L k (List.replicate l.length z) 0) l := by
  have key : ∀ (suf pre : List α), l = pre ++ suf → Ev (fun k => L k (pre ++ List.replicate suf.length z) (pre.length : Int)) l := by
    intro suf
    induction suf with
    | nil =>
      intro pre h
      have := done pre
      simp only [List.append_nil] at h
      subst h
      simpa using this
    | cons x suf ih =>
      intro pre h
      have h1 := ih (pre ++ [x]) (by rw [h]; simp)
      have hlen : l.length = pre.length + (suf.length + 1) := by rw [h]; simp
      refine step pre.length x _ _ (by rw [h]; simp) (by omega) (by simp [hlen]) ?_
      have e : (pre ++ List.replicate (x :: suf).length z).set pre.length x = (pre ++ [x]) ++ List.replicate suf.length z := by
        rw [List.set_append_right _ _ (by simp)]
        simp [List.replicate_succ]
      rw [e]
      simpa using h1
  simpa using key l [] rfl
abbrev Tick := Int × Int × Int
abbrev In := Int × ByteArray × ByteArray
abbrev Device := Int × Int × Int × Int × Int × Int × Int × Int × List Int × Int × Int × Bool × Int × Int × ByteArray × (List (Int × (Int × Int))) × Int
def Device.pump (d : Device) : Pump := match d with
  | (s, n, e, r, l, b, g, k, _) => (s, n, e, r, l, b, g, k)
def Device.past (d : Device) : List Int := d.2.2.2.2.2.2.2.2.1
def Device.alarm (d : Device) : Int := d.2.2.2.2.2.2.2.2.2.1
def Device.menu (d : Device) : Menu := match d with
  | (_, _, _, _, _, _, _, _, _, _, a, b, n, e, s, _) => (a, b, n, e, s)
def Device.ticks (d : Device) : List Tick := d.2.2.2.2.2.2.2.2.2.2.2.2.2.2.2.1
def Device.refused (d : Device) : Int := d.2.2.2.2.2.2.2.2.2.2.2.2.2.2.2.2
/-- A device, put together. -/
def dev (p : Pump) (past : List Int) (alarm : Int) (m : Menu) (ts : List Tick) (ref : Int) : Device :=
  (p.1, p.2.1, p.2.2.1, p.2.2.2.1, p.2.2.2.2.1, p.2.2.2.2.2.1, p.2.2.2.2.2.2.1, p.2.2.2.2.2.2.2, past, alarm, m.1, m.2.1, m.2.2.1, m.2.2.2.1, m.2.2.2.2, ts, ref)
def deviceOk (p : Pump) (past : List Int) (alarm : Int) (m : Menu) (ts : List Tick) (ref : Int) : Bool :=
  pumpOk p && (guardOk past alarm && (menuOk m && (decide (ts.length ≤ 200) && decide (0 ≤ ref ∧ ref ≤ 1000000000))))
theorem dev_eta (d : Device) : ∃ p past alarm m ts ref, d = dev p past alarm m ts ref := by
  obtain ⟨s, n, e, r, l, b, g, k, past, alarm, a, bo, nu, de, di, ts, ref⟩ := d
  exact ⟨(s, n, e, r, l, b, g, k), past, alarm, (a, bo, nu, de, di), ts, ref, rfl⟩
/-- What a device holds is not too long. -/
def Short (d : Device) : Prop := d.2.2.2.2.2.2.2.2.1.length ≤ 1048576 ∧ d.2.2.2.2.2.2.2.2.2.2.2.2.2.2.1.size ≤ 1048576 ∧ d.2.2.2.2.2.2.2.2.2.2.2.2.2.2.2.1.length ≤ 1048576
theorem deviceOk_den {p : Pump} {past : List Int} {alarm : Int} {m : Menu} {ts : List Tick} {ref : Int} (h : deviceOk p past alarm m ts ref = true) : pumpOk p = true ∧ guardOk past alarm = true ∧ menuOk m = true ∧ ts.length ≤ 200 ∧ 0 ≤ ref ∧ ref ≤ 1000000000 := by
  unfold deviceOk at h
  simp only [Bool.and_eq_true, decide_eq_true_eq] at h
  exact ⟨h.1, h.2.1, h.2.2.1, h.2.2.2.1, h.2.2.2.2⟩
theorem deviceOk_mk {p : Pump} {past : List Int} {alarm : Int} {m : Menu} {ts : List Tick} {ref : Int} (h1 : pumpOk p = true) (h2 : guardOk past alarm = true) (h3 : menuOk m = true) (h4 : ts.length ≤ 200) (h5 : 0 ≤ ref ∧ ref ≤ 1000000000) : deviceOk p past alarm m ts ref = true := by
  unfold deviceOk
  rw [h1, h2, h3, decide_eq_true h4, decide_eq_true h5]; rfl
theorem menu_size {m : Menu} (h : menuOk m = true) : m.2.2.2.2.size ≤ 4 := by
  obtain ⟨a, b, n, d, s⟩ := m
  exact (menuOk_den h).2.2.2.2.1
/-! ### ticks -/
def bnd (n : Int) : Int := min (max n (-1000000000000)) 1000000000000
def addSat (a b : Int) : Int := bnd (bnd a + bnd b)
theorem bnd_range (n : Int) : -1000000000000 ≤ bnd n ∧ bnd n ≤ 1000000000000 := by unfold bnd; omega
theorem bnd_id {n : Int} (h : -1000000000000 ≤ n ∧ n ≤ 1000000000000) : bnd n = n := by unfold bnd; omega
theorem w64_bnd (a b : Int) : wrap64 (bnd a + bnd b) = bnd a + bnd b := by
  have := bnd_range a; have := bnd_range b
  exact w64 (by omega) (by omega)
def totalF : List Tick → Int → Int
  | [], s => s
  | t :: r, s => totalF r (addSat s t.1)
def stops (l : List Tick) : Bool := l.all fun t => decide (t.2.1 = 0 ∨ t.1 = 0)
theorem stops_cons (t : Tick) (l : List Tick) : stops (t :: l) = (decide (t.2.1 = 0 ∨ t.1 = 0) && stops l) := by simp [stops]
def winF : List Tick → Int → Bool
  | [], _ => true
  | t :: r, s => if 30 < addSat s t.1 then false else winF r (addSat s t.1)
def limF : List Tick → Bool
  | [] => true
  | t :: r => winF ((t :: r).take 10) 0 && limF r
def sound (p : Pump) (past : List Int) (alarm : Int) (m : Menu) (ts : List Tick) (ref : Int) : Bool :=
  deviceOk p past alarm m ts ref && (limF ts && (stops ts && decide (p.2.2.2.2.2.2.1 = totalF ts 0)))
end Go.Sx
/- Sums, seals and numbers in texts. -/
set_option linter.unusedVariables false
set_option linter.unusedSimpArgs false
namespace Go.Sx
open Go.RowKit (wrap64)
/-! ### sums -/
def rnd (b : Int) : Int := if Int.tmod b 2 = 1 then ixor .u32 (wr .u32 (Int.tdiv b 2)) 3558460437 else wr .u32 (Int.tdiv b 2)
def rnds : Nat → Int → Int
  | 0, b => b
  | n + 1, b => rnds n (rnd b)
def sumF : List UInt8 → Int → Int
  | [], b => b
  | x :: r, b => sumF r (rnds 8 (ixor .u32 b (wr .u32 x.toNat)))
def U32 (a : Int) : Prop := 0 ≤ a ∧ a < 4294967296
theorem u32_wr (n : Int) : U32 (wr .u32 n) := by
  have e : wr .u32 n = n % 4294967296 := rfl
  rw [e]; unfold U32; omega
theorem u32_xor (a b : Int) : U32 (ixor .u32 a b) := by
  have e : ixor .u32 a b = IntKind.u32.wrap (((BitVec.ofInt 32 a ^^^ BitVec.ofInt 32 b).toNat : Nat) : Int) := rfl
  rw [e]
  have h : (BitVec.ofInt 32 a ^^^ BitVec.ofInt 32 b).toNat < 2 ^ 32 := BitVec.isLt _
  generalize (BitVec.ofInt 32 a ^^^ BitVec.ofInt 32 b).toNat = n at h
  have e2 : IntKind.u32.wrap ((n : Nat) : Int) = (n : Int) := by
    simp [IntKind.wrap, IntKind.signed, IntKind.bits]
    omega
  rw [e2]; unfold U32; omega
theorem u32_rnd (b : Int) : U32 (rnd b) := by
  unfold rnd; split
  · exact u32_xor _ _
  · exact u32_wr _
theorem u32_rnds : ∀ (n : Nat) (b : Int), U32 b → U32 (rnds n b)
  | 0, _, h => h
  | n + 1, b, _ => u32_rnds n _ (u32_rnd b)
theorem u32_sumF : ∀ (l : List UInt8) (b : Int), U32 b → U32 (sumF l b)
  | [], _, h => h
  | x :: r, b, _ => u32_sumF r _ (u32_rnds 8 _ (u32_xor _ _))
def sumOf (s : ByteArray) : Int := sumF (bl s) 4294967295
theorem u32_sumOf (s : ByteArray) : U32 (sumOf s) := u32_sumF _ _ (by unfold U32; omega)
/-- The four bytes of a sum. -/
def four (v : Int) : ByteArray := bstr [wr .u8 (v / 16777216), wr .u8 (v / 65536), wr .u8 (v / 256), wr .u8 v]
theorem four_size (v : Int) : (four v).size = 4 := by unfold four; rw [size_bstr]; rfl
theorem shr_u32 {v : Int} (n : Nat) (hn : n ≤ 32) : Int.fdiv v (2 ^ (min (Int.toNat n) (IntKind.bits .u32))) = v / 2 ^ n := by
  have : min (Int.toNat n) (IntKind.bits .u32) = n := by
    have : IntKind.bits .u32 = 32 := rfl
    rw [this]; omega
  rw [this, Int.fdiv_eq_ediv_of_nonneg]
  exact Int.le_of_lt (Int.pow_pos (by omega))
theorem and255_eq {x : Int} (h : 0 ≤ x) : iand .i64 x 255 = x % 256 := by
  have e : iand .i64 x 255 = IntKind.i64.wrap (((BitVec.ofInt 64 x &&& BitVec.ofInt 64 255).toNat : Nat) : Int) := rfl
  obtain ⟨n, rfl⟩ := Int.eq_ofNat_of_zero_le h
  have h2 : (BitVec.ofInt 64 (n : Int) &&& BitVec.ofInt 64 255).toNat = n % 256 := by
    rw [BitVec.toNat_and]
    have e1 : (BitVec.ofInt 64 (n : Int)).toNat = n % 2 ^ 64 := by rw [BitVec.ofInt_natCast, BitVec.toNat_ofNat]
    have e2 : (BitVec.ofInt 64 255).toNat = 2 ^ 8 - 1 := rfl
    rw [e1, e2, Nat.and_two_pow_sub_one_eq_mod]
    omega
  rw [e, h2, IntKind.wrap_i64]
  omega
/-! ### seals -/
def sealT (s : ByteArray) : ByteArray × Bool := if 20000 < s.size then (⟨#[]⟩, false) else (s ++ four (sumOf s), true)
def front (t : ByteArray) : ByteArray := t.extract 0 (t.size - 4)
def unsealT (t : ByteArray) : ByteArray × Bool :=
  if t.size < 4 then (⟨#[]⟩, false) else if (front t).size ≤ 20000 ∧ front t ++ four (sumOf (front t)) = t then (front t, true) else (⟨#[]⟩, false)
theorem front_size (t : ByteArray) : (front t).size = t.size - 4 := by
  unfold front
  rw [size_bl, bl_extract, List.drop_zero, List.length_take, ← size_bl]
  omega
theorem cut_join (t : ByteArray) (n : Nat) : t.extract 0 n ++ t.extract n t.size = t := by
  apply ba_ext
  rw [bl_append, bl_extract, bl_extract, List.drop_zero, size_bl t, List.take_length, List.take_append_drop]
theorem append_inj {a b c d : ByteArray} (h : a ++ b = c ++ d) (hs : a.size = c.size) : a = c ∧ b = d := by
  have h1 := congrArg bl h
  rw [bl_append, bl_append] at h1
  rw [size_bl, size_bl c] at hs
  obtain ⟨h2, h3⟩ := List.append_inj h1 hs
  exact ⟨ba_ext h2, ba_ext h3⟩
theorem tail_eq (t v : ByteArray) : t.extract (t.size - 4) t.size = v ↔ front t ++ v = t := by
  constructor
  · intro h; rw [← h]; exact cut_join t _
  · intro h
    have := cut_join t (t.size - 4)
    exact ((append_inj (this.trans h.symm) rfl).2)
/-! ### numbers in texts -/
/-- Seven bits a byte, the lowest first. -/
def varL (n : Nat) : List Nat := if h : n ≤ 127 then [n] else (n % 128 + 128) :: varL (n / 128)
termination_by n
decreasing_by omega
def accV : List Nat → Nat → Nat
  | [], c => c
  | d :: r, c => d % 128 + 128 * accV r c
theorem accV_zero : ∀ (l : List Nat) (c : Nat), accV l c = 0 → c = 0
  | [], c, h => h
  | d :: r, c, h => accV_zero r c (by unfold accV at h; omega)
theorem accV_snoc : ∀ (l : List Nat) (d c : Nat), accV (l ++ [d]) c = accV l (d % 128 + 128 * c)
  | [], d, c => rfl
  | e :: r, d, c => by
    show e % 128 + 128 * accV (r ++ [d]) c = e % 128 + 128 * accV r _
    rw [accV_snoc r d c]
theorem accV_add : ∀ (l : List Nat) (c : Nat), accV l c = accV l 0 + c * 128 ^ l.length
  | [], c => by simp [accV]
  | d :: r, c => by
    show d % 128 + 128 * accV r c = d % 128 + 128 * accV r 0 + c * 128 ^ (r.length + 1)
    rw [accV_add r c, Nat.pow_succ, Nat.mul_add]
    have : 128 * (c * 128 ^ r.length) = c * (128 ^ r.length * 128) := by rw [← Nat.mul_assoc, Nat.mul_comm 128 c, Nat.mul_assoc, Nat.mul_comm 128 (128 ^ r.length)]
    omega
theorem varL_len : ∀ (n : Nat), 1 ≤ (varL n).length := by
  intro n
  unfold varL
  split <;> simp
theorem varL_acc : ∀ (l : List Nat) (c : Nat), (∀ x ∈ l, 128 ≤ x ∧ x ≤ 255) → c ≤ 127 → (varL (accV l c) = l ++ [c] ↔ (l = [] ∨ c ≠ 0))
  | [], c, _, hc => by
    show varL c = [c] ↔ _
    unfold varL
    rw [dif_pos hc]
    simp
  | d :: r, c, hl, hc => by
    have hd := hl d List.mem_cons_self
    have hr : ∀ x ∈ r, 128 ≤ x ∧ x ≤ 255 := fun x hx => hl x (List.mem_cons_of_mem _ hx)
    have ih := varL_acc r c hr hc
    have e : accV (d :: r) c = d % 128 + 128 * accV r c := rfl
    by_cases hm : accV r c = 0
    · have h0 := accV_zero r c hm
      rw [e, hm]
      unfold varL
      rw [dif_pos (by omega)]
      constructor
      · intro h
        have := congrArg List.length h
        simp at this
      · rintro (h | h)
        · cases h
        · exact absurd h0 h
    · rw [e]
      have h1 : (d % 128 + 128 * accV r c) / 128 = accV r c := by omega
      have h2 : (d % 128 + 128 * accV r c) % 128 + 128 = d := by omega
      unfold varL
      rw [dif_neg (by omega), h1, h2]
      constructor
      · intro h
        have h := (List.cons.inj h).2
        rcases ih.1 h with h3 | h3
        · subst h3
          exact .inr (fun h4 => hm h4)
        · exact .inr h3
      · rintro (h | h)
        · cases h
        · show d :: varL (accV r c) = d :: (r ++ [c])
          rw [ih.2 (.inr h)]
def varT (n : Nat) : ByteArray := bstr ((varL n).map fun (x : Nat) => (x : Int))
theorem varT_size1 (n : Nat) : 1 ≤ (varT n).size := by
  unfold varT
  rw [size_bstr, List.length_map]
  exact varL_len n
theorem bl_varT (n : Nat) : bl (varT n) = (varL n).map fun x => UInt8.ofNat x := by
  unfold varT
  rw [bl_bstr, List.map_map]
  rfl
theorem varL_le : ∀ (n : Nat), ∀ x ∈ varL n, x ≤ 255 := by
  intro n
  induction n using varL.induct with
  | case1 n h =>
    intro x hx
    unfold varL at hx
    rw [dif_pos h] at hx
    simp at hx
    omega
  | case2 n h ih =>
    intro x hx
    unfold varL at hx
    rw [dif_neg h] at hx
    rcases List.mem_cons.1 hx with hx | hx
    · omega
    · exact ih x hx
theorem varL_long : ∀ (f n : Nat), n < 128 ^ (f + 1) → (varL n).length ≤ f + 1
  | 0, n, h => by
    unfold varL
    rw [dif_pos (by omega)]
    simp
  | f + 1, n, h => by
    unfold varL
    by_cases hn : n ≤ 127
    · rw [dif_pos hn]; simp
    · rw [dif_neg hn]
      have : n / 128 < 128 ^ (f + 1) := by
        rw [Nat.div_lt_iff_lt_mul (by omega)]
        rw [Nat.pow_succ] at h
        exact h
      have := varL_long f (n / 128) this
      simp only [List.length_cons]
      omega
theorem varT_size {n : Nat} (h : n ≤ 9223372036854775807) : (varT n).size ≤ 10 := by
  unfold varT
  rw [size_bstr, List.length_map]
  exact varL_long 9 n (by omega)
theorem u8_inj {l m : List Nat} (hl : ∀ x ∈ l, x ≤ 255) (hm : ∀ x ∈ m, x ≤ 255) (h : (l.map fun x => UInt8.ofNat x) = m.map fun x => UInt8.ofNat x) : l = m := by
  induction l generalizing m with
  | nil => cases m with
    | nil => rfl
    | cons _ _ => cases h
  | cons x l ih => cases m with
    | nil => cases h
    | cons y m =>
      simp only [List.map_cons, List.cons.injEq] at h
      have h1 := congrArg UInt8.toNat h.1
      have hx := hl x List.mem_cons_self
      have hy := hm y List.mem_cons_self
      simp only [UInt8.toNat_ofNat'] at h1
      have : x = y := by omega
      rw [this, ih (fun z hz => hl z (List.mem_cons_of_mem _ hz)) (fun z hz => hm z (List.mem_cons_of_mem _ hz)) h.2]
/-- The bytes of a text from a place on. -/
def byN (s : ByteArray) (i : Nat) : Nat := if h : i < s.size then (s[i]'h).toNat else 0
theorem byt_byN (s : ByteArray) (i : Nat) : byt s (i : Int) = (byN s i : Int) := by
  unfold byt byN
  simp only [Int.toNat_natCast]
  split <;> rfl
theorem byN_le (s : ByteArray) (i : Nat) : byN s i ≤ 255 := by
  unfold byN
  split
  · have := UInt8.toNat_lt (s[i]'(by assumption)); omega
  · omega
/-- Reading a number: at most five bytes. -/
def rdv (s : ByteArray) (at_ : Nat) : Nat → Nat → Nat → Int × Int × Bool
  | 0, _, _ => (0, 0, false)
  | f + 1, j, n =>
    if at_ + j < s.size then
      if 127 < byN s (at_ + j) then rdv s at_ f (j + 1) (n + byN s (at_ + j) % 128 * 128 ^ j)
      else if (0 < j ∧ byN s (at_ + j) = 0) ∨ 1000000000 < n + byN s (at_ + j) % 128 * 128 ^ j then (0, 0, false)
      else (((n + byN s (at_ + j) % 128 * 128 ^ j : Nat) : Int), ((at_ + j + 1 : Nat) : Int), true)
    else (0, 0, false)
def readV (s : ByteArray) (i : Int) : Int × Int × Bool := if 0 ≤ i ∧ i ≤ (s.size : Int) then rdv s i.toNat 5 0 0 else (0, 0, false)
/-- The bytes that a number takes. -/
def bytN (s : ByteArray) (a : Nat) : Nat → List Nat
  | 0 => []
  | j + 1 => bytN s a j ++ [byN s (a + j)]
theorem bytN_len (s : ByteArray) (a : Nat) : ∀ j, (bytN s a j).length = j
  | 0 => rfl
  | j + 1 => by unfold bytN; rw [List.length_append, bytN_len s a j]; rfl
theorem bl_part (s : ByteArray) (a : Nat) : ∀ (j : Nat), a + j ≤ s.size → bl (s.extract a (a + j)) = (bytN s a j).map fun x => UInt8.ofNat x
  | 0, h => by rw [bl_extract]; simp [bytN]
  | j + 1, h => by
    have ih := bl_part s a j (by omega)
    rw [bl_extract] at ih ⊢
    have hl : a + j < (bl s).length := by rw [bl_len]; omega
    have e : (bl s).take (a + (j + 1)) = (bl s).take (a + j) ++ [(bl s)[a + j]] := by
      rw [← Nat.add_assoc, List.take_succ_eq_append_getElem hl]
    rw [e, List.drop_append_of_le_length (by rw [List.length_take]; omega), ih]
    have e3 : bytN s a (j + 1) = bytN s a j ++ [byN s (a + j)] := rfl
    rw [e3, List.map_append]
    have e2 : UInt8.ofNat (byN s (a + j)) = (bl s)[a + j] := by
      unfold byN
      rw [dif_pos (by omega), UInt8.ofNat_toNat]
      rfl
    rw [List.map_cons, List.map_nil, e2]
/-! ### orders as texts -/
def numberF : ByteArray × Int × Bool → Int × (ByteArray × Int × Bool)
  | (s, i, b) => if b = true then (0, (s, i, true)) else if (readV s i).2.2 = true then ((readV s i).1, (s, (readV s i).2.1, b)) else (0, (s, i, true))
def otext : Order → ByteArray
  | (a, b, c, x) => bstr [wr .u8 a] ++ varT b.toNat ++ varT c.toNat ++ varT x.toNat
def orderT (o : Order) : ByteArray × Bool := if orderOk o = true then sealT (otext o) else (⟨#[]⟩, false)
def readO (t : ByteArray) : Order × Bool :=
  if (unsealT t).2 = true ∧ 0 < (unsealT t).1.size then
    if (numberF (numberF (numberF ((unsealT t).1, 1, false)).2).2).2.2.2 = true then ((0, 0, 0, 0), false)
    else if (numberF (numberF (numberF ((unsealT t).1, 1, false)).2).2).2.2.1 = ((unsealT t).1.size : Int) ∧ orderOk (byt (unsealT t).1 0, (numberF ((unsealT t).1, 1, false)).1, (numberF (numberF ((unsealT t).1, 1, false)).2).1, (numberF (numberF (numberF ((unsealT t).1, 1, false)).2).2).1) = true then ((byt (unsealT t).1 0, (numberF ((unsealT t).1, 1, false)).1, (numberF (numberF ((unsealT t).1, 1, false)).2).1, (numberF (numberF (numberF ((unsealT t).1, 1, false)).2).2).1), true)
    else ((0, 0, 0, 0), false)
  else ((0, 0, 0, 0), false)
theorem varT_part (s : ByteArray) (a j n : Nat) (h : a + j < s.size) (hn : n = accV (bytN s a j) 0) (hb : ∀ x ∈ bytN s a j, 128 ≤ x ∧ x ≤ 255) (hc : byN s (a + j) ≤ 127) :
    varT (n + byN s (a + j) % 128 * 128 ^ j) = s.extract a (a + j + 1) ↔ ¬ (0 < j ∧ byN s (a + j) = 0) := by
  have e1 : n + byN s (a + j) % 128 * 128 ^ j = accV (bytN s a j) (byN s (a + j)) := by
    rw [accV_add, bytN_len, hn, Nat.mod_eq_of_lt (by omega : byN s (a + j) < 128)]
  have e2 := bl_part s a (j + 1) (by omega)
  have e3 : bytN s a (j + 1) = bytN s a j ++ [byN s (a + j)] := rfl
  have e4 := varL_acc (bytN s a j) (byN s (a + j)) hb hc
  have e5 : bytN s a j = [] ↔ j = 0 := by
    rw [← List.length_eq_zero_iff, bytN_len]
  rw [e1]
  have e6 : varT (accV (bytN s a j) (byN s (a + j))) = s.extract a (a + j + 1) ↔ varL (accV (bytN s a j) (byN s (a + j))) = bytN s a j ++ [byN s (a + j)] := by
    constructor
    · intro q
      have q := congrArg bl q
      rw [bl_varT, show a + j + 1 = a + (j + 1) from rfl, e2, e3] at q
      refine u8_inj (varL_le _) ?_ q
      intro x hx
      rcases List.mem_append.1 hx with hx | hx
      · exact (hb x hx).2
      · simp at hx; omega
    · intro q
      apply ba_ext
      rw [bl_varT, q, show a + j + 1 = a + (j + 1) from rfl, e2, e3]
  rw [e6, e4, e5]
  omega
theorem rdv_ok (s : ByteArray) (a : Nat) : ∀ (f j n : Nat), n = accV (bytN s a j) 0 → (∀ x ∈ bytN s a j, 128 ≤ x ∧ x ≤ 255) → (rdv s a f j n).2.2 = true → ∃ N e : Nat, rdv s a f j n = ((N : Int), (e : Int), true) ∧ a ≤ e ∧ e ≤ s.size ∧ varT N = s.extract a e
  | 0, j, n, _, _, h => by cases h
  | f + 1, j, n, hn, hb, h => by
    have hvp := fun h1 h2 => varT_part s a j n h1 hn hb h2
    have hih := fun (h : 127 < byN s (a + j)) => rdv_ok s a f (j + 1) (n + byN s (a + j) % 128 * 128 ^ j) (by
      have e3 : bytN s a (j + 1) = bytN s a j ++ [byN s (a + j)] := rfl
      rw [e3, accV_snoc, accV_add, bytN_len, ← hn]
      rfl) (fun x hx => by
        have hc := byN_le s (a + j)
        rcases List.mem_append.1 hx with hx | hx
        · exact hb x hx
        · rw [List.mem_singleton] at hx
          omega)
    unfold rdv at h ⊢
    generalize n + byN s (a + j) % 128 * 128 ^ j = N at *
    by_cases hlt : a + j < s.size
    · rw [if_pos hlt] at h ⊢
      by_cases h127 : 127 < byN s (a + j)
      · rw [if_pos h127] at h ⊢
        exact hih h127 h
      · rw [if_neg h127] at h ⊢
        by_cases hz : (0 < j ∧ byN s (a + j) = 0) ∨ 1000000000 < N
        · rw [if_pos hz] at h; cases h
        · rw [if_neg hz]
          exact ⟨N, a + j + 1, rfl, by omega, by omega, (hvp hlt (Nat.le_of_not_lt h127)).2 fun q => hz (.inl q)⟩
    · rw [if_neg hlt] at h; cases h
theorem readV_ok {s : ByteArray} {i : Int} (h : (readV s i).2.2 = true) : ∃ a N e : Nat, i = (a : Int) ∧ readV s i = ((N : Int), (e : Int), true) ∧ a ≤ e ∧ e ≤ s.size ∧ varT N = s.extract a e := by
  unfold readV at h ⊢
  by_cases hi : 0 ≤ i ∧ i ≤ (s.size : Int)
  · rw [if_pos hi] at h ⊢
    obtain ⟨a, rfl⟩ := Int.eq_ofNat_of_zero_le hi.1
    rw [Int.toNat_natCast] at h ⊢
    obtain ⟨N, e, h1, h2, h3, h4⟩ := rdv_ok s a 5 0 0 rfl (fun x hx => by cases hx) h
    exact ⟨a, N, e, rfl, h1, h2, h3, h4⟩
  · rw [if_neg hi] at h; cases h
theorem ext_join (s : ByteArray) (a b : Nat) (h : a ≤ b) : s.extract 0 a ++ s.extract a b = s.extract 0 b := by
  apply ba_ext
  rw [bl_append, bl_extract, bl_extract, bl_extract, List.drop_zero, List.drop_zero]
  have : (bl s).take a = ((bl s).take b).take a := by rw [List.take_take, Nat.min_eq_left h]
  rw [this, List.take_append_drop]
theorem ext_one (s : ByteArray) (h : 0 < s.size) : bstr [wr .u8 (byt s 0)] = s.extract 0 1 := by
  apply ba_ext
  have e := bl_part s 0 1 (by omega)
  rw [Nat.zero_add] at e
  rw [e, bl_bstr]
  have e2 : byt s 0 = (byN s 0 : Int) := byt_byN s 0
  have hc := byN_le s 0
  rw [e2]
  have e3 : (((byN s 0 : Nat) : Int) % 256).toNat = byN s 0 := by omega
  show [UInt8.ofNat (((byN s 0 : Nat) : Int) % 256).toNat] = [UInt8.ofNat (byN s (0 + 0))]
  rw [e3]
theorem numberF_ok {s : ByteArray} {i : Int} (h : (numberF (s, i, false)).2.2.2 = false) : ∃ a N e : Nat, i = (a : Int) ∧ numberF (s, i, false) = ((N : Int), (s, (e : Int), false)) ∧ a ≤ e ∧ e ≤ s.size ∧ varT N = s.extract a e := by
  unfold numberF at h ⊢
  simp only [Bool.false_eq_true, if_false] at h ⊢
  by_cases hr : (readV s i).2.2 = true
  · rw [if_pos hr]
    obtain ⟨a, N, e, h1, h2, h3⟩ := readV_ok hr
    rw [h2]
    exact ⟨a, N, e, h1, rfl, h3⟩
  · rw [if_neg hr] at h; cases h
theorem numberF_bad (s : ByteArray) (i : Int) : (numberF (s, i, true)).2.2.2 = true := rfl
theorem numberF_keep (x : ByteArray × Int × Bool) : (numberF x).2.1 = x.1 := by
  obtain ⟨s, i, b⟩ := x
  unfold numberF
  simp only []
  split
  · rfl
  · split <;> rfl
theorem numberF_three {s : ByteArray} (hs : 0 < s.size) (h : (numberF (numberF (numberF (s, 1, false)).2).2).2.2.2 = false) : ∃ N1 N2 N3 e : Nat, (numberF (s, 1, false)).1 = (N1 : Int) ∧ (numberF (numberF (s, 1, false)).2).1 = (N2 : Int) ∧ (numberF (numberF (numberF (s, 1, false)).2).2).1 = (N3 : Int) ∧ (numberF (numberF (numberF (s, 1, false)).2).2).2.2.1 = (e : Int) ∧ e ≤ s.size ∧ otext (byt s 0, (N1 : Int), (N2 : Int), (N3 : Int)) = s.extract 0 e := by
  have b1 : (numberF (s, 1, false)).2.2.2 = false := by
    cases hb : (numberF (s, 1, false)).2.2.2 with
    | false => rfl
    | true =>
      exfalso
      generalize numberF (s, 1, false) = y at hb h
      obtain ⟨n, s', i', b'⟩ := y
      simp only at hb
      subst hb
      have hb2 := numberF_bad s' i'
      generalize numberF (s', i', true) = z at hb2 h
      obtain ⟨n2, s2, i2, b2⟩ := z
      simp only at hb2
      subst hb2
      rw [numberF_bad] at h
      cases h
  obtain ⟨a1, N1, e1, q1, r1, le1, sz1, t1⟩ := numberF_ok b1
  have b2 : (numberF (numberF (s, 1, false)).2).2.2.2 = false := by
    cases hb : (numberF (numberF (s, 1, false)).2).2.2.2 with
    | false => rfl
    | true =>
      exfalso
      generalize numberF (numberF (s, 1, false)).2 = z at hb h
      obtain ⟨n2, s2, i2, b2⟩ := z
      simp only at hb
      subst hb
      rw [numberF_bad] at h
      cases h
  rw [r1] at b2 h ⊢
  obtain ⟨a2, N2, e2, q2, r2, le2, sz2, t2⟩ := numberF_ok b2
  simp only at h ⊢
  rw [r2] at h ⊢
  obtain ⟨a3, N3, e3, q3, r3, le3, sz3, t3⟩ := numberF_ok h
  simp only at ⊢
  rw [r3]
  refine ⟨N1, N2, N3, e3, rfl, rfl, rfl, rfl, sz3, ?_⟩
  have hq1 : a1 = 1 := by omega
  have hq2 : a2 = e1 := by omega
  have hq3 : a3 = e2 := by omega
  subst hq1 hq2 hq3
  unfold otext
  simp only [Int.toNat_natCast]
  rw [t1, t2, t3, ext_one s hs, ext_join s _ _ le1, ext_join s _ _ le2, ext_join s _ _ le3]
theorem unsealT_ok {t : ByteArray} (h : (unsealT t).2 = true) : (unsealT t).1.size ≤ 20000 ∧ (unsealT t).1 ++ four (sumOf (unsealT t).1) = t := by
  unfold unsealT at h ⊢
  by_cases h4 : t.size < 4
  · rw [if_pos h4] at h; cases h
  · rw [if_neg h4] at h ⊢
    by_cases hc : (front t).size ≤ 20000 ∧ front t ++ four (sumOf (front t)) = t
    · rw [if_pos hc]; exact hc
    · rw [if_neg hc] at h; cases h
theorem seal_same (s : ByteArray) (e : Nat) (hs : s.size ≤ 20000) (he : e ≤ s.size) : (sealT (s.extract 0 e)).2 = true ∧ ((sealT (s.extract 0 e)).1 = s ++ four (sumOf s) ↔ e = s.size) := by
  have hz : (s.extract 0 e).size = e := by
    rw [size_bl, bl_extract, List.drop_zero, List.length_take, ← size_bl]; omega
  unfold sealT
  have hn : ¬ 20000 < (s.extract 0 e).size := by omega
  rw [if_neg hn]
  refine ⟨rfl, ?_⟩
  constructor
  · intro q
    have q2 := congrArg ByteArray.size q
    simp only [size_append, four_size] at q2
    omega
  · intro q
    have : s.extract 0 e = s := by
      apply ba_ext
      rw [bl_extract, List.drop_zero, q, size_bl, List.take_length]
    simp only [this]
end Go.Sx
/- Typed numbers. -/
set_option linter.unusedVariables false
set_option linter.unusedSimpArgs false
namespace Go.Sx
open Go.RowKit (wrap64)
def decL (n : Nat) : List Nat :=
  if n < 10 then [48 + n] else if n < 100 then [48 + n / 10, 48 + n % 10] else if n < 1000 then [48 + n / 100, 48 + n / 10 % 10, 48 + n % 10] else [48 + n / 1000, 48 + n / 100 % 10, 48 + n / 10 % 10, 48 + n % 10]
def bn (l : List Nat) : ByteArray := bstr (l.map fun (x : Nat) => (x : Int))
def decT (n : Nat) : ByteArray := bn (decL n)
theorem bl_bn (l : List Nat) : bl (bn l) = l.map UInt8.ofNat := by
  unfold bn
  rw [bl_bstr, List.map_map]
  rfl
theorem bn_append (l m : List Nat) : bn l ++ bn m = bn (l ++ m) := by
  apply ba_ext
  rw [bl_append, bl_bn, bl_bn, bl_bn, List.map_append]
theorem bn_size (l : List Nat) : (bn l).size = l.length := by rw [size_bl, bl_bn, List.length_map]
theorem decL_len {n : Nat} : (decL n).length ≤ 4 := by
  unfold decL
  split
  · simp
  · split
    · simp
    · split <;> simp
theorem decL_dig {n : Nat} (h : n < 10000) : ∀ x ∈ decL n, 48 ≤ x ∧ x ≤ 57 := by
  unfold decL
  intro x hx
  split at hx
  · simp at hx; omega
  · split at hx
    · simp at hx; omega
    · split at hx
      · simp at hx; omega
      · simp at hx; omega
theorem decT_size {n : Nat} : (decT n).size ≤ 4 := by
  unfold decT
  rw [bn_size]
  exact decL_len
theorem fig_step (x z : Nat) (hx : 48 ≤ x ∧ x ≤ 57) (hz : z ≤ 100000) : wrap64 ((wrap64 (10 * (z : Int))) + (((x : Int) - 48) % 256)) = ((10 * z + (x - 48) : Nat) : Int) := by
  have e1 : wrap64 (10 * (z : Int)) = 10 * (z : Int) := w64 (by omega) (by omega)
  have e2 : ((x : Int) - 48) % 256 = ((x - 48 : Nat) : Int) := by omega
  rw [e1, e2]
  have e3 : 10 * (z : Int) + ((x - 48 : Nat) : Int) = ((10 * z + (x - 48) : Nat) : Int) := by omega
  rw [e3]
  exact w64 (by omega) (by omega)
theorem u8_nat (x : Nat) (hx : x ≤ 255) : ((UInt8.ofNat x).toNat : Int) = (x : Int) := by
  rw [UInt8.toNat_ofNat']; omega
theorem numF_step (x : Nat) (hx : 48 ≤ x ∧ x ≤ 57) (l : List UInt8) (z : Nat) (hz : z ≤ 100000) : numF (UInt8.ofNat x :: l) (z : Int) = numF l ((10 * z + (x - 48) : Nat) : Int) := by
  have e := u8_nat x (by omega)
  have e2 := fig_step x z hx hz
  rw [← e] at e2
  rw [← e2, numF]
theorem num_dec {n : Nat} (h : n < 10000) : num (decT n) = (n : Int) := by
  unfold num decT
  rw [bl_bn]
  have hd := decL_dig h
  have z0 : (0 : Int) = ((0 : Nat) : Int) := rfl
  unfold decL at hd ⊢
  rw [z0]
  split
  · rename_i h1
    rw [if_pos h1] at hd
    rw [List.map_cons, numF_step _ (hd _ (by simp)) _ _ (by omega)]
    simp only [List.map_nil, numF]
    omega
  · rename_i h1
    rw [if_neg h1] at hd
    split
    · rename_i h2
      rw [if_pos h2] at hd
      rw [List.map_cons, List.map_cons, numF_step _ (hd _ (by simp)) _ _ (by omega), numF_step _ (hd _ (by simp)) _ _ (by omega)]
      simp only [List.map_nil, numF]
      omega
    · rename_i h2
      rw [if_neg h2] at hd
      split
      · rename_i h3
        rw [if_pos h3] at hd
        rw [List.map_cons, List.map_cons, List.map_cons, numF_step _ (hd _ (by simp)) _ _ (by omega), numF_step _ (hd _ (by simp)) _ _ (by omega), numF_step _ (hd _ (by simp)) _ _ (by omega)]
        simp only [List.map_nil, numF]
        omega
      · rename_i h3
        rw [if_neg h3] at hd
        rw [List.map_cons, List.map_cons, List.map_cons, List.map_cons, numF_step _ (hd _ (by simp)) _ _ (by omega), numF_step _ (hd _ (by simp)) _ _ (by omega), numF_step _ (hd _ (by simp)) _ _ (by omega), numF_step _ (hd _ (by simp)) _ _ (by omega)]
        simp only [List.map_nil, numF]
        omega
theorem digits_bn (l : List Nat) (h : ∀ x ∈ l, 48 ≤ x ∧ x ≤ 57) : digitsOk (bl (bn l)) = true := by
  rw [bl_bn]
  induction l with
  | nil => rfl
  | cons x l ih =>
    rw [List.map_cons, digitsOk_cons, ih (fun y hy => h y (List.mem_cons_of_mem _ hy)), UInt8.toNat_ofNat']
    have := h x List.mem_cons_self
    simp
    omega
/-- Figures that are pressed are kept. -/
theorem press_figs (a n d : Int) (b : Bool) (ha : 2 ≤ a ∧ a ≤ 4) (hn : 0 ≤ n ∧ n ≤ 9999) (hd : 0 ≤ d ∧ d ≤ 9999) (os : List Order) : ∀ (l p : List Nat), (∀ x ∈ p, 48 ≤ x ∧ x ≤ 57) → (∀ x ∈ l, 48 ≤ x ∧ x ≤ 57) → p.length + l.length ≤ 4 →
    pressL (l.map UInt8.ofNat) (a, b, n, d, bn p) os = ((a, b, n, d, bn (p ++ l)), os)
  | [], p, _, _, _ => by rw [List.append_nil]; rfl
  | x :: l, p, hp, hl, hs => by
    have hx := hl x List.mem_cons_self
    simp only [List.length_cons] at hs
    have ih := press_figs a n d b ha hn hd os l (p ++ [x]) (fun y hy => by
      rcases List.mem_append.1 hy with hy | hy
      · exact hp y hy
      · rw [List.mem_singleton] at hy; subst hy; exact hx) (fun y hy => hl y (List.mem_cons_of_mem _ hy)) (by rw [List.length_append, List.length_singleton]; omega)
    have e : ((UInt8.ofNat x).toNat : Int) = (x : Int) := by
      rw [UInt8.toNat_ofNat']; omega
    have hok : menuOk (a, b, n, d, bn p) = true := menuOk_mk ⟨digits_bn p hp, by omega, hn, hd, by rw [bn_size]; omega, fun q => by omega⟩
    have hpr : press (a, b, n, d, bn p) (x : Int) = ((a, b, n, d, bn p ++ bn [x]), (0, 0, 0, 0), false) := by
      unfold press
      simp only []
      have c1 : ¬ a = 1 := by omega
      have c2 : ¬ (x : Int) = 10 := by omega
      have c3 : ¬ (x : Int) = 99 := by omega
      have c4 : (48 ≤ (x : Int) ∧ (x : Int) ≤ 57) ∧ (bn p).size < 4 := ⟨by omega, by rw [bn_size]; omega⟩
      have c5 : (x : Int) % 256 = (x : Int) := by omega
      rw [if_pos hok, if_neg c1, if_neg c2, if_neg c3, if_pos c4, c5]
      rfl
    rw [List.map_cons]
    show pressL (l.map UInt8.ofNat) (press (a, b, n, d, bn p) ((UInt8.ofNat x).toNat : Int)).1 (if (press (a, b, n, d, bn p) ((UInt8.ofNat x).toNat : Int)).2.2 = true then os ++ [(press (a, b, n, d, bn p) ((UInt8.ofNat x).toNat : Int)).2.1] else os) = _
    rw [e, hpr, bn_append]
    rw [List.append_assoc] at ih
    exact ih
theorem press_dec (a n d : Int) (b : Bool) (ha : 2 ≤ a ∧ a ≤ 4) (hn : 0 ≤ n ∧ n ≤ 9999) (hd : 0 ≤ d ∧ d ≤ 9999) (os : List Order) {m : Nat} (hm : m < 10000) :
    pressL (bl (decT m)) (a, b, n, d, ⟨#[]⟩) os = ((a, b, n, d, decT m), os) := by
  unfold decT
  rw [bl_bn]
  exact press_figs a n d b ha hn hd os (decL m) [] (fun x hx => by cases hx) (decL_dig hm) (by have := decL_len (n := m); simpa using this)
theorem menuOk_dec {a n d : Int} {b : Bool} (ha : 2 ≤ a ∧ a ≤ 4) (hn : 0 ≤ n ∧ n ≤ 9999) (hd : 0 ≤ d ∧ d ≤ 9999) {m : Nat} (hm : m < 10000) : menuOk (a, b, n, d, decT m) = true :=
  menuOk_mk ⟨digits_bn _ (decL_dig hm), by omega, hn, hd, decT_size, fun q => by omega⟩
theorem press_one (c : Nat) (m m' : Menu) (os : List Order) (hc : c < 256) (h : (press m (c : Int)).1 = m') (h2 : (press m (c : Int)).2.2 = false) : pressL (bl (bn [c])) m os = (m', os) := by
  rw [bl_bn]
  have e : ((UInt8.ofNat c).toNat : Int) = (c : Int) := by
    rw [UInt8.toNat_ofNat']; omega
  show pressL [] (press m ((UInt8.ofNat c).toNat : Int)).1 (if (press m ((UInt8.ofNat c).toNat : Int)).2.2 = true then os ++ [(press m ((UInt8.ofNat c).toNat : Int)).2.1] else os) = _
  rw [e, h, h2]
  rfl
theorem press_last (c : Nat) (m : Menu) (os : List Order) (hc : c < 256) (k n d x : Int) (h : press m (c : Int) = sent k n d x) : pressL (bl (bn [c])) m os = (menuNew, os ++ (if orderOk (k, n, d, x) = true then [(k, n, d, x)] else [])) := by
  rw [bl_bn]
  have e : ((UInt8.ofNat c).toNat : Int) = (c : Int) := by
    rw [UInt8.toNat_ofNat']; omega
  show pressL [] (press m ((UInt8.ofNat c).toNat : Int)).1 (if (press m ((UInt8.ofNat c).toNat : Int)).2.2 = true then os ++ [(press m ((UInt8.ofNat c).toNat : Int)).2.1] else os) = _
  rw [e, h]
  unfold sent
  by_cases ho : orderOk (k, n, d, x) = true
  · rw [if_pos ho, if_pos ho]; rfl
  · rw [if_neg ho, if_neg ho]; simp [pressL]
theorem new_b : press menuNew 98 = ((2, false, 0, 0, ⟨#[]⟩), (0, 0, 0, 0), false) := by
  have h : menuOk menuNew = true := menuNew_ok
  unfold menuNew at h ⊢
  unfold press
  simp only []
  rw [if_pos h]
  simp
theorem new_o : press menuNew 111 = ((4, true, 0, 0, ⟨#[]⟩), (0, 0, 0, 0), false) := by
  have h : menuOk menuNew = true := menuNew_ok
  unfold menuNew at h ⊢
  unfold press
  simp only []
  rw [if_pos h]
  simp
theorem pressAll_basal {n1 n2 n3 : Nat} (h1 : n1 < 10000) (h2 : n2 < 10000) (h3 : n3 < 10000) :
    pressAll menuNew (bn [98] ++ decT n1 ++ bn [10] ++ decT n2 ++ bn [10] ++ decT n3 ++ bn [10]) = (menuNew, if orderOk (1, (n1 : Int), (n2 : Int), (n3 : Int)) = true then [(1, (n1 : Int), (n2 : Int), (n3 : Int))] else []) := by
  unfold pressAll
  simp only [bl_append, pressL_app]
  rw [press_one 98 menuNew (2, false, 0, 0, ⟨#[]⟩) [] (by omega) (by rw [show ((98 : Nat) : Int) = 98 from rfl, new_b]) (by rw [show ((98 : Nat) : Int) = 98 from rfl, new_b])]
  simp only []
  rw [press_dec 2 0 0 false (by omega) (by omega) (by omega) [] h1]
  simp only []
  have p2 : press (2, false, 0, 0, decT n1) ((10 : Nat) : Int) = ((3, false, (n1 : Int), 0, ⟨#[]⟩), (0, 0, 0, 0), false) := by
    have hok := menuOk_dec (a := 2) (n := 0) (d := 0) (b := false) (by omega) (by omega) (by omega) h1
    unfold press
    simp only []
    rw [if_pos hok]
    simp [num_dec h1]
  rw [press_one 10 _ (3, false, (n1 : Int), 0, ⟨#[]⟩) [] (by omega) (by rw [p2]) (by rw [p2])]
  simp only []
  rw [press_dec 3 (n1 : Int) 0 false (by omega) (by omega) (by omega) [] h2]
  simp only []
  have p3 : press (3, false, (n1 : Int), 0, decT n2) ((10 : Nat) : Int) = ((4, false, (n1 : Int), (n2 : Int), ⟨#[]⟩), (0, 0, 0, 0), false) := by
    have hok := menuOk_dec (a := 3) (n := (n1 : Int)) (d := 0) (b := false) (by omega) (by omega) (by omega) h2
    unfold press
    simp only []
    rw [if_pos hok]
    simp [num_dec h2]
  rw [press_one 10 _ (4, false, (n1 : Int), (n2 : Int), ⟨#[]⟩) [] (by omega) (by rw [p3]) (by rw [p3])]
  simp only []
  rw [press_dec 4 (n1 : Int) (n2 : Int) false (by omega) (by omega) (by omega) [] h3]
  simp only []
  have p4 : press (4, false, (n1 : Int), (n2 : Int), decT n3) ((10 : Nat) : Int) = sent 1 (n1 : Int) (n2 : Int) (n3 : Int) := by
    have hok := menuOk_dec (a := 4) (n := (n1 : Int)) (d := (n2 : Int)) (b := false) (by omega) (by omega) (by omega) h3
    unfold press
    simp only []
    rw [if_pos hok]
    simp [num_dec h3]
  rw [press_last 10 _ [] (by omega) _ _ _ _ p4]
  rfl
theorem pressAll_bolus {n : Nat} (h : n < 10000) : pressAll menuNew (bn [111] ++ decT n ++ bn [10]) = (menuNew, if orderOk (2, 0, 0, (n : Int)) = true then [(2, 0, 0, (n : Int))] else []) := by
  unfold pressAll
  simp only [bl_append, pressL_app]
  rw [press_one 111 menuNew (4, true, 0, 0, ⟨#[]⟩) [] (by omega) (by rw [show ((111 : Nat) : Int) = 111 from rfl, new_o]) (by rw [show ((111 : Nat) : Int) = 111 from rfl, new_o])]
  simp only []
  rw [press_dec 4 0 0 true (by omega) (by omega) (by omega) [] h]
  simp only []
  have p4 : press (4, true, 0, 0, decT n) ((10 : Nat) : Int) = sent 2 0 0 (n : Int) := by
    have hok := menuOk_dec (a := 4) (n := 0) (d := 0) (b := true) (by omega) (by omega) (by omega) h
    unfold press
    simp only []
    rw [if_pos hok]
    simp [num_dec h]
  rw [press_last 10 _ [] (by omega) _ _ _ _ p4]
  rfl
theorem pressAll_b12c : pressAll menuNew (bn [98, 49, 50, 99]) = (menuNew, []) := by
  have e : bn [98, 49, 50, 99] = bn [98] ++ bn [49, 50] ++ bn [99] := by rw [bn_append, bn_append]; rfl
  rw [e]
  unfold pressAll
  simp only [bl_append, pressL_app]
  rw [press_one 98 menuNew (2, false, 0, 0, ⟨#[]⟩) [] (by omega) (by rw [show ((98 : Nat) : Int) = 98 from rfl, new_b]) (by rw [show ((98 : Nat) : Int) = 98 from rfl, new_b])]
  simp only []
  have hd : ∀ x ∈ [49, 50], 48 ≤ x ∧ x ≤ 57 := by simp
  have h2 := press_figs 2 0 0 false (by omega) (by omega) (by omega) [] [49, 50] [] (fun x hx => by cases hx) hd (by simp)
  have e0 : bn ([] : List Nat) = ⟨#[]⟩ := rfl
  rw [e0] at h2
  rw [← bl_bn] at h2
  rw [h2]
  simp only [List.nil_append]
  have p4 : press (2, false, 0, 0, bn [49, 50]) ((99 : Nat) : Int) = (menuNew, (0, 0, 0, 0), false) := by
    have hok : menuOk (2, false, 0, 0, bn [49, 50]) = true := menuOk_mk ⟨digits_bn _ hd, by omega, by omega, by omega, by rw [bn_size]; simp, fun q => by omega⟩
    unfold press
    simp only []
    rw [if_pos hok]
    simp
  rw [press_one 99 _ menuNew [] (by omega) (by rw [p4]) (by rw [p4])]
end Go.Sx
/- One tick of the device: what it comes to. -/
set_option linter.unusedVariables false
set_option linter.unusedSimpArgs false
namespace Go.Sx
open Go.RowKit (wrap64)
def inOk (i : In) : Bool := senseOk i.1 && (decide (i.2.1.size ≤ 20) && decide (i.2.2.size ≤ 40))
def seenF (os : List Order) : Bool := os.any fun o => decide (o.1 = 5)
def ordersOf (m : Menu) (i : In) : Menu × List Order :=
  if (readO i.2.2).2 = true then ((pressAll m i.2.1).1, (pressAll m i.2.1).2 ++ [(readO i.2.2).1]) else pressAll m i.2.1
def takeO (p : Pump) (o : Order) : Pump × Bool := if o.1 = 5 then (p, true) else take p o
def takeL : List Order → Pump → Int → Pump × Int
  | [], p, r => (p, r)
  | o :: os, p, r => takeL os (takeO p o).1 (if (takeO p o).2 = true then r else r + 1)
/-- The pump and the number of refusals behind the orders. -/
def behind (p : Pump) (m : Menu) (ref : Int) (i : In) : Pump × Int :=
  ((takeL (ordersOf m i).2 p ref).1, if i.2.2.size ≠ 0 ∧ (readO i.2.2).2 = false then (takeL (ordersOf m i).2 p ref).2 + 1 else (takeL (ordersOf m i).2 p ref).2)
def tickP (q : Pump) (past : List Int) (al : Int) : Pump := if al = 0 then give q (allow past al (wants q)) else q
def tickD (p : Pump) (past : List Int) (alarm : Int) (m : Menu) (ts : List Tick) (ref : Int) (i : In) : Device :=
  if deviceOk p past alarm m ts ref = true ∧ inOk i = true ∧ ts.length ≠ 200 ∧ ref ≤ 999999900 then
    (let al := feel past alarm i.1 (seenF (ordersOf m i).2)
     let q := (behind p m ref i).1
     let n := allow past al (wants q)
     dev (tickP q past al) (pass past al n) al (ordersOf m i).1 (ts ++ [(n, al, (tickP q past al).1)]) (behind p m ref i).2)
  else dev p past alarm m ts ref
theorem inOk_den {i : In} (h : inOk i = true) : senseOk i.1 = true ∧ i.2.1.size ≤ 20 ∧ i.2.2.size ≤ 40 := by
  unfold inOk at h
  simp only [Bool.and_eq_true, decide_eq_true_eq] at h
  exact h
theorem ordersOf_len (m : Menu) (i : In) : (ordersOf m i).2.length ≤ i.2.1.size + 1 := by
  have h := pressAll_len m i.2.1
  unfold ordersOf
  split
  · simp only [List.length_append, List.length_singleton]; omega
  · omega
theorem ordersOf_menu (m : Menu) (i : In) : (ordersOf m i).1 = (pressAll m i.2.1).1 := by
  unfold ordersOf
  split <;> rfl
theorem takeO_ok {p : Pump} (o : Order) (h : pumpOk p = true) : pumpOk (takeO p o).1 = true := by
  unfold takeO
  split
  · exact h
  · exact take_ok o h
theorem takeL_ok : ∀ (os : List Order) (p : Pump) (r : Int), pumpOk p = true → pumpOk (takeL os p r).1 = true ∧ r ≤ (takeL os p r).2 ∧ (takeL os p r).2 ≤ r + os.length
  | [], p, r, h => ⟨h, Int.le_refl _, by simp [takeL]⟩
  | o :: os, p, r, h => by
    obtain ⟨h1, h2, h3⟩ := takeL_ok os (takeO p o).1 (if (takeO p o).2 = true then r else r + 1) (takeO_ok o h)
    refine ⟨h1, ?_, ?_⟩
    · refine Int.le_trans ?_ h2
      split <;> omega
    · refine Int.le_trans h3 ?_
      simp only [List.length_cons]
      split <;> omega
theorem behind_ok {p : Pump} {m : Menu} {ref : Int} {i : In} (h : pumpOk p = true) (hi : inOk i = true) : pumpOk (behind p m ref i).1 = true ∧ ref ≤ (behind p m ref i).2 ∧ (behind p m ref i).2 ≤ ref + 22 := by
  obtain ⟨h1, h2, h3⟩ := takeL_ok (ordersOf m i).2 p ref h
  have h4 := ordersOf_len m i
  have h5 := (inOk_den hi).2.1
  refine ⟨h1, ?_, ?_⟩
  · unfold behind
    simp only []
    split <;> omega
  · unfold behind
    simp only []
    split <;> omega
theorem tickP_ok {q : Pump} (past : List Int) (al : Int) (h : pumpOk q = true) : pumpOk (tickP q past al) = true := by
  unfold tickP
  split
  · exact give_ok _ h
  · exact h
/-- A right device stays right. -/
theorem tickD_ok {p : Pump} {past : List Int} {alarm : Int} {m : Menu} {ts : List Tick} {ref : Int} (i : In) (h : deviceOk p past alarm m ts ref = true) :
    ∃ p' past' alarm' m' ts' ref', tickD p past alarm m ts ref i = dev p' past' alarm' m' ts' ref' ∧ deviceOk p' past' alarm' m' ts' ref' = true := by
  unfold tickD
  split
  · rename_i hc
    obtain ⟨h1, h2, h3, h4, h5, h6⟩ := deviceOk_den h
    obtain ⟨b1, b2, b3⟩ := behind_ok (m := m) (ref := ref) h1 hc.2.1
    have hg := guardOk_feel i.1 (seenF (ordersOf m i).2) h2
    have hm := (pressAll_ok h3 i.2.1).1
    refine ⟨_, _, _, _, _, _, rfl, deviceOk_mk (tickP_ok _ _ b1) (guardOk_pass _ hg) ?_ ?_ ⟨by omega, by omega⟩⟩
    · rw [ordersOf_menu]; exact hm
    · simp only [List.length_append, List.length_singleton]
      omega
  · exact ⟨_, _, _, _, _, _, rfl, h⟩
/-! ### the device over many ticks -/
def tick (d : Device) (i : In) : Device := tickD d.pump d.past d.alarm d.menu d.ticks d.refused i
def devNew : Device := dev (0, 0, 1, 0, 0, 0, 0, 0) [] 0 menuNew [] 0
def devZero : Device := dev (0, 0, 0, 0, 0, 0, 0, 0) [] 0 (0, false, 0, 0, ⟨#[]⟩) [] 0
def DOk (d : Device) : Prop := ∃ p past alarm m ts ref, d = dev p past alarm m ts ref ∧ deviceOk p past alarm m ts ref = true
theorem tick_dev (p : Pump) (past : List Int) (alarm : Int) (m : Menu) (ts : List Tick) (ref : Int) (i : In) : tick (dev p past alarm m ts ref) i = tickD p past alarm m ts ref i := rfl
theorem DOk.tick {d : Device} (i : In) (h : DOk d) : DOk (tick d i) := by
  obtain ⟨p, past, alarm, m, ts, ref, rfl, h⟩ := h
  rw [tick_dev]
  exact tickD_ok i h
theorem devNew_ok : DOk devNew := ⟨_, _, _, _, _, _, rfl, deviceOk_mk pumpNew_ok rfl menuNew_ok (Nat.zero_le _) (by omega)⟩
theorem DOk.foldl : ∀ (l : List In) {d : Device}, DOk d → DOk (l.foldl Go.Sx.tick d)
  | [], _, h => h
  | i :: l, _, h => DOk.foldl l (h.tick i)
def runD (l : List In) : Device × Bool := if 150 < l.length then (devZero, false) else if l.all inOk = true then (l.foldl tick devNew, true) else (devZero, false)
end Go.Sx
/- A life of the device: what is true behind many ticks. -/
set_option linter.unusedVariables false
set_option linter.unusedSimpArgs false
namespace Go.Sx
open Go.RowKit (wrap64)
def pulses (ts : List Tick) : List Int := ts.map (·.1)
theorem pulses_append (a b : List Tick) : pulses (a ++ b) = pulses a ++ pulses b := by unfold pulses; rw [List.map_append]
theorem pulses_len (a : List Tick) : (pulses a).length = a.length := by unfold pulses; rw [List.length_map]
/-! ### sums of parts -/
theorem sum_drop_le {l : List Int} (n : Nat) (h : ∀ x ∈ l, 0 ≤ x) : (l.drop n).sum ≤ l.sum := by
  have e : l.sum = (l.take n).sum + (l.drop n).sum := by
    rw [← List.sum_append, List.take_append_drop]
  have h2 := sum_nonneg (l := l.take n) (fun x hx => h x (List.mem_of_mem_take hx))
  omega
theorem win_snoc {l : List Int} {n : Int} (h0 : ∀ x ∈ l, 0 ≤ x) (hn : 0 ≤ n) (hr : ((l.reverse).take 9).sum + n ≤ 30) (hw : ∀ i, ((l.drop i).take 10).sum ≤ 30) (i : Nat) : (((l ++ [n]).drop i).take 10).sum ≤ 30 := by
  by_cases h1 : i + 10 ≤ l.length
  · have e : ((l ++ [n]).drop i).take 10 = (l.drop i).take 10 := by
      rw [List.drop_append_of_le_length (by omega), List.take_append_of_le_length (by rw [List.length_drop]; omega)]
    rw [e]; exact hw i
  · by_cases h2 : i ≤ l.length
    · have e : ((l ++ [n]).drop i).take 10 = l.drop i ++ [n] := by
        rw [List.drop_append_of_le_length h2, List.take_of_length_le (by rw [List.length_append, List.length_drop, List.length_singleton]; omega)]
      have e2 : ((l.reverse).take 9).sum = (l.drop (l.length - 9)).sum := by
        rw [List.take_reverse, List.sum_reverse]
      have e3 : l.drop i = (l.drop (l.length - 9)).drop (i - (l.length - 9)) := by
        rw [List.drop_drop]; congr 1; omega
      have h3 := sum_drop_le (i - (l.length - 9)) (l := l.drop (l.length - 9)) (fun x hx => h0 x (List.mem_of_mem_drop hx))
      rw [e, List.sum_append, e3]
      simp only [List.sum_cons, List.sum_nil]
      omega
    · rw [List.drop_of_length_le (by rw [List.length_append, List.length_singleton]; omega)]
      simp
/-! ### the pump's count -/
theorem take_given (p : Pump) (o : Order) : (take p o).1.2.2.2.2.2.2.1 = p.2.2.2.2.2.2.1 := by
  obtain ⟨s, n, d, r, l, b, g, k⟩ := p
  obtain ⟨a, c, e, x⟩ := o
  unfold take
  split
  · cases ht : takeR (s, n, d, r, l, b, g, k) (a, c, e, x) with
    | none => rfl
    | some q =>
      show q.2.2.2.2.2.2.1 = g
      simp only [takeR] at ht
      repeat' split at ht
      all_goals first
        | (obtain rfl := Option.some.inj ht; rfl)
        | cases ht
  · rfl
theorem takeL_given : ∀ (os : List Order) (p : Pump) (r : Int), (takeL os p r).1.2.2.2.2.2.2.1 = p.2.2.2.2.2.2.1
  | [], _, _ => rfl
  | o :: os, p, r => by
    have h := takeL_given os (takeO p o).1 (if (takeO p o).2 = true then r else r + 1)
    have e : (takeO p o).1.2.2.2.2.2.2.1 = p.2.2.2.2.2.2.1 := by
      unfold takeO
      split
      · rfl
      · exact take_given p o
    rw [e] at h
    exact h
theorem behind_given (p : Pump) (m : Menu) (ref : Int) (i : In) : (behind p m ref i).1.2.2.2.2.2.2.1 = p.2.2.2.2.2.2.1 := takeL_given _ p ref
theorem allow_range {past : List Int} {al : Int} (q : Pump) (h : guardOk past al = true) : 0 ≤ allow past al (wants q) ∧ allow past al (wants q) ≤ wants q ∧ allow past al (wants q) ≤ 30 - past.sum ∧ (al ≠ 0 → allow past al (wants q) = 0) := by
  have hs := guardOk_sum h
  have hw := wants_range q
  unfold allow
  split <;> omega
theorem not_runs_wants {q : Pump} (h : ¬ runs q = true) : wants q = 0 := by
  obtain ⟨s, n, d, r, l, b, g, k⟩ := q
  simp only [wants]
  rw [if_neg h]
theorem tickP_given {q : Pump} {past : List Int} {al : Int} (hq : pumpOk q = true) (h : guardOk past al = true) (hg : q.2.2.2.2.2.2.1 ≤ 100000000000) : (tickP q past al).2.2.2.2.2.2.1 = q.2.2.2.2.2.2.1 + allow past al (wants q) := by
  obtain ⟨a1, a2, a3, a4⟩ := allow_range q h
  have hw := wants_range q
  unfold tickP
  split
  · rw [give_given q _ hq]
    split
    · have e : giveN q (allow past al (wants q)) = allow past al (wants q) := by unfold giveN; omega
      rw [e]; omega
    · rename_i hr
      have := not_runs_wants hr
      omega
  · rename_i hz
    have := a4 hz
    omega
/-! ### a life -/
structure Life (n : Nat) (d : Device) : Prop where
  ok : DOk d
  len : d.ticks.length = n
  ref0 : 0 ≤ d.refused
  ref : d.refused ≤ 22 * (n : Int)
  past : d.past = ((pulses d.ticks).reverse).take 9
  rng : ∀ x ∈ pulses d.ticks, 0 ≤ x ∧ x ≤ 30
  win : ∀ i, (((pulses d.ticks).drop i).take 10).sum ≤ 30
  stop : stops d.ticks = true
  given : d.pump.2.2.2.2.2.2.1 = (pulses d.ticks).sum
theorem stops_append (a b : List Tick) : stops (a ++ b) = (stops a && stops b) := by simp [stops]
theorem tickD_live {p : Pump} {past : List Int} {alarm : Int} {m : Menu} {ts : List Tick} {ref : Int} {i : In} (h : deviceOk p past alarm m ts ref = true) (hi : inOk i = true) (hl : ts.length ≠ 200) (hr : ref ≤ 999999900) :
    tickD p past alarm m ts ref i = dev (tickP (behind p m ref i).1 past (feel past alarm i.1 (seenF (ordersOf m i).2))) (pass past (feel past alarm i.1 (seenF (ordersOf m i).2)) (allow past (feel past alarm i.1 (seenF (ordersOf m i).2)) (wants (behind p m ref i).1))) (feel past alarm i.1 (seenF (ordersOf m i).2)) (ordersOf m i).1
      (ts ++ [(allow past (feel past alarm i.1 (seenF (ordersOf m i).2)) (wants (behind p m ref i).1), feel past alarm i.1 (seenF (ordersOf m i).2), (tickP (behind p m ref i).1 past (feel past alarm i.1 (seenF (ordersOf m i).2))).1)]) (behind p m ref i).2 := by
  unfold tickD
  rw [if_pos ⟨h, hi, hl, hr⟩]
theorem sum_le_30 {l : List Int} (h : ∀ x ∈ l, 0 ≤ x ∧ x ≤ 30) : 0 ≤ l.sum ∧ l.sum ≤ 30 * l.length := by
  induction l with
  | nil => simp
  | cons x l ih =>
    have := ih (fun y hy => h y (List.mem_cons_of_mem _ hy))
    have := h x List.mem_cons_self
    simp only [List.sum_cons, List.length_cons]
    omega
theorem Life.tick {n : Nat} {d : Device} (h : Life n d) {i : In} (hi : inOk i = true) (hn : n < 150) : Life (n + 1) (tick d i) := by
  obtain ⟨hok, hlen, href0, href, hpast, hrng, hwin, hstop, hgiven⟩ := h
  have hok2 := hok.tick i
  obtain ⟨p, past, alarm, m, ts, ref, rfl, hd⟩ := hok
  have hlen : ts.length = n := hlen
  have href : ref ≤ 22 * (n : Int) := href
  have href0 : 0 ≤ ref := href0
  have hpast : past = ((pulses ts).reverse).take 9 := hpast
  have hrng : ∀ x ∈ pulses ts, 0 ≤ x ∧ x ≤ 30 := hrng
  have hwin : ∀ i, (((pulses ts).drop i).take 10).sum ≤ 30 := hwin
  have hstop : stops ts = true := hstop
  have hgiven : p.2.2.2.2.2.2.1 = (pulses ts).sum := hgiven
  have hs := sum_le_30 hrng
  rw [pulses_len] at hs
  rw [tick_dev] at hok2 ⊢
  rw [tickD_live hd hi (by omega) (by omega)] at hok2 ⊢
  obtain ⟨q1, q2, q3, q4, q5, q6⟩ := deviceOk_den hd
  obtain ⟨b1, b2, b3⟩ := behind_ok (m := m) (ref := ref) q1 hi
  have bg := behind_given p m ref i
  have hg := guardOk_feel i.1 (seenF (ordersOf m i).2) q2
  generalize feel past alarm i.1 (seenF (ordersOf m i).2) = al at *
  generalize (behind p m ref i).1 = q at *
  generalize (behind p m ref i).2 = ref' at *
  obtain ⟨a1, a2, a3, a4⟩ := allow_range q hg
  have htp := tickP_given b1 hg (by omega)
  have hsum := guardOk_sum hg
  have hw := wants_range q
  generalize allow past al (wants q) = N at *
  have ep : pass past al N = (N :: past).take 9 := by
    unfold pass
    rw [if_pos hg]
    have : min (max N 0) (30 - past.sum) = N := by omega
    rw [this]
  have hpl : pulses (ts ++ [(N, al, (tickP q past al).1)]) = pulses ts ++ [N] := by rw [pulses_append]; rfl
  refine ⟨hok2, ?_, ?_, ?_, ?_, ?_, ?_, ?_, ?_⟩
  · show (ts ++ [(N, al, (tickP q past al).1)]).length = n + 1
    rw [List.length_append, List.length_singleton]; omega
  · show 0 ≤ ref'
    omega
  · show ref' ≤ 22 * ((n + 1 : Nat) : Int)
    omega
  · show pass past al N = ((pulses (ts ++ [(N, al, (tickP q past al).1)])).reverse).take 9
    rw [hpl, ep, hpast, List.reverse_append, List.reverse_singleton, List.singleton_append, List.take_succ_cons, List.take_succ_cons, List.take_take]
    rfl
  · show ∀ x ∈ pulses (ts ++ [(N, al, (tickP q past al).1)]), 0 ≤ x ∧ x ≤ 30
    rw [hpl]
    intro x hx
    rcases List.mem_append.1 hx with hx | hx
    · exact hrng x hx
    · rw [List.mem_singleton] at hx; omega
  · show ∀ i, (((pulses (ts ++ [(N, al, (tickP q past al).1)])).drop i).take 10).sum ≤ 30
    rw [hpl]
    exact win_snoc (fun x hx => (hrng x hx).1) a1 (by rw [← hpast]; omega) hwin
  · show stops (ts ++ [(N, al, (tickP q past al).1)]) = true
    rw [stops_append, hstop, stops_cons]
    have : (al = 0 ∨ N = 0) := by
      by_cases hz : al = 0
      · exact .inl hz
      · exact .inr (a4 hz)
    rw [decide_eq_true this]; rfl
  · show (tickP q past al).2.2.2.2.2.2.1 = (pulses (ts ++ [(N, al, (tickP q past al).1)])).sum
    rw [hpl, List.sum_append, htp, bg, hgiven]
    simp
theorem life_new : Life 0 devNew := by
  refine ⟨devNew_ok, rfl, Int.le_refl _, Int.le_refl _, rfl, ?_, ?_, rfl, rfl⟩
  · intro x hx
    have hx : x ∈ ([] : List Int) := hx
    cases hx
  · intro i
    show ((([] : List Int).drop i).take 10).sum ≤ 30
    simp
theorem Life.foldl : ∀ (l : List In) {n : Nat} {d : Device}, Life n d → l.all inOk = true → n + l.length ≤ 150 → Life (n + l.length) (l.foldl Go.Sx.tick d)
  | [], _, _, h, _, _ => h
  | i :: l, n, d, h, hi, hn => by
    have hi : (inOk i && l.all inOk) = true := hi
    rw [Bool.and_eq_true] at hi
    simp only [List.length_cons] at hn
    have := Life.foldl l (h.tick hi.1 (by omega)) hi.2 (by omega)
    rw [List.length_cons, show n + (l.length + 1) = n + 1 + l.length by omega]
    exact this
theorem life_run {l : List In} (hi : l.all inOk = true) (hn : l.length ≤ 150) : Life l.length (l.foldl tick devNew) := by
  have := life_new.foldl l hi (by omega)
  rwa [Nat.zero_add] at this
theorem runD_ok {l : List In} (hi : l.all inOk = true) (hn : l.length ≤ 150) : runD l = (l.foldl tick devNew, true) := by
  unfold runD
  rw [if_neg (by omega), if_pos hi]
/-! ### what a life is sound for -/
theorem addSat_small {a b : Int} (ha : 0 ≤ a ∧ a ≤ 100000000000) (hb : 0 ≤ b ∧ b ≤ 30) : addSat a b = a + b := by
  unfold addSat
  rw [bnd_id (n := a) (by omega), bnd_id (n := b) (by omega), bnd_id (by omega)]
theorem totalF_sum : ∀ (ts : List Tick) (s : Int), (∀ x ∈ pulses ts, 0 ≤ x ∧ x ≤ 30) → 0 ≤ s → s + 30 * (ts.length : Int) ≤ 100000000000 → totalF ts s = s + (pulses ts).sum
  | [], s, _, _, _ => by simp [totalF, pulses]
  | t :: r, s, h, h0, h1 => by
    have ht : 0 ≤ t.1 ∧ t.1 ≤ 30 := h t.1 (by unfold pulses; exact List.mem_cons_self)
    have hr : ∀ x ∈ pulses r, 0 ≤ x ∧ x ≤ 30 := fun x hx => h x (by unfold pulses at hx ⊢; exact List.mem_cons_of_mem _ hx)
    simp only [List.length_cons] at h1
    have e : pulses (t :: r) = t.1 :: pulses r := rfl
    unfold totalF
    rw [addSat_small (by omega) ht, totalF_sum r _ hr (by omega) (by omega), e, List.sum_cons]
    omega
theorem winF_true : ∀ (ts : List Tick) (s : Int), (∀ x ∈ pulses ts, 0 ≤ x ∧ x ≤ 30) → 0 ≤ s → s + (pulses ts).sum ≤ 30 → winF ts s = true
  | [], _, _, _, _ => rfl
  | t :: r, s, h, h0, h1 => by
    have ht : 0 ≤ t.1 ∧ t.1 ≤ 30 := h t.1 (by unfold pulses; exact List.mem_cons_self)
    have hr : ∀ x ∈ pulses r, 0 ≤ x ∧ x ≤ 30 := fun x hx => h x (by unfold pulses at hx ⊢; exact List.mem_cons_of_mem _ hx)
    have e : pulses (t :: r) = t.1 :: pulses r := rfl
    rw [e, List.sum_cons] at h1
    have hs := sum_le_30 hr
    unfold winF
    rw [addSat_small (by omega) ht, if_neg (by omega)]
    exact winF_true r _ hr (by omega) (by omega)
theorem pulses_take (ts : List Tick) (n : Nat) : pulses (ts.take n) = (pulses ts).take n := by unfold pulses; rw [List.map_take]
theorem pulses_drop (ts : List Tick) (n : Nat) : pulses (ts.drop n) = (pulses ts).drop n := by unfold pulses; rw [List.map_drop]
theorem limF_true : ∀ (ts : List Tick), (∀ x ∈ pulses ts, 0 ≤ x ∧ x ≤ 30) → (∀ i, (((pulses ts).drop i).take 10).sum ≤ 30) → limF ts = true
  | [], _, _ => rfl
  | t :: r, h, hw => by
    have hr : ∀ x ∈ pulses r, 0 ≤ x ∧ x ≤ 30 := fun x hx => h x (by unfold pulses at hx ⊢; exact List.mem_cons_of_mem _ hx)
    have ih := limF_true r hr (fun i => by have := hw (i + 1); exact this)
    have h0 := hw 0
    unfold limF
    rw [ih, Bool.and_true]
    refine winF_true _ 0 (fun x hx => ?_) (Int.le_refl _) ?_
    · rw [pulses_take] at hx
      exact h x (List.mem_of_mem_take hx)
    · rw [pulses_take, Int.zero_add]
      exact h0
theorem Life.lim {n : Nat} {d : Device} (h : Life n d) : limF d.ticks = true := limF_true _ h.rng h.win
theorem Life.total {n : Nat} {d : Device} (h : Life n d) (hn : n ≤ 150) : totalF d.ticks 0 = (pulses d.ticks).sum := by
  rw [totalF_sum _ 0 h.rng (Int.le_refl _) (by rw [h.len]; omega), Int.zero_add]
theorem Life.sound {n : Nat} {d : Device} (h : Life n d) (hn : n ≤ 150) : ∃ p past alarm m ts ref, d = dev p past alarm m ts ref ∧ deviceOk p past alarm m ts ref = true ∧ sound p past alarm m ts ref = true := by
  obtain ⟨p, past, alarm, m, ts, ref, rfl, hd⟩ := h.ok
  refine ⟨p, past, alarm, m, ts, ref, rfl, hd, ?_⟩
  have h1 : limF ts = true := h.lim
  have h2 : stops ts = true := h.stop
  have h3 : totalF ts 0 = (pulses ts).sum := h.total hn
  have h4 : p.2.2.2.2.2.2.1 = (pulses ts).sum := h.given
  unfold Go.Sx.sound
  rw [hd, h1, h2, h3, h4]
  simp
end Go.Sx
/- Alarms that are held over many ticks. -/
set_option linter.unusedVariables false
set_option linter.unusedSimpArgs false
namespace Go.Sx
open Go.RowKit (wrap64)
/-- One tick's alarm, beside what was felt and the alarm ahead. -/
def latC (al bits ahead : Int) (seen : Bool) : Bool := senseOk bits && (senseOk al && (decide (ior .i64 al bits = al) && (seen || decide (ior .i64 al ahead = al))))
def latF : List Tick → List In → Menu → Int → Bool
  | t :: ts, i :: is, m, a => latC t.2.1 i.1 a (seenF (ordersOf m i).2) && latF ts is (ordersOf m i).1 t.2.1
  | _, _, _, _ => true
def latched (ts : List Tick) (is : List In) : Bool := decide (ts.length = is.length) && latF ts is menuNew 0
/-- The ticks that are put to a device's. -/
def newT : Device → List In → List Tick
  | _, [] => []
  | d, i :: l => (allow d.past (feel d.past d.alarm i.1 (seenF (ordersOf d.menu i).2)) (wants (behind d.pump d.menu d.refused i).1), feel d.past d.alarm i.1 (seenF (ordersOf d.menu i).2), (tickP (behind d.pump d.menu d.refused i).1 d.past (feel d.past d.alarm i.1 (seenF (ordersOf d.menu i).2))).1) :: newT (tick d i) l
theorem tick_live {n : Nat} {d : Device} (h : Life n d) {i : In} (hi : inOk i = true) (hn : n < 150) :
    (tick d i).ticks = d.ticks ++ newT d [i] ∧ (tick d i).menu = (ordersOf d.menu i).1 ∧ (tick d i).alarm = feel d.past d.alarm i.1 (seenF (ordersOf d.menu i).2) := by
  obtain ⟨p, past, alarm, m, ts, ref, rfl, hd⟩ := h.ok
  have hlen : ts.length = n := h.len
  have href : ref ≤ 22 * (n : Int) := h.ref
  rw [tick_dev, tickD_live hd hi (by omega) (by omega)]
  exact ⟨rfl, rfl, rfl⟩
theorem foldl_ticks : ∀ (l : List In) {n : Nat} {d : Device}, Life n d → l.all inOk = true → n + l.length ≤ 150 → (l.foldl tick d).ticks = d.ticks ++ newT d l
  | [], _, d, _, _, _ => by simp [newT]
  | i :: l, n, d, h, hi, hn => by
    have hi : (inOk i && l.all inOk) = true := hi
    rw [Bool.and_eq_true] at hi
    simp only [List.length_cons] at hn
    have := foldl_ticks l (h.tick hi.1 (by omega)) hi.2 (by omega)
    rw [List.foldl_cons, this, (tick_live h hi.1 (by omega)).1, List.append_assoc]
    rfl
theorem newT_len : ∀ (d : Device) (l : List In), (newT d l).length = l.length
  | _, [] => rfl
  | d, i :: l => by
    have := newT_len (tick d i) l
    simp only [newT, List.length_cons, this]
theorem or_has : ∀ a b : _root_.Fin 16, (decide (ior .i64 (ior .i64 (a.val : Int) (b.val : Int)) (b.val : Int) = ior .i64 (a.val : Int) (b.val : Int)) && (decide (ior .i64 (ior .i64 (a.val : Int) (b.val : Int)) (a.val : Int) = ior .i64 (a.val : Int) (b.val : Int)) && decide (ior .i64 (b.val : Int) (b.val : Int) = (b.val : Int)))) = true := by decide +kernel
theorem senseOk_den {a : Int} (h : senseOk a = true) : 0 ≤ a ∧ a ≤ 15 := of_decide_eq_true h
theorem or_has' {a b : Int} (ha : senseOk a = true) (hb : senseOk b = true) : ior .i64 (ior .i64 a b) b = ior .i64 a b ∧ ior .i64 (ior .i64 a b) a = ior .i64 a b ∧ ior .i64 b b = b := by
  have ha := senseOk_den ha
  have hb := senseOk_den hb
  have h := or_has ⟨a.toNat, by omega⟩ ⟨b.toNat, by omega⟩
  simp only [Int.toNat_of_nonneg ha.1, Int.toNat_of_nonneg hb.1, Bool.and_eq_true, decide_eq_true_eq] at h
  exact h
theorem latC_feel {past : List Int} {alarm bits : Int} {seen : Bool} (h : guardOk past alarm = true) (hb : senseOk bits = true) : latC (feel past alarm bits seen) bits alarm seen = true := by
  have ha := (guardOk_den h).2.2.2
  obtain ⟨o1, o2, o3⟩ := or_has' ha hb
  unfold latC feel
  rw [if_pos ⟨h, hb⟩, hb]
  cases seen with
  | true =>
    rw [if_pos rfl, hb, decide_eq_true o3]; rfl
  | false =>
    rw [if_neg (by simp), senseOk_or ha hb, decide_eq_true o1, decide_eq_true o2]; rfl
theorem latF_newT : ∀ (l : List In) {n : Nat} {d : Device}, Life n d → l.all inOk = true → n + l.length ≤ 150 → latF (newT d l) l d.menu d.alarm = true
  | [], _, _, _, _, _ => rfl
  | i :: l, n, d, h, hi, hn => by
    have hi : (inOk i && l.all inOk) = true := hi
    rw [Bool.and_eq_true] at hi
    simp only [List.length_cons] at hn
    have ih := latF_newT l (h.tick hi.1 (by omega)) hi.2 (by omega)
    obtain ⟨_, e2, e3⟩ := tick_live h hi.1 (by omega)
    rw [e2, e3] at ih
    have hg : guardOk d.past d.alarm = true := by
      obtain ⟨p, past, alarm, m, ts, ref, rfl, hd⟩ := h.ok
      exact (deviceOk_den hd).2.1
    have hc := latC_feel (seen := seenF (ordersOf d.menu i).2) hg (inOk_den hi.1).1
    show (latC _ i.1 d.alarm _ && latF (newT (tick d i) l) l (ordersOf d.menu i).1 _) = true
    rw [hc, ih]; rfl
theorem latched_run {l : List In} (hi : l.all inOk = true) (hn : l.length ≤ 150) : latched (l.foldl tick devNew).ticks l = true := by
  have e := foldl_ticks l life_new hi (by omega)
  have h := latF_newT l life_new hi (by omega)
  have e0 : devNew.ticks = [] := rfl
  rw [e0, List.nil_append] at e
  unfold latched
  rw [e, newT_len, decide_eq_true rfl]
  exact h
theorem and_or : ∀ a b c : _root_.Fin 16, (decide (iand .i64 (a.val : Int) (ior .i64 (b.val : Int) (c.val : Int)) = ior .i64 (b.val : Int) (c.val : Int)) == (decide (ior .i64 (a.val : Int) (b.val : Int) = (a.val : Int)) && decide (ior .i64 (a.val : Int) (c.val : Int) = (a.val : Int)))) = true := by decide +kernel
theorem and_same : ∀ a b : _root_.Fin 16, (decide (iand .i64 (a.val : Int) (b.val : Int) = (b.val : Int)) == decide (ior .i64 (a.val : Int) (b.val : Int) = (a.val : Int))) = true := by decide +kernel
theorem and_same' {a b : Int} (ha : senseOk a = true) (hb : senseOk b = true) : decide (iand .i64 a b = b) = decide (ior .i64 a b = a) := by
  have ha := senseOk_den ha
  have hb := senseOk_den hb
  have h := and_same ⟨a.toNat, by omega⟩ ⟨b.toNat, by omega⟩
  simp only [Int.toNat_of_nonneg ha.1, Int.toNat_of_nonneg hb.1] at h
  exact eq_of_beq h
theorem and_or' {a b c : Int} (ha : senseOk a = true) (hb : senseOk b = true) (hc : senseOk c = true) : decide (iand .i64 a (ior .i64 b c) = ior .i64 b c) = (decide (ior .i64 a b = a) && decide (ior .i64 a c = a)) := by
  have ha := senseOk_den ha
  have hb := senseOk_den hb
  have hc := senseOk_den hc
  have h := and_or ⟨a.toNat, by omega⟩ ⟨b.toNat, by omega⟩ ⟨c.toNat, by omega⟩
  simp only [Int.toNat_of_nonneg ha.1, Int.toNat_of_nonneg hb.1, Int.toNat_of_nonneg hc.1] at h
  exact eq_of_beq h
end Go.Sx
/- An order's text tells the order. -/
set_option linter.unusedVariables false
set_option linter.unusedSimpArgs false
namespace Go.Sx
open Go.RowKit (wrap64)
theorem byN_bl (s : ByteArray) (i : Nat) : byN s i = (((bl s)[i]?).map UInt8.toNat).getD 0 := by
  unfold byN
  by_cases h : i < s.size
  · rw [dif_pos h]
    have : (bl s)[i]? = some (s[i]'h) := by
      have h2 : i < (bl s).length := by rw [bl_len]; exact h
      rw [List.getElem?_eq_getElem h2]
      rfl
    rw [this]; rfl
  · rw [dif_neg h]
    have : (bl s)[i]? = none := by
      rw [List.getElem?_eq_none]
      rw [bl_len]; omega
    rw [this]; rfl
theorem byN_mid (A V B : ByteArray) (j : Nat) (hj : j < V.size) : byN (A ++ V ++ B) (A.size + j) = byN V j := by
  rw [byN_bl, byN_bl, bl_append, bl_append]
  have h1 : A.size + j < (bl A ++ bl V).length := by rw [List.length_append, bl_len, bl_len]; omega
  rw [List.getElem?_append_left h1, List.getElem?_append_right (by rw [bl_len]; omega), bl_len, Nat.add_sub_cancel_left]
theorem byN_varT (n j : Nat) : byN (varT n) j = ((varL n)[j]?).getD 0 := by
  rw [byN_bl, bl_varT, List.getElem?_map]
  cases h : (varL n)[j]? with
  | none => rfl
  | some x =>
    have hx := varL_le n x (List.mem_of_getElem? h)
    simp only [Option.map_some, Option.getD_some, UInt8.toNat_ofNat']
    omega
theorem varL_one {n : Nat} (h : n ≤ 127) : varL n = [n] := by unfold varL; rw [dif_pos h]
theorem varL_two {n : Nat} (h : 127 < n) (h2 : n ≤ 16383) : varL n = [n % 128 + 128, n / 128] := by
  unfold varL
  rw [dif_neg (by omega), varL_one (by omega)]
theorem size_app3 (A V B : ByteArray) : (A ++ V ++ B).size = A.size + V.size + B.size := by rw [size_append, size_append]
theorem varT_len (n : Nat) : (varT n).size = (varL n).length := by unfold varT; rw [size_bstr, List.length_map]
theorem readV_put (A B : ByteArray) {n : Nat} (h : n ≤ 16383) : readV (A ++ varT n ++ B) (A.size : Int) = ((n : Int), ((A.size + (varT n).size : Nat) : Int), true) := by
  have hs := size_app3 A (varT n) B
  have h1 := varT_size1 n
  unfold readV
  rw [if_pos ⟨by omega, by omega⟩, Int.toNat_natCast]
  have hb := fun j hj => (byN_mid A (varT n) B j hj).trans (byN_varT n j)
  have hl := varT_len n
  generalize A ++ varT n ++ B = s at *
  by_cases hn : n ≤ 127
  · rw [varL_one hn] at hl hb
    have hl : (varT n).size = 1 := hl
    have b0 := hb 0 (by omega)
    have b0 : byN s (A.size + 0) = n := b0
    unfold rdv
    rw [if_pos (by omega), b0, if_neg (by omega), if_neg (by omega)]
    have e : 0 + n % 128 * 128 ^ 0 = n := by omega
    rw [e, hl]
  · rw [varL_two (by omega) h] at hl hb
    have hl : (varT n).size = 2 := hl
    have b0 : byN s (A.size + 0) = n % 128 + 128 := hb 0 (by omega)
    have b1 : byN s (A.size + 1) = n / 128 := hb 1 (by omega)
    unfold rdv
    rw [if_pos (by omega), b0, if_pos (by omega)]
    unfold rdv
    rw [if_pos (by omega), b1, if_neg (by omega)]
    have e : 0 + (n % 128 + 128) % 128 * 128 ^ 0 + n / 128 % 128 * 128 ^ (0 + 1) = n := by omega
    rw [e, if_neg (by omega), hl]
theorem front_app (s : ByteArray) (v : Int) : front (s ++ four v) = s := by
  apply ba_ext
  unfold front
  rw [bl_extract, List.drop_zero, bl_append, size_append, four_size, Nat.add_sub_cancel, size_bl, List.take_left]
theorem unseal_seal {s : ByteArray} (h : s.size ≤ 20000) : unsealT (s ++ four (sumOf s)) = (s, true) := by
  unfold unsealT
  rw [front_app, if_neg (by rw [size_append, four_size]; omega), if_pos ⟨h, rfl⟩]
theorem varT_size2 {n : Nat} (h : n ≤ 16383) : (varT n).size ≤ 2 := by
  rw [varT_len]
  exact varL_long 1 n (by omega)
theorem numberF_put (A B : ByteArray) {n : Nat} (h : n ≤ 16383) : numberF (A ++ varT n ++ B, (A.size : Int), false) = ((n : Int), (A ++ varT n ++ B, ((A.size + (varT n).size : Nat) : Int), false)) := by
  have e := readV_put A B h
  unfold numberF
  simp only [Bool.false_eq_true, if_false]
  rw [e]
  rfl
theorem app_assoc (a b c : ByteArray) : a ++ b ++ c = a ++ (b ++ c) := by
  apply ba_ext
  simp only [bl_append, List.append_assoc]
theorem app_nil (a : ByteArray) : a ++ (⟨#[]⟩ : ByteArray) = a := by
  apply ba_ext
  rw [bl_append, bl_empty, List.append_nil]
theorem numberF_three_put (A : ByteArray) {b c x : Nat} (hA : A.size = 1) (hb : b ≤ 16383) (hc : c ≤ 16383) (hx : x ≤ 16383) :
    numberF (A ++ varT b ++ varT c ++ varT x, 1, false) = ((b : Int), (A ++ varT b ++ varT c ++ varT x, ((1 + (varT b).size : Nat) : Int), false)) ∧
    numberF (A ++ varT b ++ varT c ++ varT x, ((1 + (varT b).size : Nat) : Int), false) = ((c : Int), (A ++ varT b ++ varT c ++ varT x, ((1 + (varT b).size + (varT c).size : Nat) : Int), false)) ∧
    numberF (A ++ varT b ++ varT c ++ varT x, ((1 + (varT b).size + (varT c).size : Nat) : Int), false) = ((x : Int), (A ++ varT b ++ varT c ++ varT x, ((1 + (varT b).size + (varT c).size + (varT x).size : Nat) : Int), false)) := by
  have e1 : A ++ varT b ++ varT c ++ varT x = A ++ varT b ++ (varT c ++ varT x) := app_assoc _ _ _
  have e3 : A ++ varT b ++ varT c ++ varT x = (A ++ varT b ++ varT c) ++ varT x ++ ⟨#[]⟩ := (app_nil _).symm
  have p1 := numberF_put A (varT c ++ varT x) hb
  have p2 := numberF_put (A ++ varT b) (varT x) hc
  have p3 := numberF_put (A ++ varT b ++ varT c) ⟨#[]⟩ hx
  rw [← e1, hA] at p1
  rw [← e3] at p3
  rw [size_append, size_append, hA] at p3
  rw [size_append, hA] at p2
  exact ⟨p1, p2, p3⟩
/-- An order's text is read as the order. -/
theorem readO_order {o : Order} (h : orderOk o = true) : (orderT o).2 = true ∧ (orderT o).1.size ≤ 11 ∧ 5 ≤ (orderT o).1.size ∧ readO (orderT o).1 = (o, true) := by
  obtain ⟨a, b, c, x⟩ := o
  have hp := orderOk_den h
  unfold OrderOkP at hp
  have ha : 1 ≤ a ∧ a ≤ 6 := by omega
  have hb : 0 ≤ b ∧ b ≤ 16383 := by omega
  have hc : 0 ≤ c ∧ c ≤ 16383 := by omega
  have hx : 0 ≤ x ∧ x ≤ 16383 := by omega
  clear hp
  obtain ⟨nb, rfl⟩ := Int.eq_ofNat_of_zero_le hb.1
  obtain ⟨nc, rfl⟩ := Int.eq_ofNat_of_zero_le hc.1
  obtain ⟨nx, rfl⟩ := Int.eq_ofNat_of_zero_le hx.1
  have s1 : (bstr [wr .u8 a]).size = 1 := by rw [size_bstr]; rfl
  have z1 := varT_size2 (n := nb) (by omega)
  have z2 := varT_size2 (n := nc) (by omega)
  have z3 := varT_size2 (n := nx) (by omega)
  obtain ⟨n1, n2, n3⟩ := numberF_three_put (bstr [wr .u8 a]) (b := nb) (c := nc) (x := nx) s1 (by omega) (by omega) (by omega)
  have eo : otext (a, (nb : Int), (nc : Int), (nx : Int)) = bstr [wr .u8 a] ++ varT nb ++ varT nc ++ varT nx := by
    unfold otext
    simp only [Int.toNat_natCast]
  have b0 : byt (bstr [wr .u8 a] ++ varT nb ++ varT nc ++ varT nx) 0 = a := by
    have h1 : byt (bstr [wr .u8 a] ++ varT nb ++ varT nc ++ varT nx) ((0 : Nat) : Int) = (byN (bstr [wr .u8 a] ++ varT nb ++ varT nc ++ varT nx) 0 : Int) := byt_byN _ 0
    have h2 : byN (bstr [wr .u8 a] ++ varT nb ++ varT nc ++ varT nx) 0 = (UInt8.ofNat (wr .u8 a).toNat).toNat := by
      rw [byN_bl]
      simp only [bl_append, List.append_assoc]
      rfl
    have h3 : ((UInt8.ofNat (wr .u8 a).toNat).toNat : Int) = a := by
      rw [wr8, UInt8.toNat_ofNat']
      omega
    have h1 : byt (bstr [wr .u8 a] ++ varT nb ++ varT nc ++ varT nx) 0 = _ := h1
    rw [h1, h2, h3]
  have hsz : (bstr [wr .u8 a] ++ varT nb ++ varT nc ++ varT nx).size = 1 + (varT nb).size + (varT nc).size + (varT nx).size := by
    rw [size_append, size_append, size_append, s1]
  unfold orderT
  rw [if_pos h]
  unfold sealT
  rw [eo]
  generalize bstr [wr .u8 a] ++ varT nb ++ varT nc ++ varT nx = T at *
  have hlt : ¬ 20000 < T.size := by omega
  rw [if_neg hlt]
  refine ⟨rfl, ?_, ?_, ?_⟩
  · show (T ++ four (sumOf T)).size ≤ 11
    rw [size_append, four_size]; omega
  · show 5 ≤ (T ++ four (sumOf T)).size
    rw [size_append, four_size]; omega
  · show readO (T ++ four (sumOf T)) = _
    unfold readO
    rw [unseal_seal (by omega)]
    simp only []
    rw [if_pos ⟨trivial, by omega⟩, n1]
    simp only []
    rw [n2]
    simp only []
    rw [n3]
    simp only []
    rw [if_neg (by simp), if_pos ⟨by rw [hsz], by rw [b0]; exact h⟩, b0]
end Go.Sx
/- A told volume is given. -/
set_option linter.unusedVariables false
set_option linter.unusedSimpArgs false
namespace Go.Sx
open Go.RowKit (wrap64)
def inE : In := (0, ⟨#[]⟩, ⟨#[]⟩)
theorem inE_ok : inOk inE = true := rfl
theorem readO_empty : readO ⟨#[]⟩ = ((0, 0, 0, 0), false) := by
  unfold readO unsealT
  have h : (⟨#[]⟩ : ByteArray).size < 4 := by rw [size_empty]; omega
  rw [if_pos h, if_neg (fun q => by cases q.1)]
theorem ordersOf_empty (m : Menu) : ordersOf m inE = (m, []) := by
  unfold ordersOf
  show (if (readO ⟨#[]⟩).2 = true then _ else pressAll m ⟨#[]⟩) = _
  rw [readO_empty, if_neg (by simp)]
  rfl
theorem behind_empty (p : Pump) (m : Menu) (ref : Int) : behind p m ref inE = (p, ref) := by
  unfold behind
  rw [ordersOf_empty]
  have hz : ¬ (inE.2.2.size ≠ 0 ∧ (readO inE.2.2).2 = false) := fun q => q.1 size_empty
  rw [if_neg hz]
  rfl
theorem feel_empty {past : List Int} (h : guardOk past 0 = true) : feel past 0 0 false = 0 := by
  unfold feel
  rw [if_pos ⟨h, rfl⟩, if_neg (by simp)]
  exact or_zero rfl
theorem tick_empty {p : Pump} {past : List Int} {m : Menu} {ts : List Tick} {ref : Int} (h : deviceOk p past 0 m ts ref = true) (hl : ts.length ≠ 200) (hr : ref ≤ 999999900) :
    tick (dev p past 0 m ts ref) inE = dev (give p (allow past 0 (wants p))) (pass past 0 (allow past 0 (wants p))) 0 m (ts ++ [(allow past 0 (wants p), 0, (give p (allow past 0 (wants p))).1)]) ref := by
  rw [tick_dev, tickD_live h inE_ok hl hr]
  have hg := (deviceOk_den h).2.1
  have e1 : seenF (ordersOf m inE).2 = false := by rw [ordersOf_empty]; rfl
  have e2 : feel past 0 inE.1 false = 0 := feel_empty hg
  rw [e1, e2, behind_empty, ordersOf_empty]
  unfold tickP
  rw [if_pos rfl]
theorem small_sum {l : List Int} (h : ∀ x ∈ l, 0 ≤ x ∧ x ≤ 3) : 0 ≤ l.sum ∧ l.sum ≤ 3 * l.length := by
  induction l with
  | nil => simp
  | cons x l ih =>
    have := ih (fun y hy => h y (List.mem_cons_of_mem _ hy))
    have := h x List.mem_cons_self
    simp only [List.sum_cons, List.length_cons]
    omega
def GivI (num den vol : Int) (j : Nat) (d : Device) : Prop := ∃ s n e r l g past ts, d = dev (s, n, e, r, l, 0, g, 0) past 0 menuNew ts 0 ∧ (∀ x ∈ past, 0 ≤ x ∧ x ≤ 3) ∧
  ((s = 1 ∧ n = num ∧ e = den ∧ r + den * g = (j : Int) * num ∧ l = vol - g ∧ 0 ≤ r ∧ r < den ∧ 0 < l ∧ 0 ≤ g) ∨ (s = 2 ∧ n = 1 ∧ e = 50 ∧ l = 0 ∧ vol ≤ g ∧ 50 * (g - vol) + r ≤ (j : Int) ∧ 0 ≤ r ∧ r < 50))
/-- What the guard lets through of a small want. -/
theorem allow_small {past : List Int} {w : Int} (hg : guardOk past 0 = true) (hp : ∀ x ∈ past, 0 ≤ x ∧ x ≤ 3) (hw : 0 ≤ w ∧ w ≤ 3) : allow past 0 w = w ∧ (∀ x ∈ pass past 0 w, 0 ≤ x ∧ x ≤ 3) := by
  have h1 := (guardOk_den hg).1
  have h2 := small_sum hp
  constructor
  · unfold allow
    rw [if_pos ⟨hg, rfl⟩]
    omega
  · unfold pass
    rw [if_pos hg]
    intro x hx
    have hx := List.mem_of_mem_take hx
    rcases List.mem_cons.1 hx with hx | hx
    · omega
    · exact hp x hx
theorem mul_step {den g G r num r' : Int} {j : Nat} (h : r + den * g = (j : Int) * num) (hd : r + num = den * G + r') : r' + den * (g + G) = ((j + 1 : Nat) : Int) * num := by
  have e1 : ((j + 1 : Nat) : Int) * num = (j : Int) * num + num := by
    rw [Int.natCast_succ, Int.add_mul, Int.one_mul]
  rw [e1, ← h, Int.mul_add]
  omega
theorem GivI.step {num den vol : Int} (hv : 1 ≤ vol ∧ vol ≤ 60) {j : Nat} (hj : j < 150) {d : Device} (h : GivI num den vol j d) (hL : Life j d) : GivI num den vol (j + 1) (tick d inE) := by
  obtain ⟨s, n, e, r, l, g, past, ts, rfl, hp, hc⟩ := h
  have hlen : ts.length = j := hL.len
  have hd : deviceOk (s, n, e, r, l, 0, g, 0) past 0 menuNew ts 0 = true := by
    obtain ⟨p', past', al', m', ts', ref', he, hd⟩ := hL.ok
    have e1 : (s, n, e, r, l, 0, g, 0) = p' := congrArg Device.pump he
    have e2 : past = past' := congrArg Device.past he
    have e3 : (0 : Int) = al' := congrArg Device.alarm he
    have e4 : menuNew = m' := congrArg Device.menu he
    have e5 : ts = ts' := congrArg Device.ticks he
    have e6 : (0 : Int) = ref' := congrArg Device.refused he
    subst e1 e2 e3 e4 e5 e6
    exact hd
  rw [tick_empty hd (by omega) (by omega)]
  obtain ⟨q1, q2, _⟩ := deviceOk_den hd
  have hpok := pumpOk_den q1
  have hs : s = 1 ∨ s = 2 := by
    rcases hc with hc | hc
    · exact .inl hc.1
    · exact .inr hc.1
  have hr : runs (s, n, e, r, l, 0, g, 0) = true := by
    unfold runs
    rw [q1, decide_eq_true hs]; rfl
  have hrate : rateOk n e r = true := decide_eq_true hpok.2.1
  have hrd := rateOk_den hrate
  have hG := stepGives_range hrate hpok.2.2.1
  have hw := wants_runs hr
  have eG : stepGives n e r = (r + n) / e := by unfold stepGives; rw [if_pos hrate]
  have eR : stepRest n e r = (r + n) % e := by unfold stepRest; rw [if_pos hrate]
  have hdm := Int.mul_ediv_add_emod (r + n) e
  have hR1 := Int.emod_nonneg (r + n) (show e ≠ 0 by omega)
  have hR2 := Int.emod_lt_of_pos (r + n) (show 0 < e by omega)
  rw [← eG] at hdm
  rw [← eR] at hdm hR1 hR2
  rcases hc with ⟨rfl, rfl, rfl, hi, rfl, h0, h1, h2, h3⟩ | ⟨rfl, rfl, rfl, rfl, hi, h1, h2, h3⟩
  · have hw : wants (1, n, e, r, vol - g, 0, g, 0) = min (stepGives n e r) (vol - g) := by rw [hw, if_pos rfl]; omega
    obtain ⟨a1, a2⟩ := allow_small (w := wants (1, n, e, r, vol - g, 0, g, 0)) q2 hp (by omega)
    rw [a1]
    have eN : giveN (1, n, e, r, vol - g, 0, g, 0) (wants (1, n, e, r, vol - g, 0, g, 0)) = min (stepGives n e r) (vol - g) := by unfold giveN; omega
    have eB : giveB (1, n, e, r, vol - g, 0, g, 0) (wants (1, n, e, r, vol - g, 0, g, 0)) = 0 := by
      unfold giveB
      rw [eN]
      show min _ (min (0 : Int) 3) = 0
      omega
    have eg : give (1, n, e, r, vol - g, 0, g, 0) (wants (1, n, e, r, vol - g, 0, g, 0)) = (if (1 : Int) = 1 ∧ vol - g - (min (stepGives n e r) (vol - g) - 0) = 0 then (2, 1, 50, 0, 0, 0 - 0, min (g + min (stepGives n e r) (vol - g)) 1000000000000, 0)
       else (1, n, e, stepRest n e r, (if (1 : Int) = 1 then vol - g - (min (stepGives n e r) (vol - g) - 0) else vol - g), 0 - 0, min (g + min (stepGives n e r) (vol - g)) 1000000000000, 0)) := by
      unfold give
      simp only []
      rw [if_pos hr, eN, eB]
    generalize hgv : give (1, n, e, r, vol - g, 0, g, 0) (wants (1, n, e, r, vol - g, 0, g, 0)) = q at *
    by_cases hz : vol - g - (min (stepGives n e r) (vol - g) - 0) = 0
    · rw [if_pos ⟨rfl, hz⟩] at eg
      have e5 : min (g + min (stepGives n e r) (vol - g)) 1000000000000 = vol := by omega
      rw [e5] at eg
      subst eg
      exact ⟨2, 1, 50, 0, 0, vol, _, _, rfl, a2, .inr ⟨rfl, rfl, rfl, rfl, Int.le_refl _, by omega, by omega, by omega⟩⟩
    · rw [if_neg (fun q => hz q.2), if_pos rfl] at eg
      have e5 : min (stepGives n e r) (vol - g) = stepGives n e r := by omega
      rw [e5] at eg hz
      have e6 : min (g + stepGives n e r) 1000000000000 = g + stepGives n e r := by omega
      rw [e6] at eg
      subst eg
      have hms := mul_step hi hdm.symm
      refine ⟨1, n, e, stepRest n e r, vol - g - (stepGives n e r - 0), g + stepGives n e r, _, _, rfl, a2, .inl ⟨rfl, rfl, rfl, hms, by omega, hR1, hR2, by omega, by omega⟩⟩
  · have hw : wants (2, 1, 50, r, 0, 0, g, 0) = stepGives 1 50 r := by
      rw [hw, if_neg (by omega)]
      omega
    obtain ⟨a1, a2⟩ := allow_small (w := wants (2, 1, 50, r, 0, 0, g, 0)) q2 hp (by omega)
    rw [a1]
    have eN : giveN (2, 1, 50, r, 0, 0, g, 0) (wants (2, 1, 50, r, 0, 0, g, 0)) = stepGives 1 50 r := by unfold giveN; omega
    have eB : giveB (2, 1, 50, r, 0, 0, g, 0) (wants (2, 1, 50, r, 0, 0, g, 0)) = 0 := by
      unfold giveB
      rw [eN]
      show min _ (min (0 : Int) 3) = 0
      omega
    have eg : give (2, 1, 50, r, 0, 0, g, 0) (wants (2, 1, 50, r, 0, 0, g, 0)) = (2, 1, 50, stepRest 1 50 r, 0, 0, g + stepGives 1 50 r, 0) := by
      unfold give
      simp only []
      rw [if_pos hr, eN, eB, if_neg (by omega), if_neg (by omega)]
      have e6 : min (g + stepGives 1 50 r) 1000000000000 = g + stepGives 1 50 r := by omega
      rw [e6]
      rfl
    generalize hgv : give (2, 1, 50, r, 0, 0, g, 0) (wants (2, 1, 50, r, 0, 0, g, 0)) = q at *
    subst eg
    refine ⟨2, 1, 50, stepRest 1 50 r, 0, g + stepGives 1 50 r, _, _, rfl, a2, .inr ⟨rfl, rfl, rfl, rfl, by omega, by omega, hR1, hR2⟩⟩
theorem GivI.many {num den vol : Int} (hv : 1 ≤ vol ∧ vol ≤ 60) : ∀ (k : Nat) {j : Nat} {d : Device}, GivI num den vol j d → Life j d → j + k ≤ 150 → GivI num den vol (j + k) ((List.replicate k inE).foldl tick d)
  | 0, _, _, h, _, _ => h
  | k + 1, j, d, h, hL, hk => by
    have := GivI.many hv k (h.step hv (by omega) hL) (hL.tick inE_ok (by omega)) (by omega)
    rw [List.replicate_succ, List.foldl_cons, show j + (k + 1) = j + 1 + k by omega]
    exact this
/-- The first tick: an order by the link. -/
theorem takeR_basal {num den vol : Int} : takeR (0, 0, 1, 0, 0, 0, 0, 0) (1, num, den, vol) = some (1, num, den, 0, vol, 0, 0, 0) := rfl
theorem take_basal {num den vol : Int} (h : orderOk (1, num, den, vol) = true) : take (0, 0, 1, 0, 0, 0, 0, 0) (1, num, den, vol) = ((1, num, den, 0, vol, 0, 0, 0), true) := by
  unfold take
  rw [if_pos ⟨pumpNew_ok, h⟩, takeR_basal]
def told (num den vol : Int) : Device := dev (1, num, den, 0, vol, 0, 0, 0) [] 0 menuNew [] 0
theorem pump_basal {num den vol : Int} (h : orderOk (1, num, den, vol) = true) : pumpOk (1, num, den, 0, vol, 0, 0, 0) = true := by
  have := take_ok (1, num, den, vol) pumpNew_ok
  rw [take_basal h] at this
  exact this
theorem told_ok {num den vol : Int} (h : orderOk (1, num, den, vol) = true) : deviceOk (1, num, den, 0, vol, 0, 0, 0) [] 0 menuNew [] 0 = true :=
  deviceOk_mk (pump_basal h) rfl menuNew_ok (Nat.zero_le _) (by omega)
theorem told_life {num den vol : Int} (h : orderOk (1, num, den, vol) = true) : Life 0 (told num den vol) := by
  refine ⟨⟨_, _, _, _, _, _, rfl, told_ok h⟩, rfl, Int.le_refl _, Int.le_refl _, rfl, ?_, ?_, rfl, rfl⟩
  · intro x hx
    have hx : x ∈ ([] : List Int) := hx
    cases hx
  · intro i
    show ((([] : List Int).drop i).take 10).sum ≤ 30
    simp
theorem told_GivI {num den vol : Int} (h : orderOk (1, num, den, vol) = true) : GivI num den vol 0 (told num den vol) := by
  have hp := orderOk_den h
  unfold OrderOkP at hp
  exact ⟨1, num, den, 0, vol, 0, [], [], rfl, fun x hx => (by cases hx), .inl ⟨rfl, rfl, rfl, by simp, by omega, by omega, by omega, by omega, by omega⟩⟩
/-- What makes one order, and feels nothing, ticks as if the order had been taken. -/
theorem tick_told {num den vol : Int} (h : orderOk (1, num, den, vol) = true) {i : In} (hi : inOk i = true) (hb : i.1 = 0) (ho : ordersOf menuNew i = (menuNew, [(1, num, den, vol)])) (hl : i.2.2.size ≠ 0 → (readO i.2.2).2 = true) : tick devNew i = tick (told num den vol) inE := by
  have e0 : devNew = dev (0, 0, 1, 0, 0, 0, 0, 0) [] 0 menuNew [] 0 := rfl
  have hd0 : deviceOk (0, 0, 1, 0, 0, 0, 0, 0) [] 0 menuNew [] 0 = true := deviceOk_mk pumpNew_ok rfl menuNew_ok (Nat.zero_le _) (by omega)
  have hb1 : behind (0, 0, 1, 0, 0, 0, 0, 0) menuNew 0 i = ((1, num, den, 0, vol, 0, 0, 0), 0) := by
    unfold behind
    rw [ho]
    have hz : ¬ (i.2.2.size ≠ 0 ∧ (readO i.2.2).2 = false) := fun q => by rw [hl q.1] at q; cases q.2
    rw [if_neg hz]
    have ht : takeL [(1, num, den, vol)] (0, 0, 1, 0, 0, 0, 0, 0) 0 = ((1, num, den, 0, vol, 0, 0, 0), 0) := by
      unfold takeL takeL
      have h5 : takeO (0, 0, 1, 0, 0, 0, 0, 0) (1, num, den, vol) = ((1, num, den, 0, vol, 0, 0, 0), true) := by
        unfold takeO
        rw [if_neg (by show ¬ (1 : Int) = 5; omega)]
        exact take_basal h
      rw [h5, if_pos rfl]
    rw [ht]
  have hs : seenF (ordersOf menuNew i).2 = false := by rw [ho]; rfl
  rw [e0, tick_dev, tickD_live hd0 hi (by simp) (by omega), hb1, hs, ho, hb, feel_empty rfl]
  unfold told
  rw [tick_empty (told_ok h) (by simp) (by omega)]
  unfold tickP
  rw [if_pos rfl]
theorem told_link {num den vol : Int} (h : orderOk (1, num, den, vol) = true) : tick devNew (0, ⟨#[]⟩, (orderT (1, num, den, vol)).1) = tick (told num den vol) inE := by
  obtain ⟨h1, h2, h3, h4⟩ := readO_order h
  refine tick_told h ?_ rfl ?_ (fun _ => by rw [h4])
  · have ht : (orderT (1, num, den, vol)).1.size ≤ 40 := by omega
    unfold inOk
    show (senseOk 0 && (decide ((⟨#[]⟩ : ByteArray).size ≤ 20) && decide ((orderT (1, num, den, vol)).1.size ≤ 40))) = true
    rw [decide_eq_true ht]
    rfl
  · unfold ordersOf
    show (if (readO (orderT (1, num, den, vol)).1).2 = true then _ else _) = _
    rw [h4, if_pos rfl]
    rfl
/-- A device that is told a volume gives it. -/
theorem told_all {num den vol : Int} (h : orderOk (1, num, den, vol) = true) (hv : vol ≤ 60) : ∃ s n e r l g past ts, (List.replicate 149 inE).foldl tick (tick devNew (0, ⟨#[]⟩, (orderT (1, num, den, vol)).1)) = dev (s, n, e, r, l, 0, g, 0) past 0 menuNew ts 0 ∧
    Life 150 (dev (s, n, e, r, l, 0, g, 0) past 0 menuNew ts 0) ∧ g ≤ vol + 3 ∧ (vol * den ≤ 140 * num → 0 ≤ g - vol ∧ l = 0) := by
  have hp := orderOk_den h
  unfold OrderOkP at hp
  have hL := told_life h
  have hG := (told_GivI h).many (by omega) 150 hL (by omega)
  have hL2 := hL.foldl (List.replicate 150 inE) (by simp [inE_ok]) (by simp)
  have e : (List.replicate 150 inE).foldl tick (told num den vol) = (List.replicate 149 inE).foldl tick (tick devNew (0, ⟨#[]⟩, (orderT (1, num, den, vol)).1)) := by
    rw [told_link h, List.replicate_succ, List.foldl_cons]
  rw [e, Nat.zero_add] at hG
  rw [e, List.length_replicate, Nat.zero_add] at hL2
  obtain ⟨s, n, e2, r, l, g, past, ts, he, hpast, hc⟩ := hG
  rw [he] at hL2
  refine ⟨s, n, e2, r, l, g, past, ts, he, hL2, ?_, fun hd => ?_⟩
  · rcases hc with ⟨rfl, rfl, rfl, hi, rfl, h0, h1, h2, h3⟩ | ⟨rfl, rfl, rfl, rfl, hi, h1, h2, h3⟩
    · omega
    · omega
  · rcases hc with ⟨rfl, rfl, rfl, hi, rfl, h0, h1, h2, h3⟩ | ⟨rfl, rfl, rfl, rfl, hi, h1, h2, h3⟩
    · exfalso
      have hm : e2 * (g + 1) ≤ vol * e2 := by
        rw [Int.mul_comm vol]
        exact Int.mul_le_mul_of_nonneg_left (by omega) (by omega)
      rw [Int.mul_add, Int.mul_one] at hm
      have hi : r + e2 * g = 150 * n := hi
      generalize e2 * g = X at *
      generalize vol * e2 = Y at *
      omega
    · omega
end Go.Sx
/- A sum tells any one byte that is turned. -/
set_option linter.unusedVariables false
set_option linter.unusedSimpArgs false
namespace Go.Sx
open Go.RowKit (wrap64)
def rndN (n : Nat) : Nat := if n % 2 = 1 then n / 2 ^^^ 3558460437 else n / 2
def rndsN : Nat → Nat → Nat
  | 0, b => b
  | n + 1, b => rndsN n (rndN b)
def sumN : List UInt8 → Nat → Nat
  | [], b => b
  | x :: r, b => sumN r (rndsN 8 (b ^^^ x.toNat))
theorem ixor_nat (a b : Nat) (ha : a < 4294967296) (hb : b < 4294967296) : ixor .u32 (a : Int) (b : Int) = ((a ^^^ b : Nat) : Int) := by
  have e : ixor .u32 (a : Int) (b : Int) = IntKind.u32.wrap (((BitVec.ofInt 32 (a : Int) ^^^ BitVec.ofInt 32 (b : Int)).toNat : Nat) : Int) := rfl
  have h1 : (BitVec.ofInt 32 (a : Int)).toNat = a := by rw [BitVec.ofInt_natCast, BitVec.toNat_ofNat]; omega
  have h2 : (BitVec.ofInt 32 (b : Int)).toNat = b := by rw [BitVec.ofInt_natCast, BitVec.toNat_ofNat]; omega
  have hl : a ^^^ b < 2 ^ 32 := Nat.xor_lt_two_pow ha hb
  rw [e, BitVec.toNat_xor, h1, h2]
  simp [IntKind.wrap, IntKind.signed, IntKind.bits]
  omega
theorem rndN_lt {n : Nat} (h : n < 4294967296) : rndN n < 4294967296 := by
  unfold rndN
  split
  · exact Nat.xor_lt_two_pow (n := 32) (by omega) (by omega)
  · omega
theorem rnd_nat {n : Nat} (h : n < 4294967296) : rnd (n : Int) = ((rndN n : Nat) : Int) := by
  have e1 : Int.tmod (n : Int) 2 = ((n % 2 : Nat) : Int) := by
    rw [Int.tmod_eq_emod_of_nonneg (by omega)]; omega
  have e2 : wr .u32 (Int.tdiv (n : Int) 2) = ((n / 2 : Nat) : Int) := by
    have : Int.tdiv (n : Int) 2 = ((n / 2 : Nat) : Int) := by
      rw [Int.tdiv_eq_ediv_of_nonneg (by omega)]; omega
    rw [this]
    show ((n / 2 : Nat) : Int) % 4294967296 = _
    omega
  unfold rnd rndN
  rw [e1, e2]
  by_cases hp : n % 2 = 1
  · rw [if_pos (by omega), if_pos hp]
    exact ixor_nat (n / 2) 3558460437 (by omega) (by omega)
  · rw [if_neg (by omega), if_neg hp]
theorem rndsN_lt : ∀ (k : Nat) {n : Nat}, n < 4294967296 → rndsN k n < 4294967296
  | 0, _, h => h
  | k + 1, _, h => rndsN_lt k (rndN_lt h)
theorem rnds_nat : ∀ (k : Nat) {n : Nat}, n < 4294967296 → rnds k (n : Int) = ((rndsN k n : Nat) : Int)
  | 0, _, _ => rfl
  | k + 1, n, h => by
    show rnds k (rnd (n : Int)) = _
    rw [rnd_nat h, rnds_nat k (rndN_lt h)]
    rfl
theorem xor_byte_lt {b : Nat} (x : UInt8) (h : b < 4294967296) : b ^^^ x.toNat < 4294967296 := by
  have := x.toNat_lt
  exact Nat.xor_lt_two_pow (n := 32) h (by omega)
theorem sumN_lt : ∀ (l : List UInt8) {b : Nat}, b < 4294967296 → sumN l b < 4294967296
  | [], _, h => h
  | x :: r, _, h => sumN_lt r (rndsN_lt 8 (xor_byte_lt x h))
theorem sumF_nat : ∀ (l : List UInt8) {b : Nat}, b < 4294967296 → sumF l (b : Int) = ((sumN l b : Nat) : Int)
  | [], _, _ => rfl
  | x :: r, b, h => by
    have hx := x.toNat_lt
    have e : wr .u32 (x.toNat : Int) = ((x.toNat : Nat) : Int) := by
      show ((x.toNat : Nat) : Int) % 4294967296 = _
      omega
    show sumF r (rnds 8 (ixor .u32 (b : Int) (wr .u32 x.toNat))) = _
    rw [e, ixor_nat b x.toNat h (by omega), rnds_nat 8 (xor_byte_lt x h), sumF_nat r (rndsN_lt 8 (xor_byte_lt x h))]
    rfl
theorem xor_cancel {a b c : Nat} (h : a ^^^ c = b ^^^ c) : a = b := by
  have := congrArg (· ^^^ c) h
  simp only [Nat.xor_assoc, Nat.xor_self, Nat.xor_zero] at this
  exact this
theorem testBit_high {n : Nat} (h : n < 2147483648) : n.testBit 31 = false := Nat.testBit_lt_two_pow (by omega)
theorem rndN_inj {a b : Nat} (ha : a < 4294967296) (hb : b < 4294967296) (h : rndN a = rndN b) : a = b := by
  have top : ∀ n : Nat, n < 4294967296 → (rndN n).testBit 31 = decide (n % 2 = 1) := by
    intro n hn
    unfold rndN
    split
    · rename_i hp
      rw [Nat.testBit_xor, testBit_high (by omega), decide_eq_true hp]
      decide
    · rename_i hp
      rw [testBit_high (by omega), decide_eq_false hp]
  have h1 := top a ha
  have h2 := top b hb
  rw [h, h2] at h1
  have hp : a % 2 = 1 ↔ b % 2 = 1 := by
    have := decide_eq_decide.1 h1
    exact this.symm
  unfold rndN at h
  by_cases ho : a % 2 = 1
  · rw [if_pos ho, if_pos (hp.1 ho)] at h
    have := xor_cancel h
    have := hp.1 ho
    omega
  · rw [if_neg ho, if_neg (fun q => ho (hp.2 q))] at h
    have : ¬ b % 2 = 1 := fun q => ho (hp.2 q)
    omega
theorem rndsN_inj : ∀ (k : Nat) {a b : Nat}, a < 4294967296 → b < 4294967296 → rndsN k a = rndsN k b → a = b
  | 0, _, _, _, _, h => h
  | k + 1, _, _, ha, hb, h => rndN_inj ha hb (rndsN_inj k (rndN_lt ha) (rndN_lt hb) h)
theorem sumN_inj : ∀ (l : List UInt8) {a b : Nat}, a < 4294967296 → b < 4294967296 → sumN l a = sumN l b → a = b
  | [], _, _, _, _, h => h
  | x :: r, a, b, ha, hb, h => by
    have h1 := sumN_inj r (rndsN_lt 8 (xor_byte_lt x ha)) (rndsN_lt 8 (xor_byte_lt x hb)) h
    have h2 := rndsN_inj 8 (xor_byte_lt x ha) (xor_byte_lt x hb) h1
    exact xor_cancel h2
theorem sumN_app : ∀ (l m : List UInt8) (b : Nat), sumN (l ++ m) b = sumN m (sumN l b)
  | [], _, _ => rfl
  | x :: r, m, b => sumN_app r m _
/-- One byte turned: another sum. -/
theorem sumN_turn (p r : List UInt8) {x y : UInt8} (hxy : x ≠ y) {b : Nat} (hb : b < 4294967296) : sumN (p ++ x :: r) b ≠ sumN (p ++ y :: r) b := by
  intro h
  rw [sumN_app, sumN_app] at h
  have hp := sumN_lt p hb
  have h1 := sumN_inj r (rndsN_lt 8 (xor_byte_lt x hp)) (rndsN_lt 8 (xor_byte_lt y hp)) h
  have h2 := rndsN_inj 8 (xor_byte_lt x hp) (xor_byte_lt y hp) h1
  have h3 : x.toNat = y.toNat := by
    rw [Nat.xor_comm, Nat.xor_comm _ y.toNat] at h2
    exact xor_cancel h2
  exact hxy (UInt8.toNat_inj.1 h3)
theorem sumOf_nat (s : ByteArray) : sumOf s = ((sumN (bl s) 4294967295 : Nat) : Int) := sumF_nat (bl s) (b := 4294967295) (by omega)
theorem four_inj {a b : Int} (ha : U32 a) (hb : U32 b) (h : four a = four b) : a = b := by
  unfold U32 at ha hb
  have h1 := congrArg bl h
  unfold four at h1
  rw [bl_bstr, bl_bstr] at h1
  simp only [List.map_cons, List.map_nil, List.cons.injEq, and_true] at h1
  obtain ⟨e1, e2, e3, e4⟩ := h1
  have f : ∀ x y : Int, UInt8.ofNat (wr .u8 x).toNat = UInt8.ofNat (wr .u8 y).toNat → x % 256 = y % 256 := by
    intro x y hh
    have h2 := congrArg UInt8.toNat hh
    rw [UInt8.toNat_ofNat', UInt8.toNat_ofNat', wr8, wr8] at h2
    omega
  have e1 := f _ _ e1
  have e2 := f _ _ e2
  have e3 := f _ _ e3
  have e4 := f _ _ e4
  omega
theorem set_split {α : Type} {l : List α} {i : Nat} (h : i < l.length) (y : α) : l = l.take i ++ l[i] :: l.drop (i + 1) ∧ l.set i y = l.take i ++ y :: l.drop (i + 1) := by
  constructor
  · rw [← List.drop_eq_getElem_cons h, List.take_append_drop]
  · exact (List.set_eq_take_append_cons_drop).trans (by rw [if_pos h])
/-- A sealed text with one byte turned is none. -/
theorem unseal_turned {s t : ByteArray} {i : Nat} {y : UInt8} (hs : s.size ≤ 20000) (hi : i < s.size + 4) (ht : bl t = (bl (s ++ four (sumOf s))).set i y) (hy : (bl (s ++ four (sumOf s)))[i]? ≠ some y) : (unsealT t).2 = false := by
  have hsz : t.size = s.size + 4 := by
    rw [size_bl, ht, List.length_set, ← size_bl, size_append, four_size]
  unfold unsealT
  rw [if_neg (by omega)]
  rw [if_neg]
  intro hc
  obtain ⟨_, hc⟩ := hc
  have hfs := front_size t
  have hl := congrArg bl hc
  rw [ht, bl_append, bl_append] at hl
  by_cases hin : i < s.size
  · rw [List.set_append_left _ _ (by rw [← size_bl]; exact hin)] at hl
    obtain ⟨h1, h2⟩ := List.append_inj hl (by rw [List.length_set, ← size_bl, ← size_bl]; omega)
    have h3 := ba_ext h2
    have h4 := four_inj (u32_sumOf _) (u32_sumOf _) h3
    rw [sumOf_nat, sumOf_nat, h1] at h4
    have h5 : sumN ((bl s).set i y) 4294967295 = sumN (bl s) 4294967295 := Int.ofNat_inj.1 h4
    have hlt : i < (bl s).length := by rw [← size_bl]; exact hin
    obtain ⟨g1, g2⟩ := set_split hlt y
    rw [g2] at h5
    have h6 : (bl s)[i] ≠ y := by
      intro e
      apply hy
      rw [bl_append, List.getElem?_append_left hlt, List.getElem?_eq_getElem hlt, e]
    have g3 : sumN (bl s) 4294967295 = sumN ((bl s).take i ++ (bl s)[i] :: (bl s).drop (i + 1)) 4294967295 := by rw [← g1]
    rw [g3] at h5
    exact sumN_turn _ _ (fun e => h6 e.symm) (by omega) h5
  · rw [List.set_append_right _ _ (by rw [← size_bl]; omega)] at hl
    obtain ⟨h1, h2⟩ := List.append_inj hl (by rw [← size_bl, ← size_bl]; omega)
    have h3 := ba_ext h1
    rw [h3] at h2
    have hlt : i - (bl s).length < (bl (four (sumOf s))).length := by rw [← size_bl, ← size_bl, four_size]; omega
    have h4 := congrArg (fun l => l[i - (bl s).length]?) h2
    simp only [List.getElem?_set_self hlt] at h4
    apply hy
    rw [bl_append, List.getElem?_append_right (by rw [← size_bl]; omega)]
    exact h4
end Go.Sx
/- Small things: facts that are hidden, sums of beginnings. -/
set_option linter.unusedVariables false
set_option linter.unusedSimpArgs false
namespace Go.Sx
open Go.RowKit (wrap64)
/-- A fact that is kept, and that a search does not look at. -/
def Hid (p : Prop) : Prop := p
theorem Hid.mk {p : Prop} (h : p) : Hid p := h
theorem Hid.out {p : Prop} (h : Hid p) : p := h
theorem pulses_get {ts : List Tick} {j : Nat} (h : j < ts.length) : (pulses ts)[j]'(by rw [pulses_len]; exact h) = ts[j].1 := by
  unfold pulses
  rw [List.getElem_map]
theorem sum_take_succ {L : List Int} {c : Nat} (h : c < L.length) : (L.take (c + 1)).sum = (L.take c).sum + L[c] := by
  rw [List.take_succ_eq_append_getElem h, List.sum_append]
  simp
theorem take_bound {L : List Int} (h : ∀ x ∈ L, 0 ≤ x ∧ x ≤ 30) (hl : L.length ≤ 200) (j : Nat) : 0 ≤ (L.take j).sum ∧ (L.take j).sum ≤ 6000 := by
  have h1 := sum_le_30 (l := L.take j) (fun x hx => h x (List.mem_of_mem_take hx))
  have h2 : (L.take j).length ≤ L.length := by rw [List.length_take]; omega
  omega
theorem w64s {n : Int} (h0 : 0 ≤ n) (h1 : n ≤ 1000000000000) : wrap64 n = n := w64 (by omega) (by omega)
theorem w64n {n : Nat} (h : n ≤ 1000000000000) : wrap64 (n : Int) = (n : Int) := w64 (by omega) (by omega)
theorem win_bound {L : List Int} (h : ∀ x ∈ L, 0 ≤ x ∧ x ≤ 30) (hw : ∀ i, ((L.drop i).take 10).sum ≤ 30) (i c : Nat) (hc : c ≤ 10) : 0 ≤ ((L.drop i).take c).sum ∧ ((L.drop i).take c).sum ≤ 30 := by
  have h0 : ∀ x ∈ L.drop i, 0 ≤ x := fun x hx => (h x (List.mem_of_mem_drop hx)).1
  have e : (L.drop i).take c = ((L.drop i).take 10).take c := by
    rw [List.take_take, Nat.min_eq_left hc]
  have h1 := sum_take_le c (l := (L.drop i).take 10) (fun x hx => h0 x (List.mem_of_mem_take hx))
  have h2 := sum_nonneg (l := (L.drop i).take c) (fun x hx => h0 x (List.mem_of_mem_take hx))
  have h3 := hw i
  rw [← e] at h1
  omega
end Go.Sx
/- What alarms that are held tell tick by tick. -/
set_option linter.unusedVariables false
set_option linter.unusedSimpArgs false
namespace Go.Sx
open Go.RowKit (wrap64)
theorem zero_or : ∀ a : _root_.Fin 16, ior .i64 0 (a.val : Int) = (a.val : Int) := by decide +kernel
theorem zero_or' {a : Int} (ha : senseOk a = true) : ior .i64 0 a = a := by
  have ha := senseOk_den ha
  have h := zero_or ⟨a.toNat, by omega⟩
  simp only [Int.toNat_of_nonneg ha.1] at h
  exact h
theorem latF_at : ∀ (ts : List Tick) (is : List In) (m : Menu) (a : Int), senseOk a = true → latF ts is m a = true → ts.length = is.length → ∀ (j : Nat) (h1 : j < ts.length) (h2 : j < is.length), ∃ (m' : Menu) (a' : Int), senseOk a' = true ∧ (j = 0 → a' = a) ∧ (∀ i (hi : i + 1 = j), a' = (ts[i]'(by omega)).2.1) ∧ latC ts[j].2.1 is[j].1 a' (seenF (ordersOf m' is[j]).2) = true
  | [], _, _, _, _, _, _, j, h1, _ => by simp at h1
  | _ :: _, [], _, _, _, _, _, j, _, h2 => by simp at h2
  | t :: ts, i :: is, m, a, ha, h, hl, j, h1, h2 => by
    have h : (latC t.2.1 i.1 a (seenF (ordersOf m i).2) && latF ts is (ordersOf m i).1 t.2.1) = true := h
    rw [Bool.and_eq_true] at h
    have ht : senseOk t.2.1 = true := by
      have h3 := h.1
      unfold latC at h3
      simp only [Bool.and_eq_true] at h3
      exact h3.2.1
    cases j with
    | zero => exact ⟨m, a, ha, fun _ => rfl, fun i hi => by omega, h.1⟩
    | succ j =>
      simp only [List.length_cons] at h1 h2 hl
      obtain ⟨m', a', g0, g1, g2, g3⟩ := latF_at ts is _ _ ht h.2 (by omega) j (by omega) (by omega)
      refine ⟨m', a', g0, fun h => by omega, fun k hk => ?_, g3⟩
      cases k with
      | zero => exact g1 (by omega)
      | succ k => exact g2 k (by omega)
theorem latC_den {al bits a : Int} {sn : Bool} (h : latC al bits a sn = true) : senseOk bits = true ∧ senseOk al = true ∧ ior .i64 al bits = al ∧ (sn = true ∨ ior .i64 al a = al) := by
  unfold latC at h
  simp only [Bool.and_eq_true, Bool.or_eq_true, decide_eq_true_eq] at h
  exact h
theorem held_facts {ts : List Tick} {is : List In} (h : latched ts is = true) (hs : stops ts = true) (j : Nat) (h1 : j < ts.length) (h2 : j < is.length) :
    (ts[j].2.1 = 0 ∨ ts[j].1 = 0) ∧ (is[j].1 = 0 ∨ ts[j].2.1 ≠ 0) ∧ (∀ i (hi : i + 1 = j), is[j].2.1 = ⟨#[]⟩ → is[j].2.2 = ⟨#[]⟩ → ((ts[i]'(by omega)).2.1 = 0 ∨ ts[j].2.1 ≠ 0)) := by
  unfold latched at h
  rw [Bool.and_eq_true, decide_eq_true_eq] at h
  obtain ⟨m', a', g0, g1, g2, g3⟩ := latF_at ts is _ _ rfl h.2 h.1 j h1 h2
  obtain ⟨q1, q2, q3, q4⟩ := latC_den g3
  refine ⟨?_, ?_, fun i hi hk hl => ?_⟩
  · unfold stops at hs
    rw [List.all_eq_true] at hs
    exact of_decide_eq_true (hs ts[j] (List.getElem_mem h1))
  · by_cases hz : ts[j].2.1 = 0
    · rw [hz, zero_or' q1] at q3
      exact .inl q3
    · exact .inr hz
  · have hsn : seenF (ordersOf m' is[j]).2 = false := by
      have e : ordersOf m' is[j] = (m', []) := by
        unfold ordersOf
        rw [hk, hl, readO_empty, if_neg (by simp)]
        rfl
      rw [e]; rfl
    rw [hsn] at q4
    have q4 := q4.resolve_left (by simp)
    by_cases hz : ts[j].2.1 = 0
    · rw [hz, zero_or' g0] at q4
      exact .inl ((g2 i hi).symm.trans q4)
    · exact .inr hz
end Go.Sx
/- Lists that are marked. -/
set_option linter.unusedVariables false
set_option linter.unusedSimpArgs false
namespace Go.Sx
open Go.RowKit (wrap64)
theorem getD_set_self {α : Type} {l : List α} {i : Nat} {a d : α} (h : i < l.length) : (l.set i a).getD i d = a := by
  rw [List.getD_eq_getElem?_getD, List.getElem?_set_self h]; rfl
/-- A list whose beginning is filled. -/
def filled {α : Type} (f : Nat → α) (l : List α) (j : Nat) : List α := (List.range j).map f ++ l.drop j
theorem filled_len {α : Type} (f : Nat → α) (l : List α) {j : Nat} (h : j ≤ l.length) : (filled f l j).length = l.length := by
  unfold filled
  rw [List.length_append, List.length_map, List.length_range, List.length_drop]
  omega
theorem filled_zero {α : Type} (f : Nat → α) (l : List α) : filled f l 0 = l := rfl
theorem filled_all {α : Type} (f : Nat → α) (l : List α) : filled f l l.length = (List.range l.length).map f := by
  unfold filled
  rw [List.drop_length, List.append_nil]
theorem filled_set {α : Type} (f : Nat → α) (l : List α) {j : Nat} (h : j < l.length) : (filled f l j).set j (f j) = filled f l (j + 1) := by
  unfold filled
  have hc : l.drop j = l[j] :: l.drop (j + 1) := List.drop_eq_getElem_cons h
  rw [List.set_append_right _ _ (by rw [List.length_map, List.length_range]; omega), List.length_map, List.length_range, Nat.sub_self, hc, List.set_cons_zero, List.range_succ, List.map_append, List.append_assoc]
  rfl
def marksT (m : Int) (n : Nat) : List Tick := (List.range n).map fun (i : Nat) => (m + 3 * (i : Int), m + 3 * (i : Int) + 1, m + 3 * (i : Int) + 2)
theorem marksT_length (m : Int) (n : Nat) : (marksT m n).length = n := by simp [marksT]
theorem marksT_get (m : Int) {n i : Nat} (h : i < n) : (marksT m n)[i]'(by rw [marksT_length]; exact h) = (m + 3 * (i : Int), m + 3 * (i : Int) + 1, m + 3 * (i : Int) + 2) := by simp [marksT]
def marksO (m : Int) (n : Nat) : List Order := (List.range n).map fun (i : Nat) => (m + 4 * (i : Int), m + 4 * (i : Int) + 1, m + 4 * (i : Int) + 2, m + 4 * (i : Int) + 3)
theorem marksO_length (m : Int) (n : Nat) : (marksO m n).length = n := by simp [marksO]
theorem marksO_get (m : Int) {n i : Nat} (h : i < n) : (marksO m n)[i]'(by rw [marksO_length]; exact h) = (m + 4 * (i : Int), m + 4 * (i : Int) + 1, m + 4 * (i : Int) + 2, m + 4 * (i : Int) + 3) := by simp [marksO]
theorem marks_get' (m : Int) {n i : Nat} (h : i < n) : (marks m n)[i]'(by rw [marks_length]; exact h) = m + (i : Int) := by simp [marks]
theorem tickD_len (p : Pump) (past : List Int) (alarm : Int) (m : Menu) (ts : List Tick) (ref : Int) (i : In) :
    ∃ p' past' alarm' m' ts' ref', tickD p past alarm m ts ref i = dev p' past' alarm' m' ts' ref' ∧ past'.length ≤ past.length + 1 ∧ ts'.length ≤ ts.length + 1 := by
  unfold tickD
  split
  · exact ⟨_, _, _, _, _, _, rfl, pass_length _ _ _, by rw [List.length_append, List.length_singleton]; omega⟩
  · exact ⟨_, _, _, _, _, _, rfl, by omega, by omega⟩
theorem w3 {k : Int} (h0 : 0 ≤ k) (h1 : k ≤ 1000000000) : wrap64 (k + 1) = k + 1 ∧ wrap64 (wrap64 (k + 1) + 1) = k + 2 ∧ wrap64 (wrap64 (wrap64 (k + 1) + 1) + 1) = k + 3 ∧ wrap64 (wrap64 (wrap64 (wrap64 (k + 1) + 1) + 1) + 1) = k + 4 := by
  have e1 : wrap64 (k + 1) = k + 1 := w64s (by omega) (by omega)
  have e2 : wrap64 (k + 1 + 1) = k + 2 := by rw [w64s (by omega) (by omega)]; omega
  have e3 : wrap64 (k + 2 + 1) = k + 3 := by rw [w64s (by omega) (by omega)]; omega
  have e4 : wrap64 (k + 3 + 1) = k + 4 := by rw [w64s (by omega) (by omega)]; omega
  rw [e1, e2, e3, e4]
  exact ⟨rfl, rfl, rfl, rfl⟩
theorem ex_pos {α : Type} {c : Prop} [Decidable c] {a b : Option α} {P : α → Prop} (h : c) (k : ∃ r, a = some r ∧ P r) : ∃ r, (if c then a else b) = some r ∧ P r := by rw [if_pos h]; exact k
theorem ex_neg {α : Type} {c : Prop} [Decidable c] {a b : Option α} {P : α → Prop} (h : ¬ c) (k : ∃ r, b = some r ∧ P r) : ∃ r, (if c then a else b) = some r ∧ P r := by rw [if_neg h]; exact k
theorem ex_bind {α β : Type} {g : Option α} {f : α → Option β} {a : α} {P : β → Prop} (h : g = some a) (k : ∃ r, f a = some r ∧ P r) : ∃ r, g.bind f = some r ∧ P r := by rw [h]; exact k
end Go.Sx
/- Texts with one byte turned. -/
set_option linter.unusedVariables false
set_option linter.unusedSimpArgs false
namespace Go.Sx
open Go.RowKit (wrap64)
theorem ixor8 (a b : Nat) (ha : a < 256) (hb : b < 256) : ixor .u8 (a : Int) (b : Int) = ((a ^^^ b : Nat) : Int) := by
  have e : ixor .u8 (a : Int) (b : Int) = IntKind.u8.wrap (((BitVec.ofInt 8 (a : Int) ^^^ BitVec.ofInt 8 (b : Int)).toNat : Nat) : Int) := rfl
  have h1 : (BitVec.ofInt 8 (a : Int)).toNat = a := by rw [BitVec.ofInt_natCast, BitVec.toNat_ofNat]; omega
  have h2 : (BitVec.ofInt 8 (b : Int)).toNat = b := by rw [BitVec.ofInt_natCast, BitVec.toNat_ofNat]; omega
  have hl : a ^^^ b < 2 ^ 8 := Nat.xor_lt_two_pow ha hb
  rw [e, BitVec.toNat_xor, h1, h2]
  simp [IntKind.wrap, IntKind.signed, IntKind.bits]
  omega
theorem byl_bl (s : ByteArray) : byl s = (bl s).map fun b => (b.toNat : Int) := rfl
theorem turn_val {s : ByteArray} {i : Nat} (hi : i < s.size) {v : Nat} (hv0 : 0 < v) (hv : v < 256) : ∃ y, bl (bstr ((byl s).set i (ixor .u8 ((byl s).getD i 0) (v : Int)))) = (bl s).set i y ∧ (bl s)[i]? ≠ some y := by
  have hl : i < (bl s).length := by rw [bl_len]; exact hi
  have hx := UInt8.toNat_lt (bl s)[i]
  have hlt : (bl s)[i].toNat ^^^ v < 256 := Nat.xor_lt_two_pow (n := 8) hx hv
  refine ⟨UInt8.ofNat ((bl s)[i].toNat ^^^ v), ?_, ?_⟩
  · have e1 : (byl s).getD i 0 = (((bl s)[i].toNat : Nat) : Int) := by
      rw [byl_bl, List.getD_eq_getElem?_getD, List.getElem?_map, List.getElem?_eq_getElem hl]; rfl
    rw [e1, ixor8 _ _ hx hv, bl_bstr, byl_bl, List.map_set, List.map_map, Int.toNat_natCast]
    congr 1
    have e2 : ((fun n : Int => UInt8.ofNat n.toNat) ∘ fun b : UInt8 => ((b.toNat : Nat) : Int)) = id := by
      funext b
      show UInt8.ofNat ((b.toNat : Nat) : Int).toNat = b
      rw [Int.toNat_natCast, UInt8.ofNat_toNat]
    rw [e2, List.map_id]
  · rw [List.getElem?_eq_getElem hl]
    intro h
    have h := Option.some.inj h
    have h2 := congrArg UInt8.toNat h
    rw [UInt8.toNat_ofNat', Nat.mod_eq_of_lt hlt] at h2
    have h3 : 0 ^^^ (bl s)[i].toNat = v ^^^ (bl s)[i].toNat := by
      rw [Nat.zero_xor, Nat.xor_comm v, ← h2]
    have := xor_cancel h3
    omega
theorem tmod_at {x : Int} (h : 0 ≤ x) (n : Nat) : Int.tmod x (n : Int) = ((x.toNat % n : Nat) : Int) := by
  obtain ⟨m, rfl⟩ := Int.eq_ofNat_of_zero_le h
  rw [Int.tmod_eq_emod_of_nonneg (by omega), Int.toNat_natCast]; rfl
theorem turn_wr {x : Int} (h : 0 ≤ x) : wr .u8 (wrap64 (1 + Int.tmod x 255)) = ((1 + x.toNat % 255 : Nat) : Int) := by
  have e : Int.tmod x 255 = ((x.toNat % 255 : Nat) : Int) := tmod_at h 255
  have hb := Nat.mod_lt x.toNat (show 0 < 255 by decide)
  rw [e]
  generalize x.toNat % 255 = z at hb ⊢
  rw [w64 (by omega) (by omega)]
  show (1 + (z : Int)) % 256 = _
  omega
end Go.Sx
/- Orders there and back. -/
set_option linter.unusedVariables false
set_option linter.unusedSimpArgs false
namespace Go.Sx
open Go.RowKit (wrap64)
theorem orderT_ok (o : Order) : (orderT o).2 = orderOk o := by
  by_cases h : orderOk o = true
  · rw [(readO_order h).1, h]
  · unfold orderT
    rw [if_neg h, Bool.eq_false_iff.2 h]
theorem orderT_size (o : Order) : (orderT o).1.size ≤ 11 := by
  by_cases h : orderOk o = true
  · exact (readO_order h).2.1
  · unfold orderT
    rw [if_neg h]
    exact Nat.zero_le _
theorem readO_back {t : ByteArray} (h : (readO t).2 = true) : (orderT (readO t).1).1 = t := by
  by_cases hu : (unsealT t).2 = true ∧ 0 < (unsealT t).1.size
  case neg =>
    unfold readO at h
    rw [if_neg hu] at h
    cases h
  obtain ⟨hz, hj⟩ := unsealT_ok hu.1
  unfold readO at h ⊢
  rw [if_pos hu] at h ⊢
  have h0 := hu.2
  clear hu
  generalize (unsealT t).1 = s at hz hj h h0 ⊢
  by_cases hb : (numberF (numberF (numberF (s, 1, false)).2).2).2.2.2 = true
  · rw [if_pos hb] at h
    cases h
  rw [if_neg hb] at h ⊢
  have hb' : (numberF (numberF (numberF (s, 1, false)).2).2).2.2.2 = false := by simpa using hb
  obtain ⟨N1, N2, N3, e, r1, r2, r3, r4, le, tx⟩ := numberF_three h0 hb'
  rw [r1, r2, r3, r4] at h ⊢
  by_cases hc : (e : Int) = (s.size : Int) ∧ orderOk (byt s 0, (N1 : Int), (N2 : Int), (N3 : Int)) = true
  · rw [if_pos hc]
    unfold orderT
    rw [if_pos hc.2, tx, (seal_same s e hz le).2.2 (Int.ofNat_inj.1 hc.1)]
    exact hj
  · rw [if_neg hc] at h
    cases h
theorem readO_bent {t : ByteArray} (h : (unsealT t).2 = false) : readO t = ((0, 0, 0, 0), false) := by
  unfold readO
  rw [if_neg (fun q => by rw [h] at q; cases q.1)]
theorem orderT_turned {o : Order} (h : orderOk o = true) {t : ByteArray} {i : Nat} {y : UInt8} (hi : i < (orderT o).1.size) (ht : bl t = (bl (orderT o).1).set i y) (hy : (bl (orderT o).1)[i]? ≠ some y) : (unsealT t).2 = false := by
  have h2 := (readO_order h).1
  unfold orderT at h2 hi ht hy
  rw [if_pos h] at h2 hi ht hy
  unfold sealT at h2 hi ht hy
  by_cases hs : 20000 < (otext o).size
  · rw [if_pos hs] at h2
    cases h2
  · rw [if_neg hs] at hi ht hy
    have hi : i < (otext o ++ four (sumOf (otext o))).size := hi
    rw [size_append, four_size] at hi
    exact unseal_turned (by omega) hi ht hy
end Go.Sx
/- One tick of a new device: an order by keys, by the link, by a spoilt link. -/
set_option linter.unusedVariables false
set_option linter.unusedSimpArgs false
namespace Go.Sx
open Go.RowKit (wrap64)
theorem give_state1 {n d r l b g k m : Int} : 1 ≤ (give (1, n, d, r, l, b, g, k) m).1 := by
  unfold give
  simp only []
  split
  · split
    · show (1 : Int) ≤ 2; decide
    · show (1 : Int) ≤ 1; decide
  · show (1 : Int) ≤ 1; decide
theorem told_state {num den vol : Int} (h : orderOk (1, num, den, vol) = true) : 1 ≤ (tick (told num den vol) inE).1 := by
  have e := tick_empty (told_ok h) (by simp) (by omega)
  unfold told
  rw [e]
  exact give_state1
theorem tick_refused {t : ByteArray} (hz : t.size ≠ 0) (h40 : t.size ≤ 40) (h : (readO t).2 = false) : ∃ past ts, tick devNew (0, ⟨#[]⟩, t) = dev (0, 0, 1, 0, 0, 0, 0, 0) past 0 menuNew ts 1 := by
  have e0 : devNew = dev (0, 0, 1, 0, 0, 0, 0, 0) [] 0 menuNew [] 0 := rfl
  have hd0 : deviceOk (0, 0, 1, 0, 0, 0, 0, 0) [] 0 menuNew [] 0 = true := deviceOk_mk pumpNew_ok rfl menuNew_ok (Nat.zero_le _) (by omega)
  have hi : inOk (0, ⟨#[]⟩, t) = true := by
    unfold inOk
    show (senseOk 0 && (decide ((⟨#[]⟩ : ByteArray).size ≤ 20) && decide (t.size ≤ 40))) = true
    rw [decide_eq_true h40]
    rfl
  have ho : ordersOf menuNew (0, ⟨#[]⟩, t) = (menuNew, []) := by
    unfold ordersOf
    show (if (readO t).2 = true then _ else _) = _
    rw [if_neg (by rw [h]; exact Bool.false_ne_true)]
    rfl
  have hb1 : behind (0, 0, 1, 0, 0, 0, 0, 0) menuNew 0 (0, ⟨#[]⟩, t) = ((0, 0, 1, 0, 0, 0, 0, 0), 1) := by
    unfold behind
    rw [ho]
    rw [if_pos ⟨hz, h⟩]
    rfl
  have hs : seenF (ordersOf menuNew (0, ⟨#[]⟩, t)).2 = false := by rw [ho]; rfl
  have hf : feel [] 0 (0, (⟨#[]⟩ : ByteArray), t).1 false = 0 := feel_empty rfl
  have hp : tickP (0, 0, 1, 0, 0, 0, 0, 0) [] 0 = (0, 0, 1, 0, 0, 0, 0, 0) := rfl
  have e := tickD_live hd0 hi (by simp) (by omega)
  rw [hb1, hs, ho, hf, hp] at e
  exact ⟨_, _, e⟩
theorem links_nums (X Y Z : Int) (hX : 0 ≤ X) (hY : 0 ≤ Y) (hZ : 0 ≤ Z) : ∃ num den vol : Nat, wrap64 (1 + Int.tmod X 9) = (den : Int) ∧ wrap64 (3 * wrap64 (1 + Int.tmod X 9)) = ((3 * den : Nat) : Int) ∧ wrap64 (1 + Int.tmod Y (wrap64 (3 * wrap64 (1 + Int.tmod X 9)))) = (num : Int) ∧ wrap64 (1 + Int.tmod Z 90) = (vol : Int) ∧
    1 ≤ den ∧ den ≤ 9 ∧ 1 ≤ num ∧ num ≤ 3 * den ∧ 1 ≤ vol ∧ vol ≤ 90 := by
  have e1 : Int.tmod X 9 = ((X.toNat % 9 : Nat) : Int) := tmod_at hX 9
  have e3 : Int.tmod Z 90 = ((Z.toNat % 90 : Nat) : Int) := tmod_at hZ 90
  have b1 := Nat.mod_lt X.toNat (show 0 < 9 by decide)
  have b3 := Nat.mod_lt Z.toNat (show 0 < 90 by decide)
  generalize X.toNat % 9 = x at e1 b1
  generalize Z.toNat % 90 = z at e3 b3
  have d1 : wrap64 (1 + Int.tmod X 9) = ((1 + x : Nat) : Int) := by rw [e1, w64 (by omega) (by omega)]; omega
  have d3 : wrap64 (3 * wrap64 (1 + Int.tmod X 9)) = ((3 * (1 + x) : Nat) : Int) := by rw [d1, w64 (by omega) (by omega)]; omega
  have e2 := tmod_at hY (3 * (1 + x))
  have b2 := Nat.mod_lt Y.toNat (show 0 < 3 * (1 + x) by omega)
  generalize Y.toNat % (3 * (1 + x)) = y at e2 b2
  refine ⟨1 + y, 1 + x, 1 + z, d1, d3, ?_, ?_, by omega, by omega, by omega, by omega, by omega, by omega⟩
  · rw [d3, e2, w64 (by omega) (by omega)]; omega
  · rw [e3, w64 (by omega) (by omega)]; omega
theorem links_order {num den vol : Nat} (h : 1 ≤ den ∧ den ≤ 9 ∧ 1 ≤ num ∧ num ≤ 3 * den ∧ 1 ≤ vol ∧ vol ≤ 90) : orderOk (1, (num : Int), (den : Int), (vol : Int)) = true := by
  refine decide_eq_true ?_
  unfold OrderOkP
  omega
theorem told_keys {num den vol : Nat} (h : orderOk (1, (num : Int), (den : Int), (vol : Int)) = true) (h1 : num < 10000) (h2 : den < 10000) (h3 : vol < 10000) :
    tick devNew (0, bn [98] ++ decT num ++ bn [10] ++ decT den ++ bn [10] ++ decT vol ++ bn [10], ⟨#[]⟩) = tick (told num den vol) inE := by
  have z1 := decT_size (n := num)
  have z2 := decT_size (n := den)
  have z3 := decT_size (n := vol)
  have ho := pressAll_basal h1 h2 h3
  rw [if_pos h] at ho
  have hz : (bn [98] ++ decT num ++ bn [10] ++ decT den ++ bn [10] ++ decT vol ++ bn [10]).size ≤ 20 := by
    have y1 : (bn [98]).size = 1 := rfl
    have y2 : (bn [10]).size = 1 := rfl
    simp only [size_append]; omega
  generalize bn [98] ++ decT num ++ bn [10] ++ decT den ++ bn [10] ++ decT vol ++ bn [10] = K at ho hz ⊢
  refine tick_told h ?_ rfl ?_ (fun q => absurd rfl q)
  · unfold inOk
    show (senseOk 0 && (decide (K.size ≤ 20) && decide ((⟨#[]⟩ : ByteArray).size ≤ 40))) = true
    rw [decide_eq_true hz]
    rfl
  · unfold ordersOf
    have hr : (readO (⟨#[]⟩ : ByteArray)).2 = false := rfl
    show (if (readO (⟨#[]⟩ : ByteArray)).2 = true then _ else pressAll menuNew K) = _
    rw [hr, if_neg Bool.false_ne_true, ho]
end Go.Sx
/- Computations that come to something of a kind; kernels and their regions. -/
set_option linter.unusedVariables false
set_option linter.unusedSimpArgs false
namespace Go.Sx
open Go.RowKit (wrap64)
/-! ### what is told of what comes out -/
def Sat {α : Type} (o : Option α) (P : α → Prop) : Prop := ∃ r, o = some r ∧ P r
theorem Sat.ite {α : Type} {c : Prop} [Decidable c] {a b : Option α} {P : α → Prop} (h1 : c → Sat a P) (h2 : ¬ c → Sat b P) : Sat (if c then a else b) P := by
  by_cases h : c
  · rw [if_pos h]; exact h1 h
  · rw [if_neg h]; exact h2 h
theorem Sat.pos {α : Type} {c : Prop} [Decidable c] {a b : Option α} {P : α → Prop} (h : c) (h1 : Sat a P) : Sat (if c then a else b) P := by rw [if_pos h]; exact h1
theorem Sat.neg {α : Type} {c : Prop} [Decidable c] {a b : Option α} {P : α → Prop} (h : ¬ c) (h1 : Sat b P) : Sat (if c then a else b) P := by rw [if_neg h]; exact h1
theorem Sat.bind {α β : Type} {g : Option α} {f : α → Option β} {Q : α → Prop} {P : β → Prop} (h : Sat g Q) (k : ∀ a, Q a → Sat (f a) P) : Sat (g.bind f) P := by
  obtain ⟨a, rfl, ha⟩ := h
  exact k a ha
theorem Sat.eq {α β : Type} {g : Option α} {f : α → Option β} {a : α} {P : β → Prop} (h : g = some a) (k : Sat (f a) P) : Sat (g.bind f) P := by
  subst h
  exact k
theorem Sat.ret {α : Type} {r : α} {P : α → Prop} (h : P r) : Sat (some r) P := ⟨r, rfl, h⟩
theorem Sat.mono {α : Type} {o : Option α} {P Q : α → Prop} (h : Sat o P) (k : ∀ r, P r → Q r) : Sat o Q := by
  obtain ⟨r, h1, h2⟩ := h
  exact ⟨r, h1, k r h2⟩
/-- The same of rounds. -/
def EvS {α : Type} (f : Nat → Option α) (P : α → Prop) : Prop := ∃ r, Ev f r ∧ P r
theorem EvS.ite {α : Type} {c : Prop} [Decidable c] {a b : Nat → Option α} {P : α → Prop} (h1 : c → EvS a P) (h2 : ¬ c → EvS b P) : EvS (fun n => if c then a n else b n) P := by
  by_cases h : c
  · obtain ⟨r, e, p⟩ := h1 h; exact ⟨r, ev_pos h e, p⟩
  · obtain ⟨r, e, p⟩ := h2 h; exact ⟨r, ev_neg h e, p⟩
theorem EvS.pos {α : Type} {c : Prop} [Decidable c] {a b : Nat → Option α} {P : α → Prop} (h : c) (h1 : EvS a P) : EvS (fun n => if c then a n else b n) P := by
  obtain ⟨r, e, p⟩ := h1; exact ⟨r, ev_pos h e, p⟩
theorem EvS.neg {α : Type} {c : Prop} [Decidable c] {a b : Nat → Option α} {P : α → Prop} (h : ¬ c) (h1 : EvS b P) : EvS (fun n => if c then a n else b n) P := by
  obtain ⟨r, e, p⟩ := h1; exact ⟨r, ev_neg h e, p⟩
theorem EvS.bind {α β : Type} {g : Option α} {f : Nat → α → Option β} {Q : α → Prop} {P : β → Prop} (h : Sat g Q) (k : ∀ a, Q a → EvS (fun n => f n a) P) : EvS (fun n => g.bind (f n)) P := by
  obtain ⟨a, ha, hq⟩ := h
  obtain ⟨r, e, p⟩ := k a hq
  exact ⟨r, ev_bind ha e, p⟩
theorem EvS.eq {α β : Type} {g : Option α} {f : Nat → α → Option β} {a : α} {P : β → Prop} (h : g = some a) (k : EvS (fun n => f n a) P) : EvS (fun n => g.bind (f n)) P := by
  obtain ⟨r, e, p⟩ := k
  exact ⟨r, ev_bind h e, p⟩
theorem EvS.ret {α : Type} {r : α} {P : α → Prop} (h : P r) : EvS (fun _ => some r) P := ⟨r, ev_some, h⟩
theorem EvS.step {α : Type} {f g : Nat → Option α} {P : α → Prop} (h : ∀ k, f (k + 1) = g k) (hg : EvS g P) : EvS f P := by
  obtain ⟨r, e, p⟩ := hg
  exact ⟨r, Ev.step h e, p⟩
theorem EvS.mono {α : Type} {f : Nat → Option α} {P Q : α → Prop} (h : EvS f P) (k : ∀ r, P r → Q r) : EvS f Q := by
  obtain ⟨r, h1, h2⟩ := h
  exact ⟨r, h1, k r h2⟩
theorem EvS.cst {α : Type} {o : Option α} {P : α → Prop} (h : Sat o P) : EvS (fun _ => o) P := by
  obtain ⟨r, h1, h2⟩ := h
  exact ⟨r, ev_eq h1, h2⟩
theorem EvS.sat {α β : Type} {f : Nat → α → Option β} {x : α} {P : β → Prop} (h : EvS (fun k => f k x) P) : Sat (evG f x) P := by
  obtain ⟨r, h1, h2⟩ := h
  exact ⟨r, evG_eq h1, h2⟩
/-! ### kernels -/
abbrev Reg := Int × Int
abbrev PartT := Int × (Int × List Int) × Int × Int × Int
abbrev PortT := Int × Int × Int × Int × Int
abbrev RuleT := Int × Int × Int
abbrev LineT := List (Int × Int)
abbrev SetupT := List Reg × List Reg × List PortT × List RuleT × List ByteArray
abbrev KernT := List Reg × List Reg × List PortT × List RuleT × List ByteArray × List Int × List PartT × List LineT × List Int × Int × Bool × List PortT
structure KSm (a0 a1 : List (Int × Int)) (a2 : List (Int × (Int × (Int × (Int × Int))))) (a3 : List (Int × (Int × Int))) (a4 : List ByteArray) (a5 : List Int) (a6 : List (Int × ((Int × List Int) × (Int × (Int × Int))))) (a7 : List (List (Int × Int))) (a8 : List Int) (a9 : Int) (a10 : Bool) (a11 : List (Int × (Int × (Int × (Int × Int))))) : Prop where
  h0 : a0.length ≤ 1048576
  h1 : a1.length ≤ 1048576
  h2 : a2.length ≤ 1048576
  h3 : a3.length ≤ 1048576
  h4 : a4.length ≤ 1048576
  h5 : a5.length ≤ 1048576
  h6 : a6.length ≤ 1048576
  h7 : a7.length ≤ 1048576
  h8 : a8.length ≤ 1048576
  h11 : a11.length ≤ 1048576
  p6 : ∀ x ∈ a6, x.2.1.2.length ≤ 1048576
  p7 : ∀ x ∈ a7, x.length ≤ 1048576
/-- The same, smaller. -/
structure KSS (a0 a1 : List (Int × Int)) (a2 : List (Int × (Int × (Int × (Int × Int))))) (a3 : List (Int × (Int × Int))) (a4 : List ByteArray) (a5 : List Int) (a6 : List (Int × ((Int × List Int) × (Int × (Int × Int))))) (a7 : List (List (Int × Int))) (a8 : List Int) (a9 : Int) (a10 : Bool) (a11 : List (Int × (Int × (Int × (Int × Int))))) : Prop where
  h0 : a0.length ≤ 1000
  h1 : a1.length ≤ 1000
  h2 : a2.length ≤ 1000
  h3 : a3.length ≤ 1000
  h4 : a4.length ≤ 1000
  h5 : a5.length ≤ 1000
  h6 : a6.length ≤ 1000
  h7 : a7.length ≤ 1000
  h8 : a8.length ≤ 1000
  h11 : a11.length ≤ 1000
  p6 : ∀ x ∈ a6, x.2.1.2.length ≤ 1000
  p7 : ∀ x ∈ a7, x.length ≤ 1000
theorem KSS.sm (a0 a1 : List (Int × Int)) (a2 : List (Int × (Int × (Int × (Int × Int))))) (a3 : List (Int × (Int × Int))) (a4 : List ByteArray) (a5 : List Int) (a6 : List (Int × ((Int × List Int) × (Int × (Int × Int))))) (a7 : List (List (Int × Int))) (a8 : List Int) (a9 : Int) (a10 : Bool) (a11 : List (Int × (Int × (Int × (Int × Int))))) (h : KSS a0 a1 a2 a3 a4 a5 a6 a7 a8 a9 a10 a11) : KSm a0 a1 a2 a3 a4 a5 a6 a7 a8 a9 a10 a11 :=
  ⟨Nat.le_trans h.h0 (by decide), Nat.le_trans h.h1 (by decide), Nat.le_trans h.h2 (by decide), Nat.le_trans h.h3 (by decide), Nat.le_trans h.h4 (by decide), Nat.le_trans h.h5 (by decide), Nat.le_trans h.h6 (by decide), Nat.le_trans h.h7 (by decide), Nat.le_trans h.h8 (by decide), Nat.le_trans h.h11 (by decide), fun x hx => Nat.le_trans (h.p6 x hx) (by decide), fun x hx => Nat.le_trans (h.p7 x hx) (by decide)⟩
/-- Regions that lie apart, in the 64 cells. -/
structure RegsP (l : List Reg) : Prop where
  len : 1 ≤ l.length ∧ l.length ≤ 4
  fit : ∀ (i : Nat) (r : Reg), l[i]? = some r → 0 ≤ r.1 ∧ r.1 ≤ 63 ∧ 1 ≤ r.2 ∧ r.1 + r.2 ≤ 64
  apart : ∀ (i j : Nat) (r q : Reg), i < j → l[i]? = some r → l[j]? = some q → r.1 + r.2 ≤ q.1 ∨ q.1 + q.2 ≤ r.1
def PlanP (l : List Reg) : Prop := 1 ≤ l.length ∧ l.length ≤ 12 ∧ ∀ x ∈ l, 1 ≤ x.1 ∧ x.1 ≤ 4
theorem getD_mem {α : Type} {l : List α} {i : Int} {z : α} (h0 : 0 ≤ i) (h : i < (l.length : Int)) : l.getD i.toNat z ∈ l := by
  have hn : i.toNat < l.length := by omega
  have : l.getD i.toNat z = l[i.toNat] := by simp [List.getD_eq_getElem?_getD, hn]
  rw [this]
  exact List.getElem_mem hn
theorem getD_some {α : Type} {l : List α} {i : Nat} {z : α} (h : i < l.length) : l[i]? = some (l.getD (i : Int).toNat z) := by
  rw [getD_lt h]
  exact List.getElem?_eq_getElem h
theorem take_all {α : Type} {P : α → Prop} {l : List α} {i : Nat} {z : α} (h : i < l.length) (h1 : ∀ x ∈ l.take i, P x) (h2 : P (l.getD (i : Int).toNat z)) : ∀ x ∈ l.take (i + 1), P x := by
  intro x hx
  rw [List.take_succ_eq_append_getElem h, List.mem_append, List.mem_singleton] at hx
  rcases hx with hx | hx
  · exact h1 x hx
  · rw [hx]; rw [getD_lt h] at h2; exact h2
theorem take_nxt {α : Type} {l : List α} {i : Nat} {z : α} (h : i < l.length) : l.take i ++ [l.getD (i : Int).toNat z] = l.take (i + 1) := by
  rw [List.take_succ_eq_append_getElem h, getD_lt h]
/-! ### what a turn leaves alone -/
/-- Lines: as many, small as they were. -/
def LnR (a b : List LineT) : Prop := b.length = a.length ∧ ((∀ x ∈ a, x.length ≤ 1000) → ∀ x ∈ b, x.length ≤ 1000)
theorem LnR.refl (a : List LineT) : LnR a a := ⟨rfl, id⟩
theorem LnR.trans {a b c : List LineT} (h : LnR a b) (k : LnR b c) : LnR a c := ⟨k.1.trans h.1, fun q => k.2 (h.2 q)⟩
theorem LnR.set {a : List LineT} {i : Nat} {x : LineT} (hx : (∀ x ∈ a, x.length ≤ 1000) → x.length ≤ 1000) : LnR a (a.set i x) :=
  ⟨List.length_set, fun q y hy => by
    rcases List.mem_or_eq_of_mem_set hy with h | rfl
    · exact q y h
    · exact hx q⟩
/-- Outs: the part's own two alone are written. -/
def OutR (p : Int) (a b : List Int) : Prop := b.length = a.length ∧ ∀ j : Nat, (j : Int) ≠ 2 * p - 2 → (j : Int) ≠ 2 * p - 1 → b[j]? = a[j]?
theorem OutR.refl (p : Int) (a : List Int) : OutR p a a := ⟨rfl, fun _ _ _ => rfl⟩
theorem OutR.trans {p : Int} {a b c : List Int} (h : OutR p a b) (k : OutR p b c) : OutR p a c := ⟨k.1.trans h.1, fun j h1 h2 => (k.2 j h1 h2).trans (h.2 j h1 h2)⟩
theorem OutR.set {p : Int} {a b : List Int} (h : OutR p a b) {k v : Int} (hk : k = 2 * p - 2 ∨ k = 2 * p - 1) (h0 : 0 ≤ k) : OutR p a (b.set k.toNat v) :=
  ⟨by rw [List.length_set]; exact h.1, fun j h1 h2 => by
    rw [List.getElem?_set_ne (fun e => by omega)]
    exact h.2 j h1 h2⟩
/-- A part whose processor is small. -/
def PGood (x : PartT) : Prop := x.2.1.2.length ≤ 1000 ∧ 0 ≤ x.2.1.1
/-- Parts: the part alone is written. -/
def PtR (p : Int) (a b : List PartT) : Prop := b.length = a.length ∧ (∀ j : Nat, (j : Int) ≠ p - 1 → b[j]? = a[j]?) ∧ ((∀ x ∈ a, PGood x) → ∀ x ∈ b, PGood x)
theorem PtR.refl (p : Int) (a : List PartT) : PtR p a a := ⟨rfl, fun _ _ => rfl, id⟩
theorem PtR.trans {p : Int} {a b c : List PartT} (h : PtR p a b) (k : PtR p b c) : PtR p a c := ⟨k.1.trans h.1, fun j h1 => (k.2.1 j h1).trans (h.2.1 j h1), fun q => k.2.2 (h.2.2 q)⟩
theorem PtR.set {p : Int} {a b : List PartT} (h : PtR p a b) {k : Int} {x : PartT} (hk : k = p - 1) (h0 : 0 ≤ k) (hx : (∀ x ∈ a, PGood x) → PGood x) : PtR p a (b.set k.toNat x) :=
  ⟨by rw [List.length_set]; exact h.1, fun j h1 => by
    rw [List.getElem?_set_ne (fun e => by omega)]
    exact h.2.1 j h1, fun q y hy => by
    rcases List.mem_or_eq_of_mem_set hy with h2 | rfl
    · exact h.2.2 q y h2
    · exact hx q⟩
end Go.Sx
