/- Rounds, numbers, loops over lists: what the pure proofs share. -/
import Derived.Test.YtkcfdkfdmglamaaSyZc
set_option linter.unusedVariables false
set_option linter.unusedSimpArgs false
namespace Go.Sx
open Go.RowKit (wrap64)
/-- A contract under another name for what it comes to. -/
theorem CtrOK.nice {P : Program} {f : FuncId} {ak : List AK} {n : Nat} {rk : List OK} {fn : Nat → AKs ak → Option (OKs rk)} {g : AKs ak → Option (OKs rk)} (h : CtrOK P f ⟨ak, n, rk, fn⟩) (hg : ∀ x b, g x = some b → ∃ k, fn k x = some b) : CtrOK P f ⟨ak, n, rk, fun _ => g⟩ := by
  refine ⟨h.1, fun k x b hb => ?_⟩
  obtain ⟨k', hk⟩ := hg x b hb
  exact h.2 k' x b hk
theorem ite_r {α : Sort _} {c : Prop} [Decidable c] {a b r : α} (h1 : c → a = r) (h2 : ¬ c → b = r) : (if c then a else b) = r := by
  by_cases h : c
  · rw [if_pos h]; exact h1 h
  · rw [if_neg h]; exact h2 h
/-! ### rounds -/
/-- From some number of rounds on this is told. -/
def Ev {α : Type} (f : Nat → Option α) (r : α) : Prop := ∃ N, ∀ k, N ≤ k → f k = some r
theorem Ev.now {α : Type} {f : Nat → Option α} {r : α} (h : ∀ k, f k = some r) : Ev f r := ⟨0, fun k _ => h k⟩
theorem Ev.get {α : Type} {f : Nat → Option α} {r : α} (h : Ev f r) : ∃ k, f k = some r := by
  obtain ⟨N, h⟩ := h
  exact ⟨N, h N (Nat.le_refl _)⟩
theorem Ev.step {α : Type} {f g : Nat → Option α} {r : α} (h : ∀ k, f (k + 1) = g k) (hg : Ev g r) : Ev f r := by
  obtain ⟨N, hg⟩ := hg
  refine ⟨N + 1, fun k hk => ?_⟩
  obtain ⟨m, rfl⟩ : ∃ m, k = m + 1 := ⟨k - 1, by omega⟩
  rw [h]
  exact hg m (by omega)
theorem Ev.congr {α : Type} {f g : Nat → Option α} {r : α} (h : ∀ k, f k = g k) (hg : Ev g r) : Ev f r := by
  obtain ⟨N, hg⟩ := hg
  exact ⟨N, fun k hk => (h k).trans (hg k hk)⟩
theorem Ev.cast {α : Type} {f : Nat → Option α} {r r' : α} (h : Ev f r) (e : r = r') : Ev f r' := e ▸ h
theorem ev_pos {α : Type} {c : Prop} [Decidable c] {a b : Nat → Option α} {r : α} (h : c) (k : Ev a r) : Ev (fun n => if c then a n else b n) r :=
  Ev.congr (fun n => if_pos h) k
theorem ev_neg {α : Type} {c : Prop} [Decidable c] {a b : Nat → Option α} {r : α} (h : ¬ c) (k : Ev b r) : Ev (fun n => if c then a n else b n) r :=
  Ev.congr (fun n => if_neg h) k
theorem ev_bind {α β : Type} {g : Option α} {f : Nat → α → Option β} {a : α} {r : β} (h : g = some a) (k : Ev (fun n => f n a) r) : Ev (fun n => g.bind (f n)) r :=
  Ev.congr (fun n => by rw [h]; rfl) k
theorem ev_some {α : Type} {r : α} : Ev (fun _ => some r) r := ⟨0, fun _ _ => rfl⟩
theorem ev_eq {α : Type} {g : Option α} {r : α} (h : g = some r) : Ev (fun _ => g) r := ⟨0, fun _ _ => h⟩
theorem ev_dom {α : Type} {c : Prop} [Decidable c] {a b : Nat → Option α} {r : α} (h1 : c → Ev a r) (h2 : ¬ c → Ev b r) : Ev (fun n => if c then a n else b n) r := by
  by_cases h : c
  · exact ev_pos h (h1 h)
  · exact ev_neg h (h2 h)
/-- What is told from some number of rounds on. -/
noncomputable def evG {α β : Type} (f : Nat → α → Option β) (x : α) : Option β :=
  open Classical in if h : ∃ r, Ev (fun k => f k x) r then some (Classical.choose h) else none
theorem Ev.uniq {α : Type} {f : Nat → Option α} {r r' : α} (h : Ev f r) (h' : Ev f r') : r = r' := by
  obtain ⟨N, h⟩ := h
  obtain ⟨M, h'⟩ := h'
  exact Option.some.inj ((h (max N M) (Nat.le_max_left _ _)).symm.trans (h' (max N M) (Nat.le_max_right _ _)))
theorem evG_eq {α β : Type} {f : Nat → α → Option β} {x : α} {r : β} (h : Ev (fun k => f k x) r) : evG f x = some r := by
  have hx : ∃ r, Ev (fun k => f k x) r := ⟨r, h⟩
  unfold evG
  rw [dif_pos hx]
  congr 1
  exact (Classical.choose_spec hx).uniq h
theorem evG_e {α β : Type} (f : Nat → α → Option β) : ∀ x b, evG f x = some b → ∃ k, f k x = some b := by
  intro x b h
  unfold evG at h
  split at h
  · rename_i hx
    obtain rfl := Option.some.inj h
    exact (Classical.choose_spec hx).get
  · cases h
/-! ### loops -/
/-- A loop over a list, from a place on: what it comes to is told by a function of what is left and of what is carried. -/
theorem list_loop {α σ ρ : Type} (l : List α) (L : Nat → σ → Int → Option ρ) (F : List α → σ → ρ)
    (done : ∀ s, Ev (fun k => L k s (l.length : Int)) (F [] s))
    (step : ∀ (i : Nat) (s : σ) (x : α) (rest : List α), l.drop i = x :: rest → i < l.length → (∀ s', Ev (fun k => L k s' ((i : Int) + 1)) (F rest s')) → Ev (fun k => L k s (i : Int)) (F (x :: rest) s)) :
    ∀ (i : Nat), i ≤ l.length → ∀ s, Ev (fun k => L k s (i : Int)) (F (l.drop i) s) := by
  intro i hi
  obtain ⟨d, hd⟩ : ∃ d, d = l.length - i := ⟨_, rfl⟩
  induction d generalizing i with
  | zero =>
    intro s
    have e : i = l.length := by omega
    subst e
    rw [List.drop_length]
    exact done s
  | succ d ih =>
    intro s
    have hlt : i < l.length := by omega
    have hc : l.drop i = l[i] :: l.drop (i + 1) := List.drop_eq_getElem_cons hlt
    rw [hc]
    refine step i s _ _ hc hlt (fun s' => ?_)
    have := ih (i + 1) (by omega) (by omega) s'
    simpa using this
/-- A loop by a count, with what is true of what is carried. -/
theorem count_loop {σ ρ : Type} (n : Nat) (L : Nat → σ → Int → Option ρ) (I : Nat → σ → Prop) (F : σ → ρ → Prop)
    (done : ∀ s, I n s → ∃ r, Ev (fun k => L k s (n : Int)) r ∧ F s r)
    (step : ∀ (i : Nat) (s : σ), i < n → I i s → ∃ s', I (i + 1) s' ∧ (∀ r, F s' r → F s r) ∧ ∀ r, Ev (fun k => L k s' ((i : Int) + 1)) r → Ev (fun k => L k s (i : Int)) r) :
    ∀ (i : Nat), i ≤ n → ∀ s, I i s → ∃ r, Ev (fun k => L k s (i : Int)) r ∧ F s r := by
  intro i hi
  obtain ⟨d, hd⟩ : ∃ d, d = n - i := ⟨_, rfl⟩
  induction d generalizing i with
  | zero =>
    intro s hs
    have e : i = n := by omega
    subst e
    exact done s hs
  | succ d ih =>
    intro s hs
    obtain ⟨s', h1, h2, h3⟩ := step i s (by omega) hs
    obtain ⟨r, h4, h5⟩ := ih (i + 1) (by omega) (by omega) s' h1
    exact ⟨r, h3 r (by simpa using h4), h2 r h5⟩
/-! ### numbers -/
def I64 (a : Int) : Prop := -9223372036854775808 ≤ a ∧ a ≤ 9223372036854775807
theorem wf64 {a : Int} (h : (Lit.int .i64 a).wf = true) : I64 a := by
  simp only [Lit.wf, IntKind.min, IntKind.max, IntKind.signed, IntKind.bits, Bool.and_eq_true, decide_eq_true_eq] at h
  unfold I64
  simp at h
  omega
theorem wf8 {a : Int} (h : (Lit.int .u8 a).wf = true) : 0 ≤ a ∧ a ≤ 255 := by
  simp only [Lit.wf, IntKind.min, IntKind.max, IntKind.signed, IntKind.bits, Bool.and_eq_true, decide_eq_true_eq] at h
  simp at h
  omega
theorem w64 {n : Int} (h0 : -9223372036854775808 ≤ n) (h1 : n ≤ 9223372036854775807) : wrap64 n = n := by unfold wrap64; omega
theorem w64_succ {i : Nat} (h : i < 9223372036854775807) : wrap64 ((i : Int) + 1) = (i : Int) + 1 := w64 (by omega) (by omega)
theorem w64_range (n : Int) : I64 (wrap64 n) := by unfold wrap64 I64; omega
theorem maxLen_eq : maxLen = 9223372036854775807 := rfl
theorem mx_eq (a b : Int) : mx a b = max a b := by unfold mx; split <;> omega
theorem mn_eq (a b : Int) : mn a b = min a b := by unfold mn; split <;> omega
theorem wr8 (n : Int) : wr .u8 n = n % 256 := rfl
theorem getD_drop {α : Type} {l : List α} {i : Nat} {x z : α} {r : List α} (h : l.drop i = x :: r) : l.getD (i : Int).toNat z = x := by
  have : l[i]? = some x := by
    have h2 : (l.drop i)[0]? = some x := by rw [h]; rfl
    simpa using h2
  simp [List.getD_eq_getElem?_getD, this]
theorem mem_of_drop {α : Type} {l : List α} {i : Nat} {x : α} {r : List α} (h : l.drop i = x :: r) : x ∈ l := by
  have : x ∈ l.drop i := by rw [h]; exact List.mem_cons_self
  exact List.mem_of_mem_drop this
theorem drop_succ_of {α : Type} {l : List α} {i : Nat} {x : α} {r : List α} (h : l.drop i = x :: r) : l.drop (i + 1) = r := by
  rw [← List.drop_drop, h]; rfl
theorem getD_at {α : Type} {l : List α} {i : Nat} {x z : α} (h : l[i]? = some x) : l.getD (i : Int).toNat z = x := by simp [List.getD_eq_getElem?_getD, h]
theorem getD_lt {α : Type} {l : List α} {i : Nat} {z : α} (h : i < l.length) : l.getD (i : Int).toNat z = l[i] := by simp [List.getD_eq_getElem?_getD, h]
/-! ### bytes -/
/-- A text's bytes. -/
def bl (s : ByteArray) : List UInt8 := s.data.toList
theorem bl_len (s : ByteArray) : (bl s).length = s.size := by simp [bl]
theorem byt_lt {s : ByteArray} {i : Nat} (h : i < s.size) : byt s (i : Int) = (((bl s)[i]'(by rw [bl_len]; exact h)).toNat : Int) := by
  unfold byt
  simp [h, bl]
  rfl
theorem byt_drop {s : ByteArray} {i : Nat} {x : UInt8} {r : List UInt8} (h : (bl s).drop i = x :: r) : byt s (i : Int) = (x.toNat : Int) := by
  have hl : i < (bl s).length := by
    rcases Nat.lt_or_ge i (bl s).length with h1 | h1
    · exact h1
    · rw [List.drop_eq_nil_of_le h1] at h; cases h
  rw [byt_lt (by rw [← bl_len]; exact hl)]
  rw [List.drop_eq_getElem_cons hl] at h
  injection h with h _
  rw [h]
/-- A loop over a text's bytes. -/
theorem bytes_loop {σ ρ : Type} (s : ByteArray) (L : Nat → σ → Int → Option ρ) (F : List UInt8 → σ → ρ)
    (done : ∀ z, Ev (fun k => L k z (s.size : Int)) (F [] z))
    (step : ∀ (i : Nat) (z : σ) (x : UInt8) (rest : List UInt8), (bl s).drop i = x :: rest → i < s.size → (∀ z', Ev (fun k => L k z' ((i : Int) + 1)) (F rest z')) → Ev (fun k => L k z (i : Int)) (F (x :: rest) z)) (z : σ) :
    Ev (fun k => L k z 0) (F (bl s) z) := by
  have := list_loop (bl s) L F (by rw [bl_len]; exact done) (fun i z x rest h hi => step i z x rest h (by rw [← bl_len]; exact hi)) 0 (Nat.zero_le _) z
  simpa using this
end Go.Sx
