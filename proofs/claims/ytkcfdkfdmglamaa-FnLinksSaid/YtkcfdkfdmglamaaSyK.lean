/- The continuation style and the direct style tell the same. -/
import Derived.Test.YtkcfdkfdmglamaaSyJ
set_option linter.unusedVariables false
set_option linter.unusedSimpArgs false
namespace Go.Sx
section
variable {R S : Type}
theorem cond_bind {s : SB} {x y : Option R} {f : R → Option S} : (s.cond x y).bind f = s.cond (x.bind f) (y.bind f) := by
  rw [cond_b, cond_b]; split <;> rfl
theorem chks_bind : ∀ (cs : List SB) (x : Option R) (f : R → Option S), (chks cs x).bind f = chks cs (x.bind f)
  | [], _, _ => rfl
  | s :: r, x, f => by
    simp only [chks]
    rw [cond_bind, chks_bind r x f]
    rfl
theorem chks_some : ∀ {cs : List SB} {x : Option R} {r : R}, chks cs x = some r → (∀ s ∈ cs, s.b = true) ∧ x = some r
  | [], _, _, h => ⟨fun _ hs => (by cases hs), h⟩
  | s :: q, x, r, h => by
    simp only [chks, cond_b] at h
    split at h
    · rename_i hs
      obtain ⟨h1, h2⟩ := chks_some h
      exact ⟨fun t ht => (by
        cases ht with
        | head => exact hs
        | tail _ ht => exact h1 t ht), h2⟩
    · cases h
/-- What is known is so. -/
def KnOK (kn : Kn) (σ : St) : Prop := ∀ t b s, kn? kn t = some b → σ.tm t = .a false [.bool s] → s.b = b
theorem KnOK.nil (σ : St) : KnOK [] σ := fun _ _ _ h _ => by cases h
theorem beq_ne {a b : Nat} (h : a ≠ b) : Nat.beq a b = false := by
  cases hb : Nat.beq a b with
  | false => rfl
  | true => exact absurd (Nat.eq_of_beq_eq_true hb) h
theorem beq_self' (a : Nat) : Nat.beq a a = true := Nat.beq_refl a
theorem knOut_other {t d : Nat} (h : t ≠ d) : ∀ kn : Kn, kn? (knOut kn d) t = kn? kn t
  | [] => rfl
  | (e, b) :: r => by
    simp only [knOut]
    by_cases hed : e = d
    · subst hed
      rw [beq_self', cnd_true, knOut_other h r]
      simp only [kn?]
      rw [beq_ne (fun e => h e.symm), cnd_false]
    · rw [beq_ne hed, cnd_false]
      simp only [kn?]
      rw [knOut_other h r]
theorem knOut_same (d : Nat) : ∀ kn : Kn, kn? (knOut kn d) d = none
  | [] => rfl
  | (e, b) :: r => by
    simp only [knOut]
    by_cases hed : e = d
    · subst hed; rw [beq_self', cnd_true, knOut_same e r]
    · rw [beq_ne hed, cnd_false]
      simp only [kn?]
      rw [beq_ne hed, cnd_false, knOut_same d r]
theorem askK_inv {kn : Kn} {x : Operand} {σ : St} {s : SB} {K : Kn → Bool → Option R} {r : R} (h : askK kn x s K = some r) (hk : KnOK kn σ) (hx : ∀ t, x = .tmp t → σ.tm t = .a false [.bool s]) :
    ∃ kn', K kn' s.b = some r ∧ KnOK kn' σ := by
  unfold askK at h
  split at h
  · rename_i t
    split at h
    · rename_i b hb
      have := hk t b s hb (hx t rfl)
      exact ⟨kn, by rw [this]; exact h, hk⟩
    · rw [cond_b] at h
      have key : ∀ b, s.b = b → KnOK ((t, b) :: kn) σ := by
        intro b hb t' b' s' h1 h2
        simp only [kn?] at h1
        by_cases ht : t = t'
        · subst ht
          rw [beq_self', cnd_true] at h1
          injection h1 with h1
          subst h1
          rw [hx t rfl] at h2
          injection h2 with _ h2
          injection h2 with h2 _
          injection h2 with h2
          subst h2
          exact hb
        · rw [beq_ne ht, cnd_false] at h1
          exact hk t' b' s' h1 h2
      split at h
      · rename_i hs; exact ⟨_, by rw [hs]; exact h, key true hs⟩
      · rename_i hs
        have hs' : s.b = false := by simpa using hs
        exact ⟨_, by rw [hs']; exact h, key false hs'⟩
  · rw [cond_b] at h
    split at h
    · rename_i hs; exact ⟨kn, by rw [hs]; exact h, hk⟩
    · rename_i hs
      have hs' : s.b = false := by simpa using hs
      exact ⟨kn, by rw [hs']; exact h, hk⟩
theorem callK_inv {con : Con} {av : Av} {k : Nat} {args : List SV} {nm : Nat} {hp : Hp} {K : SV → Hp → Option R} {r : R} (h : callK con av k args nm hp K = some r) :
    ∃ x b, mAs hp con.ak args = some x ∧ con.fn k x = some b ∧ (((ptrs con.ak args).all (wrOk av) && apN con.ak args) && (freeN hp nm (OK.news con.rk) && Nat.ble (OK.news con.rk) 8)) = true ∧
      K (resV con.nres (inOs args con.nres (ptrs con.ak args) con.rk b nm hp).1) (inOs args con.nres (ptrs con.ak args) con.rk b nm hp).2 = some r := by
  unfold callK at h
  split at h
  · cases h
  · rename_i x hx
    cases hc : (((ptrs con.ak args).all (wrOk av) && apN con.ak args) && (freeN hp nm (OK.news con.rk) && Nat.ble (OK.news con.rk) 8)) with
    | false => rw [hc] at h; simp at h
    | true =>
      rw [hc] at h
      simp only [cnd_true] at h
      cases hf : con.fn k x with
      | none => rw [hf] at h; simp at h
      | some b =>
        rw [hf] at h
        exact ⟨x, b, hx, hf, rfl, h⟩
/-- The three ways of one operation. -/
inductive Ways (C : Ctx) (av : Av) (o : Oper) (nm : Nat) (σ : St) : SV → Hp → Prop
  | pick (c a b : Operand) (s : SB) (ho : o.op = .pick c a b) (hs : ev σ.tm c = .a false [.bool s]) : Ways C av o nm σ (if s.b = true then ev σ.tm a else ev σ.tm b) σ.hp
  | call (f : FuncId) (as : Array Operand) (ts : Array TypeId) (con : Con) (x : AKs con.ak) (b : OKs con.rk) (ho : o.op = .call { callee := .value (.func f), args := as, argTypes := ts }) (hG : C.G f = some con)
      (hx : mAs σ.hp con.ak (as.toList.map (ev σ.tm)) = some x) (hf : con.fn C.k x = some b)
      (hc : (((ptrs con.ak (as.toList.map (ev σ.tm))).all (wrOk av) && apN con.ak (as.toList.map (ev σ.tm))) && (freeN σ.hp nm (OK.news con.rk) && Nat.ble (OK.news con.rk) 8)) = true) :
      Ways C av o nm σ (resV con.nres (inOs (as.toList.map (ev σ.tm)) con.nres (ptrs con.ak (as.toList.map (ev σ.tm))) con.rk b nm σ.hp).1) (inOs (as.toList.map (ev σ.tm)) con.nres (ptrs con.ak (as.toList.map (ev σ.tm))) con.rk b nm σ.hp).2
  | op (cs : List SB) (v : SV) (hp : Hp) (ho : opA C.P av o.op (ev σ.tm) nm σ.hp = some (cs, v, hp)) (hc : ∀ s ∈ cs, s.b = true) : Ways C av o nm σ v hp
theorem execK_inv {C : Ctx} {av : Av} {o : Oper} {nm : Nat} {kn : Kn} {σ : St} {K : Kn → St → Option R} {r : R} (h : execK C av o nm kn σ K = some r) (hk : KnOK kn σ) :
    ∃ v hp kn', Ways C av o nm σ v hp ∧ putK C.N kn' σ hp o.dst v K = some r ∧ KnOK kn' σ := by
  unfold execK at h
  split at h
  · rename_i c a b ho
    split at h
    · rename_i s hs
      obtain ⟨kn', h1, h2⟩ := askK_inv (σ := σ) h hk (fun t ht => by subst ht; exact hs)
      refine ⟨_, _, kn', .pick c a b s ho hs, ?_, h2⟩
      cases hb : s.b with
      | true => rw [hb] at h1; simpa using h1
      | false => rw [hb] at h1; simpa using h1
    · cases h
  · rename_i f as ts ho
    split at h
    · rename_i con hG
      obtain ⟨x, b, hx, hf, hc, h1⟩ := callK_inv h
      exact ⟨_, _, kn, .call f as ts con x b ho hG hx hf hc, h1, hk⟩
    · cases h
  · split at h
    · rename_i cs v hp ho
      obtain ⟨h1, h2⟩ := chks_some h
      exact ⟨_, _, kn, .op cs v hp ho h1, h2, hk⟩
    · cases h
def putT (tm : Nat → SV) (dst : Option Tmp) (v : SV) : Nat → SV :=
  match dst with
  | some d => upd tm d v
  | none => tm
/-- One operation of a region, in the direct style. -/
inductive Step (C : Ctx) (av : Av) (ops : List Oper) (i : Nat) (σ : St) : St → Prop
  | go (o : Oper) (ho : ops[i]? = some o) (hg : o.guard = none ∨ ∃ g want d s, o.guard = some (g, want) ∧ (ops[g]?).bind (·.dst) = some d ∧ σ.tm d = .a false [.bool s] ∧ s.b = want) (v : SV) (hp : Hp)
      (hw : Ways C av o (σ.nx + 8 * i) σ v hp) (hd : ∀ d, o.dst = some d → d < C.N) : Step C av ops i σ ⟨putT σ.tm o.dst v, hp, σ.nx⟩
  | skip (o : Oper) (ho : ops[i]? = some o) (g : Nat) (want : Bool) (d : Nat) (hg : o.guard = some (g, want)) (hd : (ops[g]?).bind (·.dst) = some d) (hs : (∃ s, σ.tm d = .a false [.bool s] ∧ s.b ≠ want) ∨ ∃ xs, σ.tm d = .tup xs)
      (hd : ∀ d, o.dst = some d → d < C.N) : Step C av ops i σ ⟨putT σ.tm o.dst (.tup []), σ.hp, σ.nx⟩
theorem putK_out {N : Nat} {kn : Kn} {σ : St} {hp : Hp} {dst : Option Tmp} {v : SV} {K : Kn → St → Option R} {r : R} (h : putK N kn σ hp dst v K = some r) (hk : KnOK kn σ) :
    (∀ d, dst = some d → d < N) ∧ ∃ kn', K kn' ⟨putT σ.tm dst v, hp, σ.nx⟩ = some r ∧ KnOK kn' ⟨putT σ.tm dst v, hp, σ.nx⟩ := by
  cases dst with
  | none => exact ⟨fun _ h => (by cases h), kn, h, hk⟩
  | some d =>
    simp only [putK] at h
    cases hb : Nat.blt d N with
    | false => rw [hb] at h; simp at h
    | true =>
      rw [hb] at h
      refine ⟨fun d' hd' => by injection hd' with hd'; subst hd'; exact Nat.le_of_ble_eq_true hb, knOut kn d, h, fun t b s h1 h2 => ?_⟩
      by_cases ht : t = d
      · subst ht; rw [knOut_same] at h1; cases h1
      · rw [knOut_other ht] at h1
        have h2' : (upd σ.tm d v) t = .a false [.bool s] := h2
        rw [upd_other _ _ ht] at h2'
        exact hk t b s h1 h2'
theorem stepK_inv {C : Ctx} {av : Av} {ops : List Oper} {i : Nat} {kn : Kn} {σ : St} {K : Kn → St → Option R} {r : R} (h : stepK C av ops i kn σ K = some r) (hk : KnOK kn σ) :
    ∃ σ' kn', Step C av ops i σ σ' ∧ K kn' σ' = some r ∧ KnOK kn' σ' := by
  unfold stepK at h
  split at h
  · cases h
  · rename_i o ho
    have go : ∀ (hg : o.guard = none ∨ ∃ g want d s, o.guard = some (g, want) ∧ (ops[g]?).bind (·.dst) = some d ∧ σ.tm d = .a false [.bool s] ∧ s.b = want) kn, KnOK kn σ → execK C av o (σ.nx + 8 * i) kn σ K = some r →
        ∃ σ' kn', Step C av ops i σ σ' ∧ K kn' σ' = some r ∧ KnOK kn' σ' := by
      intro hg kn hk h
      obtain ⟨v, hp, kn1, hw, h1, hk1⟩ := execK_inv h hk
      obtain ⟨hd, kn2, h2, hk2⟩ := putK_out h1 hk1
      exact ⟨_, kn2, .go o ho hg v hp hw hd, h2, hk2⟩
    split at h
    · rename_i hg
      exact go (.inl hg) kn hk h
    · rename_i g want hg
      split at h
      · cases h
      · rename_i d hd
        have sk : ((∃ s, σ.tm d = .a false [.bool s] ∧ s.b ≠ want) ∨ ∃ xs, σ.tm d = .tup xs) → ∀ kn, KnOK kn σ → putK C.N kn σ σ.hp o.dst (.tup []) K = some r → ∃ σ' kn', Step C av ops i σ σ' ∧ K kn' σ' = some r ∧ KnOK kn' σ' := by
          intro hs kn hk h
          obtain ⟨hdd, kn2, h2, hk2⟩ := putK_out h hk
          exact ⟨_, kn2, .skip o ho g want d hg hd hs hdd, h2, hk2⟩
        split at h
        · rename_i s hs
          obtain ⟨kn', h1, h2⟩ := askK_inv (σ := σ) h hk (fun t ht => by injection ht with ht; subst ht; exact hs)
          cases hw : want with
          | true =>
            subst hw
            cases hb : s.b with
            | true => rw [hb] at h1; exact go (.inr ⟨g, true, d, s, hg, hd, hs, hb⟩) kn' h2 h1
            | false => rw [hb] at h1; exact sk (.inl ⟨s, hs, by rw [hb]; simp⟩) kn' h2 h1
          | false =>
            subst hw
            cases hb : s.b with
            | true => rw [hb] at h1; exact sk (.inl ⟨s, hs, by rw [hb]; simp⟩) kn' h2 h1
            | false => rw [hb] at h1; exact go (.inr ⟨g, false, d, s, hg, hd, hs, hb⟩) kn' h2 h1
        · rename_i xs hs
          exact sk (.inr ⟨xs, hs⟩) kn hk h
        · cases h
/-- A region's operations one behind the other. -/
inductive Steps' (C : Ctx) (av : Nat → Av) (ops : List Oper) : List Nat → St → St → Prop
  | nil (σ : St) : Steps' C av ops [] σ σ
  | cons {i : Nat} {l : List Nat} {σ σ1 σ2 : St} (h : Step C (av i) ops i σ σ1) (r : Steps' C av ops l σ1 σ2) : Steps' C av ops (i :: l) σ σ2
theorem runK_inv {C : Ctx} {av : Nat → Av} {ops : List Oper} {K : St → Option R} {r : R} : ∀ {l : List Nat} {kn : Kn} {σ : St}, runK C av ops l kn σ K = some r → KnOK kn σ → ∃ σ', Steps' C av ops l σ σ' ∧ K σ' = some r
  | [], kn, σ, h, hk => ⟨σ, .nil σ, h⟩
  | i :: l, kn, σ, h, hk => by
    simp only [runK] at h
    obtain ⟨σ1, kn1, h1, h2, h3⟩ := stepK_inv h hk
    obtain ⟨σ2, h4, h5⟩ := runK_inv h2 h3
    exact ⟨σ2, .cons h1 h4, h5⟩
end
end Go.Sx
