/- Code: what the symbolic walk tells is what the machine does. -/
import Derived.Test.YtkcfdkfdmglamaaSyL
set_option linter.unusedVariables false
set_option linter.unusedSimpArgs false
namespace Go.Sx
theorem wp_loop_k {P : Program} {Q : Exit → Act → World → Prop} {a : Act} {w : World} {c : Code} (I : Nat → Act → World → Prop) (n : Nat) (h₀ : I n a w)
    (round : ∀ k a w, I k a w → c.wp P (Exit.then (fun a' w' => ∃ m, m < k ∧ I m a' w') Q) a w) : (Code.loop c).wp P Q a w := by
  intro b k cs
  have key : ∀ n a w, I n a w → ∃ e a' w', Q e a' w' ∧ Arrives P (lone (b.at a (.code c :: .inLoop c :: k)) cs w) b k cs e a' w' := by
    intro n
    induction n using Nat.strongRecOn with
    | _ n ih =>
      intro a w hI
      obtain ⟨e, a₁, w₁, hq, harr⟩ := round n a w hI b (.inLoop c :: k) cs
      cases e with
      | normal =>
        obtain ⟨m, hlt, hI₁⟩ := hq
        obtain ⟨e₂, a₂, w₂, hq₂, harr₂⟩ := ih m hlt a₁ w₁ hI₁
        exact ⟨e₂, a₂, w₂, hq₂, .of_steps (Steps.trans harr (.one step_inLoop)) harr₂⟩
      | exit id => exact ⟨_, a₁, w₁, hq, .pass (x := .inLoop c) rfl (fun _ _ => .inl (by simp)) harr⟩
      | goto l => exact ⟨_, a₁, w₁, hq, .pass (x := .inLoop c) rfl (fun _ _ => .inl (by simp)) harr⟩
      | ret => exact ⟨_, a₁, w₁, hq, .pass (x := .inLoop c) rfl (fun _ _ => .inl (by simp)) harr⟩
      | panic ch => exact ⟨_, a₁, w₁, hq, .pass (x := .inLoop c) rfl (fun _ _ => .inl (by simp)) harr⟩
      | outgrown => exact ⟨_, a₁, w₁, hq, .pass (x := .inLoop c) rfl (fun _ _ => .inl (by simp)) harr⟩
  obtain ⟨e, a', w', hq, harr⟩ := key n a w h₀
  exact ⟨e, a', w', hq, .of_steps (.one step_loop) harr⟩
/-- What a function's walk is made of: all but the rounds. -/
structure Fix (R : Type) where
  P : Program
  N : Nat
  G : FuncId → Option Con
  jn : Nat → Bool
  J : Nat → Nat → St → Option R
section
variable {R : Type}
def Fix.C (F : Fix R) (k : Nat) : Ctx := ⟨F.P, F.N, F.G, k⟩
def Fix.L (F : Fix R) (k : Nat) : Lam R := ⟨F.jn, F.J k⟩
abbrev KK (R : Type) := Nat → Exit → St → Option R
def thenKK (n : Nat → St → Option R) (K : KK R) : KK R := fun k => thenK (n k) (K k)
def inBlkK (id : Nat) (K : KK R) : KK R := fun k => inBlk id (K k)
def denKK (F : Fix R) (c : Code) (K : KK R) : Nat → St → Option R := fun k σ => den (F.C k) (F.L k) c (K k) σ
/-- The places of the labels, and what is walked from there. -/
def sites (F : Fix R) : Code → KK R → List (Nat × (Nat → St → Option R))
  | .seq x y, K => match ckey y with
    | some j => cnd (F.jn j) ((j, denKK F y K) :: (sites F x (thenKK (fun k => F.J k j) K) ++ sites F y K)) (sites F x (thenKK (denKK F y K) K) ++ sites F y K)
    | none => sites F x (thenKK (denKK F y K) K) ++ sites F y K
  | .cond _ x y, K => sites F x K ++ sites F y K
  | .block id c, K => sites F c (inBlkK id K)
  | .loop c, K => match ckey c with
    | some j => (j, denKK F c (thenKK (fun k => F.J k j) K)) :: sites F c (thenKK (fun k => F.J k j) K)
    | none => []
  | _, _ => []
/-- From a label on the walk goes as the label tells. -/
def SiteOK (F : Fix R) (A : Cx) (p : Nat × (Nat → St → Option R)) : Prop :=
  (∀ σ, F.J 0 p.1 σ = none) ∧ ∀ k σ r, F.J (k + 1) p.1 σ = some r → ∃ σ2, (∀ a w, Holds A σ a w → Holds A σ2 a w) ∧ p.2 k σ2 = some r
/-- The order of a region that draws is open. -/
def DrawOK (F : Fix R) (A : Cx) : Prop := ∀ (k : Nat) (id : Nat) (ops : Array Oper) (σ : St) (K : St → Option R) (r : R) (a : Act) (w : World) (Q : Exit → Act → World → Prop),
  regK (F.C k) ops true σ K = some r → Holds A σ a w → (∀ σ' a w, K σ' = some r → Holds A σ' a w → Q .normal a w) → (Code.region id ops true).wp F.P Q a w
theorem range_ops (n : Nat) : List.range n = List.range n := rfl
theorem reg_sound {F : Fix R} {A : Cx} (hG : ∀ f con, F.G f = some con → CtrOK F.P f con) (hN : F.N = A.N) {k id : Nat} {ops : Array Oper} {σ : St} {K : St → Option R} {r : R} {a : Act} {w : World} {Q : Exit → Act → World → Prop}
    (h : regK (F.C k) ops false σ K = some r) (hH : Holds A σ a w) (hQ : ∀ σ' a w, K σ' = some r → Holds A σ' a w → Q .normal a w) : (Code.region id ops false).wp F.P Q a w := by
  simp only [regK] at h
  obtain ⟨σ', h1, h2⟩ := runK_inv h (KnOK.nil σ)
  refine wp_region ?_
  have := steps_sound (A := A) (C := F.C k) (Q := Q) (ops := ops.toList) (σ' := σ') hG hN (fun a w hh => hQ _ a w h2 (holds_nx hh)) h1 hH
  simpa [Fix.C] using this
theorem den_sound {F : Fix R} {A : Cx} (hG : ∀ f con, F.G f = some con → CtrOK F.P f con) (hN : F.N = A.N) (hD : DrawOK F A) {r : R} :
    ∀ (c : Code) (K : KK R) (Q : Exit → Act → World → Prop) (n : Nat), (∀ p ∈ sites F c K, SiteOK F A p) →
      (∀ k, k ≤ n → ∀ e σ a w, K k e σ = some r → Holds A σ a w → Q e a w) →
      ∀ k, k ≤ n → ∀ σ a w, denKK F c K k σ = some r → Holds A σ a w → c.wp F.P Q a w := by
  intro c
  induction c with
  | skip =>
    intro K Q n _ hQ k hk σ a w h hH
    exact wp_skip (hQ k hk _ _ _ _ h hH)
  | region id ops draw =>
    intro K Q n _ hQ k hk σ a w h hH
    cases draw with
    | false => exact reg_sound hG hN h hH (fun σ' a w h' hH' => hQ k hk _ _ _ _ h' hH')
    | true => exact hD k id ops σ _ r a w Q h hH (fun σ' a w h' hH' => hQ k hk _ _ _ _ h' hH')
  | seq x y ihx ihy =>
    intro K Q n hs hQ k hk σ a w h hH
    have plain : (∀ p ∈ sites F x (thenKK (denKK F y K) K) ++ sites F y K, SiteOK F A p) → denKK F x (thenKK (denKK F y K) K) k σ = some r → (Code.seq x y).wp F.P Q a w := by
      intro hs h
      refine wp_seq (ihx (thenKK (denKK F y K) K) _ n (fun p hp => hs p (List.mem_append_left _ hp)) ?_ k hk σ a w h hH)
      intro k' hk' e σ' a' w' h' hH'
      cases e with
      | normal => exact ihy K Q n (fun p hp => hs p (List.mem_append_right _ hp)) hQ k' hk' σ' a' w' h' hH'
      | _ => exact hQ k' hk' _ _ _ _ h' hH'
    unfold denKK at h
    simp only [den] at h
    simp only [sites] at hs
    split at h
    · rename_i j hj
      rw [hj] at hs
      simp only [] at hs
      cases hjn : F.jn j with
      | true =>
        rw [hjn] at hs
        simp only [Fix.L, hjn, cnd_true] at h hs
        have hsite := hs (j, denKK F y K) List.mem_cons_self
        refine wp_seq (ihx (thenKK (fun k => F.J k j) K) _ n (fun p hp => hs p (List.mem_cons_of_mem _ (List.mem_append_left _ hp))) ?_ k hk σ a w h hH)
        intro k' hk' e σ' a' w' h' hH'
        cases e with
        | normal =>
          cases k' with
          | zero =>
            have h0 := hsite.1 σ'
            have h1 : F.J 0 j σ' = some r := h'
            simp only [] at h0
            rw [h0] at h1
            cases h1
          | succ m =>
            obtain ⟨σ2, hh, hd⟩ := hsite.2 m σ' r h'
            exact ihy K Q n (fun p hp => hs p (List.mem_cons_of_mem _ (List.mem_append_right _ hp))) hQ m (by omega) σ2 a' w' hd (hh a' w' hH')
        | _ => exact hQ k' hk' _ _ _ _ h' hH'
      | false =>
        rw [hjn] at hs
        simp only [Fix.L, hjn, cnd_false] at h hs
        exact plain hs h
    · rename_i hj
      rw [hj] at hs
      exact plain hs h
  | cond c x y ihx ihy =>
    intro K Q n hs hQ k hk σ a w h hH
    unfold denKK at h
    simp only [den] at h
    simp only [sites] at hs
    split at h
    · rename_i s hc
      obtain ⟨ν, hH'⟩ := hH
      have hv := ev_rel (a := a) hH'.tm c
      rw [hc] at hv
      refine wp_cond hv.bool ?_
      rw [cond_b] at h
      split at h
      · rename_i hb
        rw [if_pos hb]
        exact ihx K Q n (fun p hp => hs p (List.mem_append_left _ hp)) hQ k hk σ a w h ⟨ν, hH'⟩
      · rename_i hb
        rw [if_neg hb]
        exact ihy K Q n (fun p hp => hs p (List.mem_append_right _ hp)) hQ k hk σ a w h ⟨ν, hH'⟩
    · cases h
  | block id c ih =>
    intro K Q n hs hQ k hk σ a w h hH
    refine wp_block (ih (inBlkK id K) _ n hs ?_ k hk σ a w h hH)
    intro k' hk' e σ' a' w' h' hH'
    cases e with
    | exit i =>
      have h2 : cnd (Nat.beq i id) (K k' .normal σ') (K k' (.exit i) σ') = some r := h'
      by_cases hi : i = id
      · subst hi
        rw [beq_self', cnd_true] at h2
        simp only [Exit.inBlock, if_true]
        exact hQ k' hk' _ _ _ _ h2 hH'
      · rw [beq_ne hi, cnd_false] at h2
        simp only [Exit.inBlock, if_neg hi]
        exact hQ k' hk' _ _ _ _ h2 hH'
    | _ => exact hQ k' hk' _ _ _ _ h' hH'
  | loop c ih =>
    intro K Q n hs hQ k hk σ a w h hH
    unfold denKK at h
    simp only [den] at h
    simp only [sites] at hs
    split at h
    · rename_i j hj
      rw [hj] at hs
      simp only [] at hs
      have hsite := hs _ List.mem_cons_self
      refine wp_loop_k (fun m a w => m ≤ n ∧ ∃ σ, Holds A σ a w ∧ F.J m j σ = some r) k ⟨hk, σ, hH, h⟩ ?_
      rintro m a w ⟨hm, σ, hH, h⟩
      cases m with
      | zero =>
        have h0 := hsite.1 σ
        simp only [] at h0
        rw [h0] at h
        cases h
      | succ m =>
        obtain ⟨σ2, hh, hd⟩ := hsite.2 m σ r h
        refine ih (thenKK (fun k => F.J k j) K) _ m (fun p hp => hs p (List.mem_cons_of_mem _ hp)) ?_ m (Nat.le_refl _) σ2 a w hd (hh a w hH)
        intro k' hk' e σ' a' w' h' hH'
        cases e with
        | normal => exact ⟨k', by omega, by omega, σ', hH', h'⟩
        | _ => exact hQ k' (by omega) _ _ _ _ h' hH'
    · cases h
  | exit id =>
    intro K Q n _ hQ k hk σ a w h hH
    exact wp_exit (hQ k hk _ _ _ _ h hH)
  | ret =>
    intro K Q n _ hQ k hk σ a w h hH
    exact wp_ret (hQ k hk _ _ _ _ h hH)
  | _ =>
    intro K Q n _ hQ k hk σ a w h hH
    simp [denKK, den] at h
end
end Go.Sx
