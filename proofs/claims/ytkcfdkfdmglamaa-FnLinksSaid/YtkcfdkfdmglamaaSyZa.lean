/- Labels: what is kept is enough. -/
import Derived.Test.YtkcfdkfdmglamaaSyZ
set_option linter.unusedVariables false
set_option linter.unusedSimpArgs false
namespace Go.Sx
def Sub (ρ ρ' : Rn) : Prop := ∀ n x, look ρ n = some x → look ρ' n = some x
theorem Sub.refl (ρ : Rn) : Sub ρ ρ := fun _ _ h => h
theorem Sub.trans {a b c : Rn} (h : Sub a b) (k : Sub b c) : Sub a c := fun n x hx => k n x (h n x hx)
theorem sameO_eq {a b : Option Nat} (h : sameO a b = true) : a = b := by
  cases a <;> cases b <;> first | rfl | cases h | (rw [beq_nat h])
theorem asn_spec {ρ ρ' : Rn} {n : Nat} {q : Option Nat} (h : asn ρ n q = some ρ') : Sub ρ ρ' ∧ look ρ' n = some q := by
  unfold asn at h
  split at h
  · rename_i hl
    injection h with h
    subst h
    refine ⟨fun m x hm => ?_, by simp only [look]; rw [Nat.beq_refl]; rfl⟩
    simp only [look]
    have : n ≠ m := fun e => by subst e; rw [hl] at hm; cases hm
    rw [beq_ne this]
    exact hm
  · rename_i q' hl
    cases hs : sameO q q' with
    | false => rw [hs] at h; cases h
    | true =>
      rw [hs] at h
      injection h with h
      subst h
      exact ⟨.refl _, by rw [sameO_eq hs]; exact hl⟩
def MC (ρ : Rn) (c : SC) : SC → Prop
  | .int k n => c = .int k n
  | .bool s => ∃ s', c = .bool s' ∧ s'.b = s.b
  | .str s => c = .str s
  | .ptr n off => ∃ q, c = .ptr q off ∧ look ρ n = some (some q)
  | .sl n => (∃ q, c = .sl q ∧ look ρ n = some (some q)) ∨ (c = .nils ∧ look ρ n = some none)
  | .nilp => c = .nilp
  | .any => True
  | _ => False
def MCs (ρ : Rn) : List SC → List SC → Prop
  | [], [] => True
  | c :: cs, d :: ds => MC ρ c d ∧ MCs ρ cs ds
  | _, _ => False
theorem cell_spec {X : Type} {ρ ρ' : Rn} {p : CP} {c : SC} {x : X} {s : p.T X} (h1 : asnC ρ p c = some ρ') (h2 : putD x p c = some s) : Sub ρ ρ' ∧ (getD p s).2 = x ∧ ∀ ρF, Sub ρ' ρF → MC ρF c (getD p s).1 := by
  cases p with
  | int k =>
    cases c with
    | int k' n =>
      have h2 : (cnd (keq k k') (some (n, x)) none : Option (Int × X)) = some s := h2
      cases hk : keq k k' with
      | false => rw [hk] at h2; exact no_some h2
      | true =>
        rw [hk] at h2
        have h3 : some (n, x) = some s := h2
        injection h3 with h3
        subst h3
        have := keq_eq hk
        subst this
        have h1 : some ρ = some ρ' := h1
        injection h1 with h1
        subst h1
        exact ⟨.refl _, rfl, fun _ _ => rfl⟩
    | _ => exact no_some (α := Int × X) h2
  | bool =>
    cases c with
    | bool s' =>
      have h3 : some (s'.b, x) = some s := h2
      injection h3 with h3
      subst h3
      have h1 : some ρ = some ρ' := h1
      injection h1 with h1
      subst h1
      exact ⟨.refl _, rfl, fun _ _ => ⟨s', rfl, rfl⟩⟩
    | _ => exact no_some (α := Bool × X) h2
  | str =>
    cases c with
    | str s' =>
      have h3 : some (s', x) = some s := h2
      injection h3 with h3
      subst h3
      have h1 : some ρ = some ρ' := h1
      injection h1 with h1
      subst h1
      exact ⟨.refl _, rfl, fun _ _ => rfl⟩
    | _ => exact no_some (α := ByteArray × X) h2
  | ptr n off =>
    cases c with
    | ptr q off' =>
      have h2 : some x = some s := h2
      injection h2 with h2
      subst h2
      have h5 : cnd (Nat.beq off off') (asn ρ n (some q)) none = some ρ' := h1
      clear h1
      cases hb : Nat.beq off off' with
      | false => rw [hb] at h5; exact no_some h5
      | true =>
        rw [hb] at h5
        have := beq_nat hb
        subst this
        obtain ⟨h3, h4⟩ := asn_spec (show asn ρ n (some q) = some ρ' from h5)
        exact ⟨h3, rfl, fun ρF hF => ⟨q, rfl, hF _ _ h4⟩⟩
    | _ => exact no_some h1
  | sl n =>
    have h2 : some x = some s := h2
    injection h2 with h2
    subst h2
    cases c with
    | sl q =>
      obtain ⟨h3, h4⟩ := asn_spec (show asn ρ n (some q) = some ρ' from h1)
      exact ⟨h3, rfl, fun ρF hF => .inl ⟨q, rfl, hF _ _ h4⟩⟩
    | nils =>
      obtain ⟨h3, h4⟩ := asn_spec (show asn ρ n none = some ρ' from h1)
      exact ⟨h3, rfl, fun ρF hF => .inr ⟨rfl, hF _ _ h4⟩⟩
    | _ => exact no_some h1
  | nilp =>
    have h2 : some x = some s := h2
    injection h2 with h2
    subst h2
    cases c with
    | nilp =>
      have h1 : some ρ = some ρ' := h1
      injection h1 with h1
      subst h1
      exact ⟨.refl _, rfl, fun _ _ => rfl⟩
    | _ => exact no_some h1
  | any =>
    have h2 : some x = some s := h2
    injection h2 with h2
    subst h2
    have h1 : some ρ = some ρ' := by cases c <;> exact h1
    injection h1 with h1
    subst h1
    exact ⟨.refl _, rfl, fun _ _ => trivial⟩
theorem conC_cons {X : Type} (p : CP) (r : List CP) (x : p.T (CPs X r)) : conC (X := X) (p :: r) x = ((getD p x).1 :: (conC r (getD p x).2).1, (conC r (getD p x).2).2) := rfl
theorem absC_spec {X : Type} {K : Rn → Option X} : ∀ (ps : List CP) (cs : List SC) (ρ : Rn) (s : CPs X ps), absC K ps cs ρ = some s → ∃ ρ', Sub ρ ρ' ∧ K ρ' = some (conC ps s).2 ∧ ∀ ρF, Sub ρ' ρF → MCs ρF cs (conC ps s).1
  | [], [], ρ, s, h => ⟨ρ, .refl _, h, fun _ _ => trivial⟩
  | [], _ :: _, ρ, s, h => no_some (α := X) h
  | p :: r, [], ρ, s, h => no_some (α := p.T (CPs X r)) h
  | p :: r, c :: cs, ρ, s, h => by
    have h : (match asnC ρ p c with
      | some ρ' => match absC K r cs ρ' with
        | some t => putD t p c
        | none => none
      | none => none) = some s := h
    split at h
    · rename_i ρ1 h1
      split at h
      · rename_i t h2
        obtain ⟨c1, c2, c3⟩ := cell_spec h1 h
        obtain ⟨ρ2, d1, d2, d3⟩ := absC_spec r cs ρ1 t h2
        refine ⟨ρ2, c1.trans d1, ?_, fun ρF hF => ?_⟩
        · show K ρ2 = some (conC r (getD p s).2).2
          rw [c2]; exact d2
        · refine ⟨c3 ρF (d1.trans hF), ?_⟩
          show MCs ρF cs (conC r (getD p s).2).1
          rw [c2]; exact d3 ρF hF
      · exact no_some (α := p.T (CPs X r)) h
    · exact no_some (α := p.T (CPs X r)) h
def ME (ρ : Rn) (hp : Hp) (n : Nat) : Ent → Prop
  | .free => False
  | .dead => True
  | .box cs2 t => ∃ q cs, look ρ n = some (some q) ∧ hp q = .box cs t ∧ MCs ρ cs cs2
  | .row ty l e => (∃ q, look ρ n = some (some q) ∧ hp q = .row ty l e) ∨ (look ρ n = some none ∧ l = [])
  | .ro ty l e => (∃ q e', look ρ n = some (some q) ∧ hp q = .ro ty l e') ∨ (look ρ n = some none ∧ l = [])
  | .ex _ _ _ => False
def kindOK (e : Option EP) (E : Ent) : Prop := (wrE E → wrP e = true) ∧ (lvE E → lvP e = true)
/-- What is kept of the heap. -/
def HeapOK (hp : Hp) (es : List EP) (l : List Ent) (n : Nat) (ρF : Rn) : Prop := l.length = es.length ∧ ∀ (i : Nat) (E : Ent), l[i]? = some E → ME ρF hp (n + i) E ∧ kindOK es[i]? E
theorem HeapOK.cons {hp : Hp} {es : List EP} {l : List Ent} {n : Nat} {ρF : Rn} {e : EP} {E : Ent} (h : HeapOK hp es l (n + 1) ρF) (h1 : ME ρF hp n E) (h2 : kindOK (some e) E) : HeapOK hp (e :: es) (E :: l) n ρF := by
  refine ⟨by simp [h.1], fun i E' hi => ?_⟩
  cases i with
  | zero => simp at hi; subst hi; exact ⟨h1, by simpa using h2⟩
  | succ i =>
    have := h.2 i E' (by simpa using hi)
    rw [show n + 1 + i = n + (i + 1) by omega] at this
    exact ⟨this.1, by simpa using this.2⟩
theorem absE_spec {X : Type} {hp : Hp} {K : Rn → Option X} : ∀ (es : List EP) (n : Nat) (ρ : Rn) (s : EPs X es), absE hp K es n ρ = some s → ∃ ρ', Sub ρ ρ' ∧ K ρ' = some (conE es s).2 ∧ ∀ ρF, Sub ρ' ρF → HeapOK hp es (conE es s).1 n ρF
  | [], n, ρ, s, h => ⟨ρ, .refl _, h, fun _ _ => ⟨rfl, fun i E hi => by cases hi⟩⟩
  | .dead :: r, n, ρ, s, h => by
    obtain ⟨ρ', h1, h2, h3⟩ := absE_spec r (n + 1) ρ s h
    exact ⟨ρ', h1, h2, fun ρF hF => (h3 ρF hF).cons trivial ⟨fun h => h.elim, fun h => h.elim⟩⟩
  | .box ps t :: r, n, ρ, s, h => by
    have h : (match look ρ n with
      | some (some q) => match hp q with
        | .box cs t' => cnd (Nat.beq t t') (absC (absE hp K r (n + 1)) ps cs ρ) none
        | _ => none
      | _ => none) = some s := h
    split at h
    · rename_i q hl
      split at h
      · rename_i cs t' hq
        cases hb : Nat.beq t t' with
        | false => rw [hb] at h; exact no_some h
        | true =>
          rw [hb] at h
          have := beq_nat hb
          subst this
          obtain ⟨ρ1, a1, a2, a3⟩ := absC_spec ps cs ρ s h
          obtain ⟨ρ2, b1, b2, b3⟩ := absE_spec r (n + 1) ρ1 _ a2
          exact ⟨ρ2, a1.trans b1, b2, fun ρF hF => (b3 ρF hF).cons (E := .box (conC ps s).1 t) ⟨q, cs, hF _ _ (b1 _ _ (a1 _ _ hl)), hq, a3 ρF (b1.trans hF)⟩ ⟨fun _ => rfl, fun _ => rfl⟩⟩
      · exact no_some h
    · exact no_some h
  | .row ty e :: r, n, ρ, s, h => by
    have h : ((match look ρ n with
      | some (some q) => match hp q with
        | .row ty' l e' => match ty'.dec ty with
          | some ⟨h⟩ => cnd (Nat.beq e e') (match absE hp K r (n + 1) ρ with
            | some t => some ((h ▸ l : List ty.T), t)
            | none => none) none
          | none => none
        | _ => none
      | some none => match absE hp K r (n + 1) ρ with
        | some t => some (([] : List ty.T), t)
        | none => none
      | none => none) : Option (List ty.T × EPs X r)) = some s := h
    split at h
    · rename_i q hl
      split at h
      · rename_i ty' l e' hq
        split at h
        · rename_i hd hdd
          cases hb : Nat.beq e e' with
          | false => rw [hb] at h; exact no_some (α := List ty.T × EPs X r) h
          | true =>
            rw [hb] at h
            have := beq_nat hb
            subst this
            subst hd
            simp only [cnd_true] at h
            split at h
            · rename_i t ht
              have h : some (l, t) = some s := h
              injection h with h
              subst h
              obtain ⟨ρ2, b1, b2, b3⟩ := absE_spec r (n + 1) ρ t ht
              exact ⟨ρ2, b1, b2, fun ρF hF => (b3 ρF hF).cons (E := .row ty' l e) (.inl ⟨q, hF _ _ (b1 _ _ hl), hq⟩) ⟨fun _ => rfl, fun _ => rfl⟩⟩
            · exact no_some (α := List ty'.T × EPs X r) h
        · exact no_some (α := List ty.T × EPs X r) h
      · exact no_some (α := List ty.T × EPs X r) h
    · rename_i hl
      split at h
      · rename_i t ht
        have h : some (([] : List ty.T), t) = some s := h
        injection h with h
        subst h
        obtain ⟨ρ2, b1, b2, b3⟩ := absE_spec r (n + 1) ρ t ht
        exact ⟨ρ2, b1, b2, fun ρF hF => (b3 ρF hF).cons (E := .row ty [] e) (.inr ⟨hF _ _ (b1 _ _ hl), rfl⟩) ⟨fun _ => rfl, fun _ => rfl⟩⟩
      · exact no_some (α := List ty.T × EPs X r) h
    · exact no_some (α := List ty.T × EPs X r) h
  | .ro ty e :: r, n, ρ, s, h => by
    have h : ((match look ρ n with
      | some (some q) => match hp q with
        | .ro ty' l e' => match ty'.dec ty with
          | some ⟨h⟩ => match absE hp K r (n + 1) ρ with
            | some t => some ((h ▸ l : List ty.T), t)
            | none => none
          | none => none
        | _ => none
      | some none => match absE hp K r (n + 1) ρ with
        | some t => some (([] : List ty.T), t)
        | none => none
      | none => none) : Option (List ty.T × EPs X r)) = some s := h
    split at h
    · rename_i q hl
      split at h
      · rename_i ty' l e' hq
        split at h
        · rename_i hd hdd
          subst hd
          split at h
          · rename_i t ht
            have h : some (l, t) = some s := h
            injection h with h
            subst h
            obtain ⟨ρ2, b1, b2, b3⟩ := absE_spec r (n + 1) ρ t ht
            exact ⟨ρ2, b1, b2, fun ρF hF => (b3 ρF hF).cons (E := .ro ty' l e) (.inl ⟨q, e', hF _ _ (b1 _ _ hl), hq⟩) ⟨fun h => h.elim, fun _ => rfl⟩⟩
          · exact no_some (α := List ty'.T × EPs X r) h
        · exact no_some (α := List ty.T × EPs X r) h
      · exact no_some (α := List ty.T × EPs X r) h
    · rename_i hl
      split at h
      · rename_i t ht
        have h : some (([] : List ty.T), t) = some s := h
        injection h with h
        subst h
        obtain ⟨ρ2, b1, b2, b3⟩ := absE_spec r (n + 1) ρ t ht
        exact ⟨ρ2, b1, b2, fun ρF hF => (b3 ρF hF).cons (E := .ro ty [] e) (.inr ⟨hF _ _ (b1 _ _ hl), rfl⟩) ⟨fun h => h.elim, fun _ => rfl⟩⟩
      · exact no_some (α := List ty.T × EPs X r) h
    · exact no_some (α := List ty.T × EPs X r) h
def MV (ρ : Rn) (v : SV) : SV → Prop
  | .any => True
  | .a g ds => ∃ cs, v = .a g cs ∧ MCs ρ cs ds
  | .tup _ => False
theorem absT_spec {X : Type} {tm : Nat → SV} {K : Rn → Option X} : ∀ (ts : TP) (ρ : Rn) (s : TPs X ts), absT tm K ts ρ = some s → ∃ ρ', Sub ρ ρ' ∧ K ρ' = some (conT ts s).2 ∧ ∀ ρF, Sub ρ' ρF → ∀ t, MV ρF (tm t) (tmL (conT ts s).1 t)
  | [], ρ, s, h => ⟨ρ, .refl _, h, fun _ _ _ => trivial⟩
  | (t, g, ps) :: r, ρ, s, h => by
    have h : (match tm t with
      | .a g' cs => cnd (beqB g g') (absC (absT tm K r) ps cs ρ) none
      | _ => none) = some s := h
    split at h
    · rename_i g' cs ht
      cases hb : beqB g g' with
      | false => rw [hb] at h; exact no_some h
      | true =>
        rw [hb] at h
        have := beqB_eq hb
        subst this
        obtain ⟨ρ1, a1, a2, a3⟩ := absC_spec ps cs ρ s h
        obtain ⟨ρ2, b1, b2, b3⟩ := absT_spec r ρ1 _ a2
        refine ⟨ρ2, a1.trans b1, b2, fun ρF hF t' => ?_⟩
        show MV ρF (tm t') (cnd (Nat.beq t t') (.a g (conC ps s).1) (tmL (conT r (conC ps s).2).1 t'))
        by_cases e : t = t'
        · subst e
          rw [Nat.beq_refl]
          exact ⟨cs, ht, a3 ρF (b1.trans hF)⟩
        · rw [beq_ne e]
          exact b3 ρF hF t'
    · exact no_some h
theorem look_ini : ∀ {m n : Nat}, n < m → look (ini0 m) n = some (some n)
  | m + 1, n, h => by
    show cnd (Nat.beq m n) (some (some m)) (look (ini0 m) n) = some (some n)
    by_cases e : m = n
    · subst e; rw [Nat.beq_refl]; rfl
    · rw [beq_ne e]; exact look_ini (by omega)
theorem look_mem : ∀ {ρ : Rn} {n : Nat} {x : Option Nat}, look ρ n = some x → (n, x) ∈ ρ
  | (m, q) :: r, n, x, h => by
    have h : cnd (Nat.beq m n) (some q) (look r n) = some x := h
    by_cases e : m = n
    · subst e
      rw [Nat.beq_refl] at h
      have h : some q = some x := h
      injection h with h
      subst h
      exact List.mem_cons_self
    · rw [beq_ne e] at h
      exact List.mem_cons_of_mem _ (look_mem h)
/-- A label's names in a machine. -/
def νL (ρ : Rn) (ν : Nat → Value) (n : Nat) : Value :=
  match look ρ n with
  | some (some q) => ν q
  | _ => .slice none 0 0
section
variable {ρ : Rn} {hp hp2 : Hp} {ν : Nat → Value}
theorem MC.rel (hnf : ∀ n x, look ρ n = some x → hp2 n ≠ .free) {c d : SC} {v : Value} (h : MC ρ c d) (hv : CRel hp ν c v) : CRel hp2 (νL ρ ν) d v := by
  cases d with
  | any => exact hv.cell
  | int k n => cases h; exact hv
  | bool s => obtain ⟨s', rfl, hb⟩ := h; exact hv.trans (by rw [hb])
  | str s => cases h; exact hv
  | ptr n off =>
    obtain ⟨q, rfl, hl⟩ := h
    obtain ⟨_, g, h1, h2⟩ := hv
    exact ⟨hnf n _ hl, g, by unfold νL; rw [hl]; exact h1, h2⟩
  | nilp => cases h; exact hv
  | sl n =>
    rcases h with ⟨q, rfl, hl⟩ | ⟨rfl, hl⟩
    · obtain ⟨_, h1, h2⟩ := hv
      exact ⟨hnf n _ hl, by unfold νL; rw [hl]; exact h1, h2⟩
    · exact ⟨hnf n _ hl, by unfold νL; rw [hl]; exact hv, none, 0, 0, hv⟩
  | nils => exact h.elim
  | ep _ _ _ _ => exact h.elim
theorem MCs.rel (hnf : ∀ n x, look ρ n = some x → hp2 n ≠ .free) : ∀ {cs ds : List SC} {vs : List Value}, MCs ρ cs ds → CsRel hp ν cs vs → CsRel hp2 (νL ρ ν) ds vs
  | [], [], [], _, _ => trivial
  | _ :: _, _ :: _, _ :: _, h, hv => ⟨h.1.rel hnf hv.1, MCs.rel hnf h.2 hv.2⟩
  | [], [], _ :: _, _, hv => hv.elim
  | _ :: _, _ :: _, [], _, hv => hv.elim
  | [], _ :: _, _, h, _ => h.elim
  | _ :: _, [], _, h, _ => h.elim
theorem MV.rel (hnf : ∀ n x, look ρ n = some x → hp2 n ≠ .free) {x y : SV} {v : Value} (h : MV ρ x y) (hv : VRel hp ν x v) : VRel hp2 (νL ρ ν) y v := by
  cases y with
  | any => trivial
  | tup _ => exact h.elim
  | a g ds =>
    obtain ⟨cs, rfl, h1⟩ := h
    cases g with
    | true => obtain ⟨vs, rfl, h2⟩ := hv; exact ⟨vs, rfl, h1.rel hnf h2⟩
    | false =>
      obtain ⟨c, rfl, h2⟩ := hv
      match ds, h1 with
      | [d], h1 => exact ⟨d, rfl, h1.1.rel hnf h2⟩
      | _ :: _ :: _, h1 => exact h1.2.elim
end
end Go.Sx
