/- A call among others: what it looks at, what it changes. -/
import Derived.Test.YtkcfdkfdmglamaaSyV
set_option linter.unusedVariables false
set_option linter.unusedSimpArgs false
namespace Go.Sx
section
variable {hp hp' : Hp}
theorem mC_grow (k : CK) {x : SC} {a : k.T} (h : mC hp k x = some a) (hg : Grows hp hp') : mC hp' k x = some a := by
  cases k with
  | sl t =>
    have h1 := readL_sees (mC_sl h) (hg.sees none)
    cases x <;> exact h1
  | int k => cases x <;> exact h
  | bool => cases x <;> exact h
  | str => cases x <;> exact h
theorem mCs_grow (hg : Grows hp hp') : ∀ (ks : List CK) (xs : List SC) (a : CKs ks), mCs hp ks xs = some a → mCs hp' ks xs = some a
  | [], [], a, h => h
  | [], _ :: _, a, h => no_some (α := Unit) h
  | [k], [x], a, h => mC_grow k h hg
  | [k], [], a, h => no_some (α := k.T) h
  | [k], _ :: _ :: _, a, h => no_some (α := k.T) h
  | k :: k' :: r, [], a, h => no_some (α := k.T × CKs (k' :: r)) h
  | k :: k' :: r, x :: y, a, h => by
    rw [mCs_cons] at h ⊢
    split at h
    · rename_i a1 a2 h1 h2
      rw [mC_grow k h1 hg, mCs_grow hg (k' :: r) y a2 h2]
      exact h
    · exact no_some (α := k.T × CKs (k' :: r)) h
theorem mW_grow (hg : Grows hp hp') (k : WK) {x : SC} {a : k.T} (h : mW hp k x = some a) : mW hp' k x = some a := by
  cases k with
  | c k => exact mC_grow k h hg
  | row t e =>
    obtain ⟨n, rfl, h1⟩ := mW_row h
    have h3 : hp' n = .row t a e := (hg n (by rw [h1]; simp)).trans h1
    have h4 : mW hp (.row t e) (.sl n) = mW hp' (.row t e) (.sl n) := by
      show (match hp n with
        | .row t' l e' => match t'.dec t with
          | some ⟨h⟩ => cnd (Nat.beq e e') (some (h ▸ l : List t.T)) none
          | none => none
        | _ => none) = (match hp' n with
        | .row t' l e' => match t'.dec t with
          | some ⟨h⟩ => cnd (Nat.beq e e') (some (h ▸ l : List t.T)) none
          | none => none
        | _ => none)
      rw [h1, h3]
    exact h4.symm.trans h
theorem mWs_grow (hg : Grows hp hp') : ∀ (ks : List WK) (xs : List SC) (a : WKs ks), mWs hp ks xs = some a → mWs hp' ks xs = some a
  | [], [], a, h => h
  | [], _ :: _, a, h => no_some (α := Unit) h
  | [k], [x], a, h => mW_grow hg k h
  | [k], [], a, h => no_some (α := k.T) h
  | [k], _ :: _ :: _, a, h => no_some (α := k.T) h
  | k :: k' :: r, [], a, h => no_some (α := k.T × WKs (k' :: r)) h
  | k :: k' :: r, x :: y, a, h => by
    rw [mWs_cons] at h ⊢
    split at h
    · rename_i a1 a2 h1 h2
      rw [mW_grow hg k h1, mWs_grow hg (k' :: r) y a2 h2]
      exact h
    · exact no_some (α := k.T × WKs (k' :: r)) h
theorem mA_grow (hg : Grows hp hp') (k : AK) {x : SV} {a : k.T} (h : mA hp k x = some a) : mA hp' k x = some a := by
  cases k with
  | c k =>
    obtain ⟨y, rfl, h1⟩ := mA_c h
    exact mC_grow k h1 hg
  | agg ks =>
    obtain ⟨cs, rfl, h1⟩ := mA_agg h
    exact mCs_grow hg ks cs a h1
  | ptr ks t =>
    obtain ⟨n, cs, rfl, h1, h2⟩ := mA_ptr h
    have h3 : hp' n = .box cs t := (hg n (by rw [h1]; simp)).trans h1
    have h4 := mCs_grow hg ks cs a h2
    show (match hp' n with
      | .box cs t' => cnd (Nat.beq t t') (mCs hp' ks cs) none
      | _ => none) = some a
    rw [h3]
    show cnd (Nat.beq t t) (mCs hp' ks cs) none = some a
    rw [Nat.beq_refl]
    exact h4
  | w g ks =>
    obtain ⟨cs, rfl, h1⟩ := mA_w h
    show cnd (beqB g g) (mWs hp' ks cs) none = some a
    have hb : beqB g g = true := by cases g <;> rfl
    rw [hb]
    exact mWs_grow hg ks cs a h1
theorem mAs_grow (hg : Grows hp hp') : ∀ (ks : List AK) (xs : List SV) (a : AKs ks), mAs hp ks xs = some a → mAs hp' ks xs = some a
  | [], [], a, h => h
  | [], _ :: _, a, h => no_some (α := Unit) h
  | [k], [x], a, h => mA_grow hg k h
  | [k], [], a, h => no_some (α := k.T) h
  | [k], _ :: _ :: _, a, h => no_some (α := k.T) h
  | k :: k' :: r, [], a, h => no_some (α := k.T × AKs (k' :: r)) h
  | k :: k' :: r, x :: y, a, h => by
    rw [mAs_cons] at h ⊢
    split at h
    · rename_i a1 a2 h1 h2
      rw [mA_grow hg k h1, mAs_grow hg (k' :: r) y a2 h2]
      exact h
    · exact no_some (α := k.T × AKs (k' :: r)) h
/-- What is put in lies between two names. -/
structure Out (nm c : Nat) (F : Hp → Hp) : Prop where
  same : ∀ hp q, (q < nm ∨ nm + c ≤ q) → F hp q = hp q
  comm : ∀ hp q E, (q < nm ∨ nm + c ≤ q) → F (upd hp q E) = upd (F hp) q E
  lives : ∀ hp n, hp n ≠ .free → F hp n ≠ .free
theorem Out.id (nm c : Nat) : Out nm c (fun hp => hp) := ⟨fun _ _ _ => rfl, fun _ _ _ _ => rfl, fun _ _ h => h⟩
theorem Out.put {nm n c : Nat} (h1 : nm ≤ n) (h2 : n < nm + c) {E : Ent} (hE : E ≠ .free) : Out nm c (fun hp => upd hp n E) := by
  refine ⟨fun hp q hq => upd_other _ _ (by omega), fun hp q E' hq => upd_comm (by omega) _ _, fun hp m hm => ?_⟩
  by_cases e : m = n
  · subst e; rw [upd_same]; exact hE
  · rw [upd_other _ _ e]; exact hm
theorem Out.comp {nm c nm1 c1 nm2 c2 : Nat} {F G : Hp → Hp} (hF : Out nm1 c1 F) (hG : Out nm2 c2 G) (h1 : nm ≤ nm1) (h2 : nm1 + c1 ≤ nm + c) (h3 : nm ≤ nm2) (h4 : nm2 + c2 ≤ nm + c) : Out nm c (fun hp => G (F hp)) :=
  ⟨fun hp q hq => by rw [hG.same _ _ (by omega), hF.same _ _ (by omega)], fun hp q E hq => by rw [hF.comm _ _ _ (by omega), hG.comm _ _ _ (by omega)], fun hp n hn => hG.lives _ _ (hF.lives _ _ hn)⟩
theorem inC_spec (args : List SV) (old : SC) (nm : Nat) (k : RK) (x : k.T) : ∃ b F, (∀ hp, inC args old nm hp k x = (b, nm + RK.news [k], F hp)) ∧ Out nm (RK.news [k]) F := by
  cases k with
  | own t e => exact ⟨.sl nm, fun hp => upd hp nm (.row t x e), fun hp => rfl, .put (Nat.le_refl _) (by simp [RK.news]) (by simp)⟩
  | exr t e => exact ⟨.sl nm, fun hp => upd hp nm (.ex t x e), fun hp => rfl, .put (Nat.le_refl _) (by simp [RK.news]) (by simp)⟩
  | int k => exact ⟨_, fun hp => hp, fun hp => rfl, .id _ _⟩
  | bool => exact ⟨_, fun hp => hp, fun hp => rfl, .id _ _⟩
  | str => exact ⟨_, fun hp => hp, fun hp => rfl, .id _ _⟩
  | al i j => exact ⟨_, fun hp => hp, fun hp => rfl, .id _ _⟩
  | keep => exact ⟨_, fun hp => hp, fun hp => rfl, .id _ _⟩
theorem inCs_spec (args : List SV) : ∀ (ks : List RK) (x : RKs ks) (old : List SC) (nm : Nat), ∃ b F, (∀ hp, inCs args ks x old nm hp = (b, nm + RK.news ks, F hp)) ∧ Out nm (RK.news ks) F
  | [], x, old, nm => ⟨[], fun hp => hp, fun hp => rfl, .id _ _⟩
  | [k], x, old, nm => by
    obtain ⟨b, F, h1, h2⟩ := inC_spec args (old.headD .any) nm k x
    exact ⟨[b], F, fun hp => (inCs_one args k x old nm hp).trans (by rw [h1]), h2⟩
  | k :: k' :: r, x, old, nm => by
    obtain ⟨b, F, h1, h2⟩ := inC_spec args (old.headD .any) nm k x.1
    obtain ⟨b2, F2, h3, h4⟩ := inCs_spec args (k' :: r) x.2 old.tail (nm + RK.news [k])
    have hn := news_cons k (k' :: r)
    refine ⟨b :: b2, fun hp => F2 (F hp), fun hp => ?_, h2.comp h4 (Nat.le_refl _) (by omega) (by omega) (by omega)⟩
    refine (inCs_cons args k k' r x old nm hp).trans ?_
    rw [h1]
    simp only []
    rw [h3, hn, Nat.add_assoc]
theorem inO_spec (args : List SV) (nm : Nat) (k : OK) (x : k.T) : ∃ b F, (∀ hp, inO args k x nm hp = (b, nm + OK.news [k], F hp)) ∧ Out nm (OK.news [k]) F := by
  cases k with
  | v g ks =>
    obtain ⟨b, F, h1, h2⟩ := inCs_spec args ks x [] nm
    refine ⟨(g, b), F, fun hp => ?_, h2⟩
    show (match inCs args ks x [] nm hp with
      | (cs, nm, hp) => ((g, cs), nm, hp)) = _
    rw [h1]
    rfl
  | row t e =>
    have hn : OK.news [.row t e] = 1 := rfl
    refine ⟨(false, [.any]), fun hp => hp, fun hp => ?_, .id _ _⟩
    rw [hn]
    rfl
  | box ks t =>
    obtain ⟨b, F, h1, h2⟩ := inCs_spec args ks x [] (nm + 1)
    have hn : OK.news [.box ks t] = RK.news ks + 1 := rfl
    refine ⟨(false, [.ptr nm 0]), fun hp => upd (F hp) nm (.box b t), fun hp => ?_, ?_⟩
    · show (match inCs args ks x [] (nm + 1) hp with
        | (cs, nm', hp) => ((false, [SC.ptr nm 0]), nm', upd hp nm (.box cs t))) = _
      rw [h1, hn]
      simp only []
      rw [Nat.add_assoc, Nat.add_comm 1]
    · exact h2.comp (nm2 := nm) (c2 := 1) (.put (Nat.le_refl _) (by omega) (by simp)) (by omega) (by omega) (by omega) (by omega)
theorem upO_spec (args : List SV) {p nm : Nat} (hpp : hp p ≠ .free) (k : OK) (x : k.T) (hr : ∀ m, nm ≤ m → m < nm + OK.news [k] → hp m = .free) :
    ∃ nm' hp1, upO args p k x nm hp = (nm', hp1) ∧ nm ≤ nm' ∧ nm' ≤ nm + OK.news [k] ∧ (∀ m, m ≠ p → (m < nm ∨ nm' ≤ m) → hp1 m = hp m) ∧ (∀ m, hp m ≠ .free → hp1 m ≠ .free) ∧
      ∀ q E, hp q = .free → (q < nm ∨ nm + OK.news [k] ≤ q) → upO args p k x nm (upd hp q E) = (nm', upd hp1 q E) := by
  cases k with
  | v g ks => exact ⟨nm, hp, rfl, Nat.le_refl _, Nat.le_add_right _ _, fun _ _ _ => rfl, fun _ h => h, fun _ _ _ _ => rfl⟩
  | row t e =>
    refine ⟨nm, upd hp p (.row t x e), rfl, Nat.le_refl _, Nat.le_add_right _ _, fun m hm _ => upd_other _ _ hm, fun m hm => ?_, fun q E hq _ => ?_⟩
    · by_cases e : m = p
      · subst e; rw [upd_same]; simp
      · rw [upd_other _ _ e]; exact hm
    · have hne : p ≠ q := ne_free hpp hq
      show (nm, upd (upd hp q E) p (.row t x e)) = (nm, upd (upd hp p (.row t x e)) q E)
      rw [upd_comm hne]
  | box ks t =>
    have hun : ∀ hpx : Hp, upO args p (.box ks t) x nm hpx = (match hpx p with
      | .box old _ => match inCs args ks x old nm hpx with
        | (cs, nm, hp) => (nm, upd hp p (.box cs t))
      | _ => (nm, hpx)) := fun hpx => rfl
    cases hh : hp p with
    | box old t0 =>
      obtain ⟨b, F, h1, h2⟩ := inCs_spec args ks x old nm
      have hn : OK.news [.box ks t] = RK.news ks + 1 := rfl
      refine ⟨nm + RK.news ks, upd (F hp) p (.box b t), ?_, Nat.le_add_right _ _, by omega, fun m hm hmm => ?_, fun m hm => ?_, fun q E hq hqq => ?_⟩
      · rw [hun, hh]; simp only []; rw [h1]
      · rw [upd_other _ _ hm, h2.same _ _ hmm]
      · by_cases e : m = p
        · subst e; rw [upd_same]; simp
        · rw [upd_other _ _ e]; exact h2.lives _ _ hm
      · have hne : p ≠ q := ne_free hpp hq
        rw [hun, upd_other _ _ hne, hh]
        simp only []
        rw [h1]
        simp only []
        rw [h2.comm _ _ _ (by omega), upd_comm hne]
    | free => exact absurd hh hpp
    | _ =>
      refine ⟨nm, hp, by rw [hun, hh], Nat.le_refl _, Nat.le_add_right _ _, fun _ _ _ => rfl, fun _ h => h, fun q E hq hqq => ?_⟩
      have hne : p ≠ q := ne_free hpp hq
      rw [hun, upd_other _ _ hne, hh]
theorem inOs_spec (args : List SV) : ∀ (ks : List OK) (b : OKs ks) (n : Nat) (ps : List Nat) (nm : Nat) (hp : Hp), (∀ m, nm ≤ m → m < nm + OK.news ks → hp m = .free) → (∀ p, p ∈ ps → hp p ≠ .free) →
    (∀ m, hp m ≠ .free → m ∉ ps → (inOs args n ps ks b nm hp).2 m = hp m) ∧ (∀ m, hp m ≠ .free → (inOs args n ps ks b nm hp).2 m ≠ .free) ∧
      ∀ q E, hp q = .free → (q < nm ∨ nm + OK.news ks ≤ q) → inOs args n ps ks b nm (upd hp q E) = ((inOs args n ps ks b nm hp).1, upd (inOs args n ps ks b nm hp).2 q E)
  | [], b, n, ps, nm, hp, hr, hps => by
    have : ∀ hpx : Hp, inOs args n ps [] b nm hpx = ([], hpx) := fun hpx => by cases n <;> cases ps <;> rfl
    exact ⟨fun m _ _ => by rw [this], fun m h => by rw [this]; exact h, fun q E _ _ => by rw [this, this]⟩
  | [k], b, 0, [], nm, hp, hr, hps => ⟨fun _ _ _ => rfl, fun _ h => h, fun _ _ _ _ => rfl⟩
  | k :: k' :: r, b, 0, [], nm, hp, hr, hps => ⟨fun _ _ _ => rfl, fun _ h => h, fun _ _ _ _ => rfl⟩
  | [k], b, 0, p :: ps, nm, hp, hr, hps => by
    obtain ⟨nm', hp1, h1, h2, h3, h4, h5, h6⟩ := upO_spec args (hps p List.mem_cons_self) k b hr
    have hun : ∀ hpx : Hp, inOs args 0 (p :: ps) [k] b nm hpx = ([], (upO args p k b nm hpx).2) := fun hpx => rfl
    simp only [hun, h1]
    refine ⟨fun m hm hmp => h4 m (fun e => hmp (by rw [e]; exact List.mem_cons_self)) ?_, h5, fun q E hq hqq => by rw [h6 q E hq hqq]⟩
    by_cases hc : m < nm
    · exact .inl hc
    · by_cases hd : m < nm + OK.news [k]
      · exact absurd (hr m (by omega) hd) hm
      · exact .inr (by omega)
  | k :: k' :: r, b, 0, p :: ps, nm, hp, hr, hps => by
    have hn := onews_cons k (k' :: r)
    obtain ⟨nm', hp1, h1, h2, h3, h4, h5, h6⟩ := upO_spec args (hps p List.mem_cons_self) k b.1 (fun m h1 h2 => hr m h1 (by omega))
    have hfr : ∀ m, nm' ≤ m → m < nm' + OK.news (k' :: r) → hp1 m = .free := fun m h7 h8 => by
      have hf := hr m (by omega) (by omega)
      rw [h4 m (fun e => hps p List.mem_cons_self (by rw [← e]; exact hf)) (.inr h7)]
      exact hf
    obtain ⟨i1, i2, i3⟩ := inOs_spec args (k' :: r) b.2 0 ps nm' hp1 hfr (fun p' hp' => h5 p' (hps p' (List.mem_cons_of_mem _ hp')))
    have hun : ∀ hpx : Hp, inOs args 0 (p :: ps) (k :: k' :: r) b nm hpx = (match upO args p k b.1 nm hpx with
      | (nm, hp) => inOs args 0 ps (k' :: r) b.2 nm hp) := fun hpx => rfl
    simp only [hun, h1]
    refine ⟨fun m hm hmp => ?_, fun m hm => i2 m (h5 m hm), fun q E hq hqq => ?_⟩
    · have hmo : m < nm ∨ nm' ≤ m := by
        by_cases hc : m < nm
        · exact .inl hc
        · by_cases hd : m < nm + OK.news (k :: k' :: r)
          · exact absurd (hr m (by omega) hd) hm
          · exact .inr (by omega)
      have hmp1 : m ≠ p := fun e => hmp (by rw [e]; exact List.mem_cons_self)
      rw [i1 m (h5 m hm) (fun h => hmp (List.mem_cons_of_mem _ h)), h4 m hmp1 hmo]
    · rw [h6 q E hq (by omega)]
      simp only []
      have hq1 : hp1 q = .free := by
        rw [h4 q (fun e => hps p List.mem_cons_self (by rw [← e]; exact hq)) (by omega)]
        exact hq
      exact i3 q E hq1 (by omega)
  | [k], b, n + 1, ps, nm, hp, hr, hps => by
    obtain ⟨r, F, h1, h2⟩ := inO_spec args nm k b
    have hun : ∀ hpx : Hp, inOs args (n + 1) ps [k] b nm hpx = ((match inO args k b nm hpx with
      | (v, nm, hp) => ([v], hp)) : List (Bool × List SC) × Hp) := fun hpx => rfl
    simp only [hun, h1]
    refine ⟨fun m hm hmp => h2.same _ _ ?_, fun m hm => h2.lives _ _ hm, fun q E hq hqq => by rw [h2.comm _ _ _ hqq]⟩
    by_cases hc : m < nm
    · exact .inl hc
    · by_cases hd : m < nm + OK.news [k]
      · exact absurd (hr m (by omega) hd) hm
      · exact .inr (by omega)
  | k :: k' :: r, b, n + 1, ps, nm, hp, hr, hps => by
    have hn := onews_cons k (k' :: r)
    obtain ⟨v, F, h1, h2⟩ := inO_spec args nm k b.1
    have hfr : ∀ m, nm + OK.news [k] ≤ m → m < nm + OK.news [k] + OK.news (k' :: r) → F hp m = .free := fun m h7 h8 => by
      rw [h2.same _ _ (.inr h7)]
      exact hr m (by omega) (by omega)
    obtain ⟨i1, i2, i3⟩ := inOs_spec args (k' :: r) b.2 n ps (nm + OK.news [k]) (F hp) hfr (fun p' hp' => h2.lives _ _ (hps p' hp'))
    have hun : ∀ hpx : Hp, inOs args (n + 1) ps (k :: k' :: r) b nm hpx = ((match inO args k b.1 nm hpx with
      | (v, nm, hp) => match inOs args n ps (k' :: r) b.2 nm hp with
        | (vs, hp) => (v :: vs, hp)) : List (Bool × List SC) × Hp) := fun hpx => rfl
    simp only [hun, h1]
    refine ⟨fun m hm hmp => ?_, fun m hm => i2 m (h2.lives _ _ hm), fun q E hq hqq => ?_⟩
    · have hmo : m < nm ∨ nm + OK.news [k] ≤ m := by
        by_cases hc : m < nm
        · exact .inl hc
        · by_cases hd : m < nm + OK.news (k :: k' :: r)
          · exact absurd (hr m (by omega) hd) hm
          · exact .inr (by omega)
      rw [i1 m (h2.lives _ _ hm) hmp, h2.same _ _ hmo]
    · rw [h2.comm _ _ _ (by omega), i3 q E (by rw [h2.same _ _ (by omega)]; exact hq) (by omega)]
end
end Go.Sx
