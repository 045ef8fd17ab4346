/- A function's contract out of its walk. -/
import Derived.Test.YtkcfdkfdmglamaaSyP
set_option linter.unusedVariables false
set_option linter.unusedSimpArgs false
namespace Go.Sx
/-- Boxes that were handed, name by name. -/
def PairP (νF ν : Nat → Value) : List Nat → List Nat → Prop
  | [], [] => True
  | p :: ps, q :: qs => νF q = ν p ∧ PairP νF ν ps qs
  | _, _ => False
theorem PairP.mem {νF ν : Nat → Value} : ∀ {ps qs : List Nat}, PairP νF ν ps qs → ∀ p, p ∈ ps → ∃ q, q ∈ qs ∧ νF q = ν p
  | [], [], _, p, hp => by cases hp
  | p' :: ps, q :: qs, h, p, hp => by
    cases hp with
    | head => exact ⟨q, List.mem_cons_self, h.1⟩
    | tail _ hp =>
      obtain ⟨q', h1, h2⟩ := PairP.mem h.2 p hp
      exact ⟨q', List.mem_cons_of_mem _ h1, h2⟩
  | [], _ :: _, h, _, _ => h.elim
  | _ :: _, [], h, _, _ => h.elim
theorem onews_cons (k : OK) (r : List OK) : OK.news (k :: r) = OK.news [k] + OK.news r := by
  cases k <;> simp [OK.news]
theorem vs_mono {hp hp' : Hp} {ν ν' : Nat → Value} (h : Ext hp ν hp' ν') : ∀ {xs : List SV} {vs : List Value}, VsRel hp ν xs vs → VsRel hp' ν' xs vs
  | [], [], _ => trivial
  | _ :: _, _ :: _, hx => ⟨hx.1.mono h, vs_mono h hx.2⟩
  | [], _ :: _, hx => hx.elim
  | _ :: _, [], hx => hx.elim
section
variable {F : Fin}
theorem EndI.ups (hF : FinOK F) {argsC args : List SV} (hqs : ∀ q, q ∈ F.qs → q ∈ slA argsC) (hal : ∀ i j q, cellOf argsC i j = .sl q → CRel F.hp F.ν (cellOf args i j) (F.νF q)) {hp0 : Hp} {ps0 : List Nat} :
    ∀ (ks : List OK) (b : OKs ks) (rem remC : List Nat) (nm : Nat) (hpc : Hp) (νc : Nat → Value) (hpF : Hp), EndI F rem remC nm hpc νc hpF → PairP F.νF F.ν rem remC → nodupN rem = true →
      (∀ p p0, (p, p0) ∈ rem.zip remC → ∀ old0 t0 old t1, hp0 p0 = .box old0 t0 → F.hp p = .box old t1 → OldRel F old0 old) → exOs argsC hp0 ps0 [] remC ks hpF = some b → nm + OK.news ks ≤ F.top →
      ∃ νc', Mem F.base F.G F.w0 F.wF (inOs args 0 rem ks b nm hpc).2 νc' ∧ (inOs args 0 rem ks b nm hpc).1 = [] ∧ Ext hpc νc (inOs args 0 rem ks b nm hpc).2 νc'
  | [], b, rem, remC, nm, hpc, νc, hpF, hE, hp, hnd, hold, h, htop => by
    match rem, remC, hp with
    | [], [], _ => exact ⟨νc, by have := hE.mem; rw [deadOf_nil] at this; exact this, rfl, .refl _ _⟩
    | _ :: _, _ :: qs, _ => cases qs <;> exact no_some (α := Unit) h
  | [k], b, rem, remC, nm, hpc, νc, hpF, hE, hp, hnd, hold, h, htop => by
    match rem, remC, hp with
    | [p], [p0], hp =>
      have h2 : (match exU argsC hp0 hpF p0 k with
        | some (a, _) => some a
        | none => none) = some b := h
      cases hx : exU argsC hp0 hpF p0 k with
      | none => rw [hx] at h2; exact no_some h2
      | some res =>
        obtain ⟨b', hpF'⟩ := res
        rw [hx] at h2
        have h3 : some b' = some b := h2
        injection h3 with h3
        subst h3
        generalize hq : upO args p k b' nm hpc = q
        obtain ⟨n1, p1⟩ := q
        obtain ⟨νc', h4, h5, h6⟩ := hE.upd_ hF (by simp) hp.1 hqs hal hx hq (by omega) (hold p p0 (by simp))
        have hio : inOs args 0 [p] [k] b' nm hpc = ([], p1) := by
          show ([], (upO args p k b' nm hpc).2) = _
          rw [hq]
        rw [hio]
        exact ⟨νc', by have := h4.mem; rw [deadOf_nil] at this; exact this, rfl, h5⟩
    | [], [], _ => exact no_some (α := k.T) h
    | _ :: _ :: _, _ :: _ :: _, _ => exact no_some (α := k.T) h
    | [_], _ :: _ :: _, hp => exact hp.2.elim
    | _ :: _ :: _, [_], hp => exact hp.2.elim
  | k :: k' :: r, b, rem, remC, nm, hpc, νc, hpF, hE, hp, hnd, hold, h, htop => by
    match rem, remC, hp with
    | p :: rem, p0 :: remC, hp =>
      have h2 : ((match exU argsC hp0 hpF p0 k with
        | some (a, hp) => match exOs argsC hp0 ps0 [] remC (k' :: r) hp with
          | some b => some (a, b)
          | none => none
        | none => none) : Option (k.T × OKs (k' :: r))) = some b := by cases remC <;> exact h
      clear h
      cases hx : exU argsC hp0 hpF p0 k with
      | none => rw [hx] at h2; exact no_some (α := k.T × OKs (k' :: r)) h2
      | some res =>
        obtain ⟨a', hpF'⟩ := res
        rw [hx] at h2
        simp only [] at h2
        cases hy : exOs argsC hp0 ps0 [] remC (k' :: r) hpF' with
        | none => rw [hy] at h2; exact no_some (α := k.T × OKs (k' :: r)) h2
        | some b' =>
          rw [hy] at h2
          have h3 : some (a', b') = some b := h2
          injection h3 with h3
          subst h3
          generalize hq : upO args p k a' nm hpc = q
          obtain ⟨n1, p1⟩ := q
          rw [onews_cons] at htop
          simp only [nodupN, Bool.and_eq_true, Bool.not_eq_true'] at hnd
          have hpr : p ∉ rem := fun hh => by rw [memN_iff.2 hh] at hnd; cases hnd.1
          obtain ⟨νc', h4, h5, h6⟩ := hE.upd_ hF hpr hp.1 hqs hal hx hq (by omega) (hold p p0 (by simp))
          obtain ⟨νc2, g1, g2, g3⟩ := EndI.ups hF hqs hal (k' :: r) b' rem remC n1 p1 νc' hpF' h4 hp.2 hnd.2 (fun p2 p02 h7 => hold p2 p02 (by simp [h7])) hy (by omega)
          have hio : inOs args 0 (p :: rem) (k :: k' :: r) (a', b') nm hpc = inOs args 0 rem (k' :: r) b' n1 p1 := by
            show (match upO args p k a' nm hpc with
              | (nm, hp) => inOs args 0 rem (k' :: r) b' nm hp) = _
            rw [hq]
          rw [hio]
          exact ⟨νc2, g1, g2, h5.trans g3⟩
    | [], [], _ => exact no_some (α := k.T × OKs (k' :: r)) h
theorem EndI.all (hF : FinOK F) {remC : List Nat} (hps : PairP F.νF F.ν F.ps remC) (hrq : ∀ q, q ∈ F.qs → q ∈ remC) (hnd : nodupN F.ps = true) {argsC args : List SV} (hqs : ∀ q, q ∈ F.qs → q ∈ slA argsC) (hal : ∀ i j q, cellOf argsC i j = .sl q → CRel F.hp F.ν (cellOf args i j) (F.νF q)) {hp0 : Hp}
    (hold : ∀ p p0, (p, p0) ∈ F.ps.zip remC → ∀ old0 t0 old t1, hp0 p0 = .box old0 t0 → F.hp p = .box old t1 → OldRel F old0 old) :
    ∀ (ks : List OK) (b : OKs ks) (xs : List SV) (vs : List Value) (nm : Nat) (hpc : Hp) (νc : Nat → Value) (hpF : Hp), EndI F F.ps remC nm hpc νc hpF → VsRel hpF F.νF xs vs → exOs argsC hp0 remC xs remC ks hpF = some b → nm + OK.news ks ≤ F.top →
      ∃ νc', Mem F.base F.G F.w0 F.wF (inOs args xs.length F.ps ks b nm hpc).2 νc' ∧ TsRel (inOs args xs.length F.ps ks b nm hpc).2 νc' (inOs args xs.length F.ps ks b nm hpc).1 vs ∧ Ext hpc νc (inOs args xs.length F.ps ks b nm hpc).2 νc'
  | ks, b, [], vs, nm, hpc, νc, hpF, hE, hv, h, htop => by
    match vs, hv with
    | [], _ =>
      obtain ⟨νc', h1, h2, h3⟩ := EndI.ups hF hqs hal ks b F.ps remC nm hpc νc hpF hE hps hnd hold h htop
      exact ⟨νc', h1, by rw [List.length_nil, h2]; trivial, h3⟩
  | [], b, x :: xs, vs, nm, hpc, νc, hpF, hE, hv, h, htop => by
    have : exOs argsC hp0 remC (x :: xs) remC [] hpF = none := by cases xs <;> cases remC <;> first | rfl | (rename_i qs; cases qs <;> rfl)
    rw [this] at h
    exact no_some h
  | [k], b, x :: xs, vs, nm, hpc, νc, hpF, hE, hv, h, htop => by
    match xs, vs, hv with
    | [], [v], hv =>
      match hrc : remC with
      | p :: qs => subst hrc; exact no_some (α := k.T) h
      | [] =>
        subst hrc
        have h2 : (match exO argsC [] hpF k x with
          | some (a, _) => some a
          | none => none) = some b := h
        cases hx : exO argsC [] hpF k x with
        | none => rw [hx] at h2; exact no_some h2
        | some res =>
          obtain ⟨b', hpF'⟩ := res
          rw [hx] at h2
          have h3 : some b' = some b := h2
          injection h3 with h3
          subst h3
          generalize hq : inO args k b' nm hpc = q
          obtain ⟨r, n1, p1⟩ := q
          obtain ⟨νc', h4, h5, h6, h7, h8⟩ := hE.val hF hrq hqs hal hx hv.1 hq htop
          have hio : inOs args 1 F.ps [k] b' nm hpc = ([r], p1) := by
            show (match inO args k b' nm hpc with
              | (v, nm, hp) => ([v], hp)) = _
            rw [hq]
          have hpsn : F.ps = [] := by
            cases hfp : F.ps with
            | nil => rfl
            | cons p ps => rw [hfp] at hps; exact hps.elim
          show ∃ νc', Mem F.base F.G F.w0 F.wF (inOs args 1 F.ps [k] b' nm hpc).2 νc' ∧ _
          refine ⟨νc', ?_, ?_, ?_⟩
          · show Mem F.base F.G F.w0 F.wF (inOs args 1 F.ps [k] b' nm hpc).2 νc'
            rw [hio]
            have := h4.mem
            rw [hpsn, deadOf_nil] at this
            exact this
          · show TsRel (inOs args 1 F.ps [k] b' nm hpc).2 νc' (inOs args 1 F.ps [k] b' nm hpc).1 [v]
            rw [hio]
            exact ⟨h5, trivial⟩
          · show Ext hpc νc (inOs args 1 F.ps [k] b' nm hpc).2 νc'
            rw [hio]
            exact h6
    | _ :: _, _, _ => exact no_some (α := k.T) h
    | [], _ :: _ :: _, hv => exact hv.2.elim
    | [], [], hv => exact hv.elim
  | k :: k' :: r, b, x :: xs, vs, nm, hpc, νc, hpF, hE, hv, h, htop => by
    match vs, hv with
    | v :: vs, hv =>
      have h2 : ((match exO argsC remC hpF k x with
        | some (a, hp) => match exOs argsC hp0 remC xs remC (k' :: r) hp with
          | some b => some (a, b)
          | none => none
        | none => none) : Option (k.T × OKs (k' :: r))) = some b := by
          cases xs with
          | nil => cases remC <;> exact h
          | cons _ _ => exact h
      clear h
      cases hx : exO argsC remC hpF k x with
      | none => rw [hx] at h2; exact no_some (α := k.T × OKs (k' :: r)) h2
      | some res =>
        obtain ⟨a', hpF'⟩ := res
        rw [hx] at h2
        simp only [] at h2
        cases hy : exOs argsC hp0 remC xs remC (k' :: r) hpF' with
        | none => rw [hy] at h2; exact no_some (α := k.T × OKs (k' :: r)) h2
        | some b' =>
          rw [hy] at h2
          have h3 : some (a', b') = some b := h2
          injection h3 with h3
          subst h3
          generalize hq : inO args k a' nm hpc = q
          obtain ⟨r1, n1, p1⟩ := q
          rw [onews_cons] at htop
          obtain ⟨νc', h4, h5, h6, h7, h8⟩ := hE.val hF hrq hqs hal hx hv.1 hq (by omega)
          have hvs : VsRel hpF' F.νF xs vs := vs_mono h7 hv.2
          obtain ⟨νc2, g1, g2, g3⟩ := EndI.all hF hps hrq hnd hqs hal hold (k' :: r) b' xs vs n1 p1 νc' hpF' h4 hvs hy (by omega)
          have hio : inOs args (xs.length + 1) F.ps (k :: k' :: r) (a', b') nm hpc = (r1 :: (inOs args xs.length F.ps (k' :: r) b' n1 p1).1, (inOs args xs.length F.ps (k' :: r) b' n1 p1).2) := by
            show (match inO args k a' nm hpc with
              | (v, nm, hp) => match inOs args xs.length F.ps (k' :: r) b' nm hp with
                | (vs, hp) => (v :: vs, hp)) = _
            rw [hq]
          show ∃ νc', Mem F.base F.G F.w0 F.wF (inOs args (xs.length + 1) F.ps (k :: k' :: r) (a', b') nm hpc).2 νc' ∧ TsRel (inOs args (xs.length + 1) F.ps (k :: k' :: r) (a', b') nm hpc).2 νc' (inOs args (xs.length + 1) F.ps (k :: k' :: r) (a', b') nm hpc).1 (v :: vs) ∧ Ext hpc νc (inOs args (xs.length + 1) F.ps (k :: k' :: r) (a', b') nm hpc).2 νc'
          rw [hio]
          exact ⟨νc2, g1, ⟨h5.mono g3, g2⟩, h6.trans g3⟩
    | [], hv => exact hv.elim
end
end Go.Sx
