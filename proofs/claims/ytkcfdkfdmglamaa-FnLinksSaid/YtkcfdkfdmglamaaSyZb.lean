/- Labels: from what is kept the walk goes on. -/
import Derived.Test.YtkcfdkfdmglamaaSyZa
set_option linter.unusedVariables false
set_option linter.unusedSimpArgs false
namespace Go.Sx
theorem hpL_some {l : List Ent} {n : Nat} (h : hpL l n ≠ .free) : ∃ E, l[n]? = some E ∧ hpL l n = E := by
  unfold hpL at h ⊢
  split at h
  · rename_i E hE; exact ⟨E, hE, rfl⟩
  · exact absurd rfl h
theorem own_nil (w : World) (base : Nat) (e : TypeId) (size : Nat) : w.ownsRow base e size (.slice none 0 0) 0 [] := ⟨by simp, .inl ⟨rfl, rfl⟩⟩
theorem abs_holds {L : LP} {A : Cx} {σ : St} {s : L.T} (hs : L.abs σ = some s) (hini : ∀ n, A.hp0 n ≠ .free → n < L.ini) {a : Act} {w : World} (hH : Holds A σ a w) : Holds A (L.con s) a w := by
  obtain ⟨ν, hH⟩ := hH
  obtain ⟨ρ1, a1, a2, a3⟩ := absT_spec L.ts (ini0 L.ini) s hs
  obtain ⟨ρ, b1, b2, b3⟩ := absE_spec L.es 0 ρ1 _ a2
  have hfin : finR L.es ρ = true := by
    cases hf : finR L.es ρ with
    | true => rfl
    | false => simp only [hf] at b2; exact no_some b2
  have hH2 := b3 ρ (.refl _)
  have hT := a3 ρ b1
  show Holds A ⟨tmL (conT (X := EPs Unit L.es) L.ts s).1, hpL (conE (X := Unit) L.es (conT (X := EPs Unit L.es) L.ts s).2).1, _⟩ a w
  refine holds_nx (σ := ⟨tmL (conT (X := EPs Unit L.es) L.ts s).1, hpL (conE (X := Unit) L.es (conT (X := EPs Unit L.es) L.ts s).2).1, 0⟩) ?_
  generalize (conT (X := EPs Unit L.es) L.ts s).1 = ts at *
  generalize (conE (X := Unit) L.es (conT (X := EPs Unit L.es) L.ts s).2).1 = l at *
  obtain ⟨hlen, hent⟩ := hH2
  have hall := List.all_eq_true.1 hfin
  have hdom : ∀ n x, look ρ n = some x → n < L.es.length := fun n x hl => by
    have := hall _ (look_mem hl)
    rw [Bool.and_eq_true] at this
    exact Nat.le_of_ble_eq_true this.1
  have hin : ∀ n E, l[n]? = some E → ME ρ σ.hp n E ∧ kindOK L.es[n]? E := fun n E hE => by
    have := hent n E hE
    rw [Nat.zero_add] at this
    exact this
  have hnf : ∀ n x, look ρ n = some x → hpL l n ≠ .free := fun n x hl hf => by
    have h1 : n < l.length := by rw [hlen]; exact hdom n x hl
    have h2 := hin n l[n] (List.getElem?_eq_getElem h1)
    unfold hpL at hf
    rw [List.getElem?_eq_getElem h1] at hf
    simp only [] at hf
    rw [hf] at h2
    exact h2.1
  have hwr : ∀ n, wrE (hpL l n) → wrP L.es[n]? = true ∧ ((∃ q, look ρ n = some (some q) ∧ wrE (σ.hp q)) ∨ look ρ n = some none) := fun n hn => by
    obtain ⟨E, hE, he⟩ := hpL_some (l := l) (n := n) (fun h => by rw [h] at hn; exact hn)
    rw [he] at hn
    obtain ⟨h1, h2⟩ := hin n E hE
    refine ⟨h2.1 hn, ?_⟩
    cases E with
    | free => exact h1.elim
    | dead => exact hn.elim
    | box cs2 t =>
      obtain ⟨q, cs, hl, hq, _⟩ := h1
      exact .inl ⟨q, hl, by rw [hq]; trivial⟩
    | row ty l0 e =>
      rcases h1 with ⟨q, hl, hq⟩ | ⟨hl, _⟩
      · exact .inl ⟨q, hl, by rw [hq]; trivial⟩
      · exact .inr hl
    | ro ty l0 e => exact hn.elim
    | ex ty l0 e => exact h1.elim
  have hlv : ∀ n, lvE (hpL l n) → lvP L.es[n]? = true ∧ ((∃ q, look ρ n = some (some q) ∧ lvE (σ.hp q)) ∨ look ρ n = some none) := fun n hn => by
    obtain ⟨E, hE, he⟩ := hpL_some (l := l) (n := n) (fun h => by rw [h] at hn; exact hn)
    rw [he] at hn
    obtain ⟨h1, h2⟩ := hin n E hE
    refine ⟨h2.2 hn, ?_⟩
    cases E with
    | free => exact h1.elim
    | dead => exact hn.elim
    | box cs2 t =>
      obtain ⟨q, cs, hl, hq, _⟩ := h1
      exact .inl ⟨q, hl, by rw [hq]; trivial⟩
    | row ty l0 e =>
      rcases h1 with ⟨q, hl, hq⟩ | ⟨hl, _⟩
      · exact .inl ⟨q, hl, by rw [hq]; trivial⟩
      · exact .inr hl
    | ro ty l0 e =>
      rcases h1 with ⟨q, e', hl, hq⟩ | ⟨hl, _⟩
      · exact .inl ⟨q, hl, by rw [hq]; exact hn⟩
      · exact .inr hl
    | ex ty l0 e => exact h1.elim
  have hνs : ∀ n q, look ρ n = some (some q) → νL ρ ν n = ν q := fun n q hl => by unfold νL; rw [hl]
  have hνn : ∀ n, look ρ n = some none → νL ρ ν n = .slice none 0 0 := fun n hl => by unfold νL; rw [hl]
  refine ⟨νL ρ ν, fun t => (hT t).rel hnf (hH.tm t), ⟨fun n => ?_, fun n m hne hwn hlm g hg => ?_, fun n hwn g hg => ?_, hH.mem.fr⟩, ⟨fun n hn => ?_⟩, hH.defers, hH.size⟩
  · show EntRel A.base (hpL l) (νL ρ ν) w (hpL l n) (νL ρ ν n)
    by_cases hf : hpL l n = .free
    · rw [hf]; trivial
    · obtain ⟨E, hE, he⟩ := hpL_some hf
      rw [he]
      have h1 := (hin n E hE).1
      cases E with
      | free => exact h1.elim
      | dead => trivial
      | box cs2 t =>
        obtain ⟨q, cs, hl, hq, hm⟩ := h1
        have h2 := hH.mem.ent q
        rw [hq] at h2
        obtain ⟨g, vs, h3, h4, h5⟩ := h2
        exact ⟨g, vs, (hνs n q hl).trans h3, h4, hm.rel hnf h5⟩
      | row ty l0 e =>
        rcases h1 with ⟨q, hl, hq⟩ | ⟨hl, rfl⟩
        · have h2 := hH.mem.ent q
          rw [hq] at h2
          rw [hνs n q hl]
          exact h2
        · rw [hνn n hl]
          exact own_nil w 0 e ty.size
      | ex ty l0 e => exact h1.elim
      | ro ty l0 e =>
        rcases h1 with ⟨q, e', hl, hq⟩ | ⟨hl, rfl⟩
        · have h2 := hH.mem.ent q
          rw [hq] at h2
          rw [hνs n q hl]
          exact h2
        · rw [hνn n hl]
          exact ⟨none, 0, rfl, Nat.le_refl _, Nat.zero_le _, fun h => absurd rfl h⟩
  · obtain ⟨h1, h2⟩ := hwr n hwn
    obtain ⟨h3, h4⟩ := hlv m hlm
    rcases h2 with ⟨q, hl, hq⟩ | hl
    · rcases h4 with ⟨q', hl', hq'⟩ | hl'
      · have hqq : q ≠ q' := by
          intro e
          subst e
          have h5 := hall _ (look_mem hl)
          rw [Bool.and_eq_true, Bool.or_eq_true] at h5
          rcases h5.2 with h6 | h6
          · simp only [h1] at h6; cases h6
          · have h7 := List.all_eq_true.1 h6 _ (look_mem hl')
            simp only [h3, Bool.not_true, Bool.false_or, Bool.or_eq_true] at h7
            rcases h7 with h7 | h7
            · exact hne (beq_nat h7).symm
            · simp only [sameO, Nat.beq_refl] at h7
              cases h7
        rw [hνs n q hl] at hg
        rw [hνs m q' hl']
        exact hH.mem.sep q q' hqq hq hq' g hg
      · rw [hνn m hl']; intro hc; cases hc
    · rw [hνn n hl] at hg; cases hg
  · obtain ⟨_, h2⟩ := hwr n hwn
    rcases h2 with ⟨q, hl, hq⟩ | hl
    · rw [hνs n q hl] at hg
      exact hH.mem.mine q hq g hg
    · rw [hνn n hl] at hg; cases hg
  · have hlk : look ρ n = some (some n) := b1 _ _ (a1 _ _ (look_ini (hini n hn)))
    exact ⟨hnf n _ hlk, (hνs n n hlk).trans (hH.ext.keep n hn).2⟩
/-! ### the names of a begin -/
theorem iC_free (k : CK) (x : k.T) (nm : Nat) (hp : Hp) (h : ∀ n, nm ≤ n → hp n = .free) : nm ≤ (iC nm hp k x).2.1 ∧ ∀ n, (iC nm hp k x).2.1 ≤ n → (iC nm hp k x).2.2 n = .free := by
  cases k with
  | sl t => exact ⟨Nat.le_succ _, fun n (hn : nm + 1 ≤ n) => (upd_other _ _ (by omega)).trans (h n (by omega))⟩
  | _ => exact ⟨Nat.le_refl _, h⟩
theorem iCs_free : ∀ (ks : List CK) (x : CKs ks) (nm : Nat) (hp : Hp), (∀ n, nm ≤ n → hp n = .free) → nm ≤ (iCs ks x nm hp).2.1 ∧ ∀ n, (iCs ks x nm hp).2.1 ≤ n → (iCs ks x nm hp).2.2 n = .free
  | [], x, nm, hp, h => ⟨Nat.le_refl _, h⟩
  | [k], x, nm, hp, h => iC_free k x nm hp h
  | k :: k' :: r, x, nm, hp, h => by
    obtain ⟨h1, h2⟩ := iC_free k x.1 nm hp h
    obtain ⟨h3, h4⟩ := iCs_free (k' :: r) x.2 _ _ h2
    exact ⟨Nat.le_trans h1 h3, h4⟩
theorem iW_free (k : WK) (x : k.T) (nm : Nat) (hp : Hp) (h : ∀ n, nm ≤ n → hp n = .free) : nm ≤ (iW nm hp k x).2.1 ∧ ∀ n, (iW nm hp k x).2.1 ≤ n → (iW nm hp k x).2.2 n = .free := by
  cases k with
  | c k => exact iC_free k x nm hp h
  | row t e => exact ⟨Nat.le_succ _, fun n (hn : nm + 1 ≤ n) => (upd_other _ _ (by omega)).trans (h n (by omega))⟩
theorem iWs_free : ∀ (ks : List WK) (x : WKs ks) (nm : Nat) (hp : Hp), (∀ n, nm ≤ n → hp n = .free) → nm ≤ (iWs ks x nm hp).2.1 ∧ ∀ n, (iWs ks x nm hp).2.1 ≤ n → (iWs ks x nm hp).2.2 n = .free
  | [], x, nm, hp, h => ⟨Nat.le_refl _, h⟩
  | [k], x, nm, hp, h => iW_free k x nm hp h
  | k :: k' :: r, x, nm, hp, h => by
    obtain ⟨h1, h2⟩ := iW_free k x.1 nm hp h
    obtain ⟨h3, h4⟩ := iWs_free (k' :: r) x.2 _ _ h2
    exact ⟨Nat.le_trans h1 h3, h4⟩
theorem iA_free (k : AK) (x : k.T) (nm : Nat) (hp : Hp) (h : ∀ n, nm ≤ n → hp n = .free) : nm ≤ (iA k x nm hp).2.1 ∧ ∀ n, (iA k x nm hp).2.1 ≤ n → (iA k x nm hp).2.2 n = .free := by
  cases k with
  | c k => exact iC_free k x nm hp h
  | agg ks => exact iCs_free ks x nm hp h
  | w g ks => exact iWs_free ks x nm hp h
  | ptr ks t =>
    obtain ⟨h1, h2⟩ := iCs_free ks x (nm + 1) hp (fun n hn => h n (by omega))
    refine ⟨Nat.le_trans (Nat.le_succ _) h1, fun n hn => ?_⟩
    have hn : (iCs ks x (nm + 1) hp).2.1 ≤ n := hn
    exact (upd_other _ _ (by omega)).trans (h2 n hn)
theorem iAs_free : ∀ (ks : List AK) (x : AKs ks) (nm : Nat) (hp : Hp), (∀ n, nm ≤ n → hp n = .free) → nm ≤ (iAs ks x nm hp).2.1 ∧ ∀ n, (iAs ks x nm hp).2.1 ≤ n → (iAs ks x nm hp).2.2 n = .free
  | [], x, nm, hp, h => ⟨Nat.le_refl _, h⟩
  | [k], x, nm, hp, h => iA_free k x nm hp h
  | k :: k' :: r, x, nm, hp, h => by
    obtain ⟨h1, h2⟩ := iA_free k x.1 nm hp h
    obtain ⟨h3, h4⟩ := iAs_free (k' :: r) x.2 _ _ h2
    exact ⟨Nat.le_trans h1 h3, h4⟩
theorem st0_free (ks : List AK) (x : AKs ks) (n : Nat) (h : (st0 ks x).hp n ≠ .free) : n < (st0 ks x).nx := by
  refine Nat.lt_of_not_le fun hle => h ?_
  exact (iAs_free ks x 0 (fun _ => .free) (fun _ _ => rfl)).2 n hle
/-! ### a function's labels -/
structure Lab (R : Type) where
  id : Nat
  L : LP
  fn : Nat → L.T → Option R
section
variable {R : Type}
def labOf : List (Lab R) → Nat → Option (Lab R)
  | [], _ => none
  | l :: r, j => cnd (Nat.beq l.id j) (some l) (labOf r j)
def JL (ls : List (Lab R)) (k j : Nat) (σ : St) : Option R :=
  match labOf ls j with
  | some l => match l.L.abs σ with
    | some s => l.fn k s
    | none => none
  | none => none
def siteN : List (Nat × (Nat → St → Option R)) → Nat → Nat → St → Option R
  | [], _ => fun _ _ => none
  | p :: _, 0 => p.2
  | _ :: r, n + 1 => siteN r n
inductive LabsOK (ini : Nat) (ls : List (Lab R)) (ss : List (Nat × (Nat → St → Option R))) : Nat → List Nat → Prop
  | nil (n : Nat) : LabsOK ini ls ss n []
  | cons {n j : Nat} {r : List Nat} (l : Lab R) (hl : labOf ls j = some l) (hi : l.L.ini = ini) (h0 : (fun s => l.fn 0 s) = fun _ => none) (h1 : (fun k s => l.fn (k + 1) s) = fun k s => siteN ss n k (l.L.con s)) (h : LabsOK ini ls ss (n + 1) r) : LabsOK ini ls ss n (j :: r)
theorem siteN_get : ∀ {ss : List (Nat × (Nat → St → Option R))} {n : Nat} {p : Nat × (Nat → St → Option R)}, ss[n]? = some p → siteN ss n = p.2
  | p :: _, 0, _, h => by simp at h; subst h; rfl
  | _ :: r, n + 1, _, h => siteN_get (ss := r) (n := n) (by simpa using h)
theorem LabsOK.at {ini : Nat} {ls : List (Lab R)} {ss : List (Nat × (Nat → St → Option R))} : ∀ {m : Nat} {ids : List Nat}, LabsOK ini ls ss m ids → ∀ n j, ids[n]? = some j → ∃ l, labOf ls j = some l ∧ l.L.ini = ini ∧ (∀ s, l.fn 0 s = none) ∧ ∀ k s, l.fn (k + 1) s = siteN ss (m + n) k (l.L.con s)
  | m, _, .nil _, n, j, h => by simp at h
  | m, _, .cons l hl hi h0 h1 hr, n, j, h => by
    cases n with
    | zero => simp at h; subst h; exact ⟨l, hl, hi, fun s => congrFun h0 s, fun k s => congrFun (congrFun h1 k) s⟩
    | succ n =>
      have := hr.at n j (by simpa using h)
      rw [show m + 1 + n = m + (n + 1) by omega] at this
      exact this
theorem sites_ok {F : Fix R} {A : Cx} {ls : List (Lab R)} (hJ : F.J = JL ls) {ss : List (Nat × (Nat → St → Option R))} {ids : List Nat} (hids : ss.map (·.1) = ids) {ini : Nat} (hini : ∀ n, A.hp0 n ≠ .free → n < ini) (h : LabsOK ini ls ss 0 ids) : ∀ p ∈ ss, SiteOK F A p := by
  intro p hp
  obtain ⟨n, hn⟩ := List.getElem?_of_mem hp
  obtain ⟨l, hl, hi, h0, h1⟩ := h.at n p.1 (by rw [← hids]; simp [hn])
  rw [Nat.zero_add, siteN_get hn] at h1
  have hJ1 : ∀ k σ, F.J k p.1 σ = (match l.L.abs σ with
    | some s => l.fn k s
    | none => none) := fun k σ => by rw [hJ]; unfold JL; rw [hl]
  refine ⟨fun σ => ?_, fun k σ r hr => ?_⟩
  · rw [hJ1]
    split
    · exact h0 _
    · rfl
  · rw [hJ1] at hr
    split at hr
    · rename_i s hs
      rw [h1] at hr
      exact ⟨l.L.con s, fun a w hH => abs_holds hs (by rw [hi]; exact hini) hH, hr⟩
    · cases hr
end
/-- A function's walk, from its labels. -/
def mkF (P : Program) (N : Nat) (G : FuncId → Option Con) (jn : List Nat) {R : Type} (ls : List (Lab R)) : Fix R := ⟨P, N, G, fun j => memN j jn, JL ls⟩
theorem fun_ok {P : Program} {f : FuncId} {fn : Func} {c : Code} (con : Con) (G : FuncId → Option Con) (jn : List Nat) (ls : List (Lab (OKs con.rk))) (hm : P.follows .mixedOrders = true) (hf : P.funcs[f]? = some fn) (hname : (fn.name == "runtime.NumGoroutine") = false) (hb : fn.body = some c)
    (hak : Nat.ble con.ak.length fn.ntmps = true) (hG : ∀ f con', G f = some con' → CtrOK P f con') (hden : con.fn = fun k x => denF ((mkF P fn.ntmps G jn ls).C k) con ((mkF P fn.ntmps G jn ls).L k) c fn.results.toList x)
    (ids : List Nat) (ini : Nat) (hini : (fun x => (st0 con.ak x).nx) = fun _ => ini)
    (hids : (fun x => (sites (mkF P fn.ntmps G jn ls) c (fun k => kret ((mkF P fn.ntmps G jn ls).C k) con fn.results.toList (args0 con.ak x) (st0 con.ak x).hp)).map (·.1)) = fun _ => ids)
    (hlabs : ∀ x, LabsOK ini ls (sites (mkF P fn.ntmps G jn ls) c (fun k => kret ((mkF P fn.ntmps G jn ls).C k) con fn.results.toList (args0 con.ak x) (st0 con.ak x).hp)) 0 ids) : CtrOK P f con :=
  con_sound con (mkF P fn.ntmps G jn ls) rfl hf hname hb rfl (Nat.le_of_ble_eq_true hak) hG (fun A hA => draw_sound hm hG hA.symm) (fun k x b h => by rw [hden] at h; exact h)
    (fun x A hA _ p hp => sites_ok rfl (congrFun hids x) (fun n hn => by rw [hA] at hn; have := st0_free con.ak x n hn; rw [congrFun hini x] at this; exact this) (hlabs x) p hp)
/-- Of a function that has no labels. -/
theorem fun_ok0 {P : Program} {f : FuncId} {fn : Func} {c : Code} (con : Con) (G : FuncId → Option Con) (hm : P.follows .mixedOrders = true) (hf : P.funcs[f]? = some fn) (hname : (fn.name == "runtime.NumGoroutine") = false) (hb : fn.body = some c)
    (hak : Nat.ble con.ak.length fn.ntmps = true) (hG : ∀ f con', G f = some con' → CtrOK P f con') (hden : con.fn = fun k x => denF ((mkF P fn.ntmps G [] ([] : List (Lab (OKs con.rk)))).C k) con ((mkF P fn.ntmps G [] ([] : List (Lab (OKs con.rk)))).L k) c fn.results.toList x)
    (hids : (fun x => (sites (mkF P fn.ntmps G [] ([] : List (Lab (OKs con.rk)))) c (fun k => kret ((mkF P fn.ntmps G [] ([] : List (Lab (OKs con.rk)))).C k) con fn.results.toList (args0 con.ak x) (st0 con.ak x).hp)).map (·.1)) = fun _ => []) : CtrOK P f con :=
  con_sound con (mkF P fn.ntmps G [] ([] : List (Lab (OKs con.rk)))) rfl hf hname hb rfl (Nat.le_of_ble_eq_true hak) hG (fun A hA => draw_sound hm hG hA.symm) (fun k x b h => by rw [hden] at h; exact h)
    (fun x A hA _ p hp => by
      have := congrFun hids x
      simp only [List.map_eq_nil_iff] at this
      rw [this] at hp
      cases hp)
/-! the callees' contracts -/
def gOf : List (Nat × Con) → FuncId → Option Con
  | [], _ => none
  | (i, c) :: r, f => cnd (Nat.beq i f) (some c) (gOf r f)
theorem gOf_nil {P : Program} : ∀ f con, gOf [] f = some con → CtrOK P f con := fun _ _ h => no_some h
theorem gOf_cons {P : Program} {i : Nat} {c : Con} {r : List (Nat × Con)} (h : CtrOK P i c) (hr : ∀ f con, gOf r f = some con → CtrOK P f con) : ∀ f con, gOf ((i, c) :: r) f = some con → CtrOK P f con := by
  intro f con hf
  have hf : cnd (Nat.beq i f) (some c) (gOf r f) = some con := hf
  by_cases e : i = f
  · subst e
    rw [Nat.beq_refl] at hf
    have hf : some c = some con := hf
    injection hf with hf
    subst hf
    exact h
  · rw [beq_ne e] at hf
    exact hr f con hf
end Go.Sx
