/- A call's end: what it hands back, and what the boxes that it was handed hold. -/
import Derived.Test.YtkcfdkfdmglamaaSyN
set_option linter.unusedVariables false
set_option linter.unusedSimpArgs false
namespace Go.Sx
section inv
variable {args : List SV} {old : SC} {hpF hpF' : Hp}
theorem exC_int {k : IntKind} {x : SC} {b : Int} (h : exC args old hpF (.int k) x = some (b, hpF')) : x = .int k b ∧ hpF' = hpF := by
  cases x with
  | int k' n =>
    have h2 : (cnd (keq k k') (some (n, hpF)) none : Option (Int × Hp)) = some (b, hpF') := h
    clear h
    cases hk : keq k k' with
    | false => rw [hk] at h2; exact no_some h2
    | true =>
      rw [hk] at h2
      have := keq_eq hk
      subst this
      have h3 : some (n, hpF) = some (b, hpF') := h2
      injection h3 with h3
      injection h3 with h3 h4
      subst h3 h4
      exact ⟨rfl, rfl⟩
  | _ => exact no_some (α := Int × Hp) h
theorem exC_bool {x : SC} {b : Bool} (h : exC args old hpF .bool x = some (b, hpF')) : ∃ s, x = .bool s ∧ b = s.b ∧ hpF' = hpF := by
  cases x with
  | bool s =>
    have h3 : some (s.b, hpF) = some (b, hpF') := h
    injection h3 with h3
    injection h3 with h3 h4
    exact ⟨s, rfl, h3.symm, h4.symm⟩
  | _ => exact no_some (α := Bool × Hp) h
theorem exC_str {x : SC} {b : ByteArray} (h : exC args old hpF .str x = some (b, hpF')) : x = .str b ∧ hpF' = hpF := by
  cases x with
  | str s =>
    have h3 : some (s, hpF) = some (b, hpF') := h
    injection h3 with h3
    injection h3 with h3 h4
    subst h3 h4
    exact ⟨rfl, rfl⟩
  | _ => exact no_some (α := ByteArray × Hp) h
theorem exC_own {t : Ty} {e : TypeId} {x : SC} {b : List t.T} (h : exC args old hpF (.own t e) x = some (b, hpF')) : (∃ n, x = .sl n ∧ hpF n = .row t b e ∧ hpF' = upd hpF n .dead ∧ n ∉ slA args) ∨ (x = .nils ∧ b = [] ∧ hpF' = hpF) := by
  cases x with
  | sl n =>
    have h2 : (match hpF n with
      | .row t' l e' => match t'.dec t with
        | some ⟨h⟩ => cnd (Nat.beq e e' && !(memN n (slA args))) (some ((h ▸ l : List t.T), upd hpF n .dead)) none
        | none => none
      | _ => none) = some (b, hpF') := h
    clear h
    left
    refine ⟨n, rfl, ?_⟩
    cases hr : hpF n with
    | row t' l e' =>
      rw [hr] at h2
      have h3 : (match t'.dec t with
        | some ⟨h⟩ => cnd (Nat.beq e e' && !(memN n (slA args))) (some ((h ▸ l : List t.T), upd hpF n .dead)) none
        | none => none) = some (b, hpF') := h2
      clear h2
      split at h3
      · rename_i heq _
        subst heq
        cases he : (Nat.beq e e' && !(memN n (slA args))) with
        | false => rw [he] at h3; exact no_some (α := List t'.T × Hp) h3
        | true =>
          rw [he] at h3
          rw [Bool.and_eq_true, Bool.not_eq_true'] at he
          have := Nat.eq_of_beq_eq_true he.1
          subst this
          have h4 : some (l, upd hpF n .dead) = some (b, hpF') := h3
          injection h4 with h4
          injection h4 with h4 h5
          subst h4
          exact ⟨rfl, h5.symm, fun hin => by rw [memN_iff.2 hin] at he; cases he.2⟩
      · exact no_some h3
    | _ => rw [hr] at h2; exact no_some (α := List t.T × Hp) h2
  | nils =>
    have h3 : some (([] : List t.T), hpF) = some (b, hpF') := h
    injection h3 with h3
    injection h3 with h3 h4
    exact .inr ⟨rfl, h3.symm, h4.symm⟩
  | _ => exact no_some (α := List t.T × Hp) h
theorem exC_exr {t : Ty} {e : TypeId} {x : SC} {b : List t.T} (h : exC args old hpF (.exr t e) x = some (b, hpF')) : (∃ n, x = .sl n ∧ (∃ e', hpF n = .row t b e' ∨ hpF n = .ex t b e') ∧ hpF' = upd hpF n .dead ∧ n ∉ slA args) ∨ (x = .nils ∧ b = [] ∧ hpF' = hpF) := by
  cases x with
  | sl n =>
    have h2 : (match hpF n with
      | .row t' l e' => match t'.dec t with
        | some ⟨h⟩ => cnd (!(memN n (slA args))) (some ((h ▸ l : List t.T), upd hpF n .dead)) none
        | none => none
      | .ex t' l e' => match t'.dec t with
        | some ⟨h⟩ => cnd (!(memN n (slA args))) (some ((h ▸ l : List t.T), upd hpF n .dead)) none
        | none => none
      | _ => none) = some (b, hpF') := h
    clear h
    left
    refine ⟨n, rfl, ?_⟩
    cases hr : hpF n with
    | row t' l e' =>
      rw [hr] at h2
      have h3 : (match t'.dec t with
        | some ⟨h⟩ => cnd (!(memN n (slA args))) (some ((h ▸ l : List t.T), upd hpF n .dead)) none
        | none => none) = some (b, hpF') := h2
      clear h2
      split at h3
      · rename_i heq _
        subst heq
        cases he : (!(memN n (slA args))) with
        | false => rw [he] at h3; exact no_some (α := List t'.T × Hp) h3
        | true =>
          rw [he] at h3
          rw [Bool.not_eq_true'] at he
          have h4 : some (l, upd hpF n .dead) = some (b, hpF') := h3
          injection h4 with h4
          injection h4 with h4 h5
          subst h4
          exact ⟨⟨e', .inl rfl⟩, h5.symm, fun hin => by rw [memN_iff.2 hin] at he; cases he⟩
      · exact no_some h3
    | ex t' l e' =>
      rw [hr] at h2
      have h3 : (match t'.dec t with
        | some ⟨h⟩ => cnd (!(memN n (slA args))) (some ((h ▸ l : List t.T), upd hpF n .dead)) none
        | none => none) = some (b, hpF') := h2
      clear h2
      split at h3
      · rename_i heq _
        subst heq
        cases he : (!(memN n (slA args))) with
        | false => rw [he] at h3; exact no_some (α := List t'.T × Hp) h3
        | true =>
          rw [he] at h3
          rw [Bool.not_eq_true'] at he
          have h4 : some (l, upd hpF n .dead) = some (b, hpF') := h3
          injection h4 with h4
          injection h4 with h4 h5
          subst h4
          exact ⟨⟨e', .inr rfl⟩, h5.symm, fun hin => by rw [memN_iff.2 hin] at he; cases he⟩
      · exact no_some h3
    | _ => rw [hr] at h2; exact no_some (α := List t.T × Hp) h2
  | nils =>
    have h3 : some (([] : List t.T), hpF) = some (b, hpF') := h
    injection h3 with h3
    injection h3 with h3 h4
    exact .inr ⟨rfl, h3.symm, h4.symm⟩
  | _ => exact no_some (α := List t.T × Hp) h
theorem sameSl_some {x y : SC} (h : sameSl x y = true) : ∃ q, x = .sl q ∧ y = .sl q := by
  cases x with
  | sl n => cases y with
    | sl m => have := Nat.eq_of_beq_eq_true h; subst this; exact ⟨n, rfl, rfl⟩
    | _ => cases h
  | _ => cases y <;> cases h
theorem exC_al {i j : Nat} {x : SC} {b : Unit} (h : exC args old hpF (.al i j) x = some (b, hpF')) : ∃ q, x = .sl q ∧ cellOf args i j = .sl q ∧ hpF' = hpF := by
  have h2 : (cnd (sameSl x (cellOf args i j)) (some ((), hpF)) none : Option (Unit × Hp)) = some (b, hpF') := by cases x <;> exact h
  clear h
  cases hs : sameSl x (cellOf args i j) with
  | false => rw [hs] at h2; exact no_some h2
  | true =>
    rw [hs] at h2
    have h3 : some ((), hpF) = some (b, hpF') := h2
    injection h3 with h3
    injection h3 with _ h4
    obtain ⟨q, h5, h6⟩ := sameSl_some hs
    exact ⟨q, h5, h6, h4.symm⟩
theorem exC_keep {x : SC} {b : Unit} (h : exC args old hpF .keep x = some (b, hpF')) : ∃ q, x = .sl q ∧ old = .sl q ∧ hpF' = hpF := by
  have h2 : (cnd (sameSl x old) (some ((), hpF)) none : Option (Unit × Hp)) = some (b, hpF') := by cases x <;> exact h
  clear h
  cases hs : sameSl x old with
  | false => rw [hs] at h2; exact no_some h2
  | true =>
    rw [hs] at h2
    have h3 : some ((), hpF) = some (b, hpF') := h2
    injection h3 with h3
    injection h3 with _ h4
    obtain ⟨q, h5, h6⟩ := sameSl_some hs
    exact ⟨q, h5, h6, h4.symm⟩
theorem exCs_one (k : RK) (x : SC) (olds : List SC) : exCs args [k] [x] olds hpF = exC args (olds.headD .any) hpF k x := rfl
theorem exCs_cons (k k' : RK) (r : List RK) (x : SC) (y olds : List SC) : exCs args (k :: k' :: r) (x :: y) olds hpF = ((match exC args (olds.headD .any) hpF k x with
    | some (a, hp) => match exCs args (k' :: r) y olds.tail hp with
      | some (b, hp) => some ((a, b), hp)
      | none => none
    | none => none) : Option ((k.T × RKs (k' :: r)) × Hp)) := rfl
end inv
/-- A heap some of whose names are not to be looked at. -/
def deadOf (rem : List Nat) (hp : Hp) : Hp := fun n => cnd (memN n rem) .dead (hp n)
theorem deadOf_in {rem : List Nat} {hp : Hp} {n : Nat} (h : n ∈ rem) : deadOf rem hp n = .dead := by unfold deadOf; rw [memN_iff.2 h]; rfl
theorem memN_false {n : Nat} {l : List Nat} (h : n ∉ l) : memN n l = false := by
  cases hm : memN n l with
  | false => rfl
  | true => exact absurd (memN_iff.1 hm) h
theorem deadOf_out {rem : List Nat} {hp : Hp} {n : Nat} (h : n ∉ rem) : deadOf rem hp n = hp n := by unfold deadOf; rw [memN_false h]; rfl
theorem deadOf_upd {rem : List Nat} {hp : Hp} {n : Nat} (h : n ∉ rem) (e : Ent) : deadOf rem (upd hp n e) = upd (deadOf rem hp) n e := by
  funext k
  by_cases hk : k ∈ rem
  · have : k ≠ n := fun e => by subst e; exact h hk
    rw [deadOf_in hk, upd_other _ _ this, deadOf_in hk]
  · rw [deadOf_out hk]
    by_cases hkn : k = n
    · subst hkn; rw [upd_same, upd_same]
    · rw [upd_other _ _ hkn, upd_other _ _ hkn, deadOf_out hk]
theorem deadOf_nil (hp : Hp) : deadOf [] hp = hp := by funext k; rw [deadOf_out (by simp)]
theorem deadOf_ext {rem : List Nat} {hp : Hp} {ν : Nat → Value} (h : ∀ p, p ∈ rem → hp p ≠ .free) : Ext hp ν (deadOf rem hp) ν ∧ Ext (deadOf rem hp) ν hp ν := by
  constructor
  · refine ⟨fun n hn => ⟨?_, rfl⟩⟩
    by_cases hk : n ∈ rem
    · rw [deadOf_in hk]; simp
    · rw [deadOf_out hk]; exact hn
  · refine ⟨fun n hn => ⟨?_, rfl⟩⟩
    by_cases hk : n ∈ rem
    · exact h n hk
    · rw [deadOf_out hk] at hn; exact hn
section
variable {base : Nat} {G : Nat → Prop} {w0 w : World} {hp : Hp} {ν : Nat → Value}
/-- A name that was not looked at is looked at again. -/
theorem Mem.revive (h : Mem base G w0 w hp ν) {p : Nat} (hd : ¬ lvE (hp p)) (hnf : hp p ≠ .free) {e : Ent} (hfree : e ≠ .free) (he : EntRel base (upd hp p e) ν w e (ν p))
    (hsep : ∀ m, lvE (hp m) → ∀ g, blk (ν p) = some g → blk (ν m) ≠ some g) (hmine : ∀ g, blk (ν p) = some g → base ≤ g ∨ G g) : Mem base G w0 w (upd hp p e) ν := by
  have hext : Ext hp ν (upd hp p e) ν := ⟨fun n hn => ⟨by
    by_cases hq : n = p
    · subst hq; rw [upd_same]; exact hfree
    · rw [upd_other _ _ hq]; exact hn, rfl⟩⟩
  refine ⟨fun n => ?_, fun n m hne hwn hlm g hg => ?_, fun n hwn g hg => ?_, h.fr⟩
  · by_cases hnm : n = p
    · subst hnm; rw [upd_same]; exact he
    · rw [upd_other _ _ hnm]; exact (h.ent n).mono hext
  · by_cases hnn : n = p
    · subst hnn
      have hm : m ≠ n := fun e => hne e.symm
      rw [upd_other _ _ hm] at hlm
      exact hsep m hlm g hg
    · rw [upd_other _ _ hnn] at hwn
      by_cases hmm : m = p
      · subst hmm
        intro hc
        exact hsep n hwn.lv g hc hg
      · rw [upd_other _ _ hmm] at hlm
        exact h.sep n m hne hwn hlm g hg
  · by_cases hnn : n = p
    · subst hnn; exact hmine g hg
    · rw [upd_other _ _ hnn] at hwn
      exact h.mine n hwn g hg
theorem own_base_mono0 {B B' : Nat} (hB : B ≤ B') {e : TypeId} {size n : Nat} {v : Value} {xs : List Value} (h : w.ownsRow B' e size v n xs) : w.ownsRow B e size v n xs := by
  refine ⟨h.1, ?_⟩
  rcases h.2 with h2 | ⟨g, cap, cur, h1, h2, h3⟩
  · exact .inl h2
  · exact .inr ⟨g, cap, cur, h1, Nat.le_trans hB h2, h3⟩
end
/-- The two sides of a call that ends: the caller's names, the callee's. -/
structure Fin where
  base : Nat
  G : Nat → Prop
  w0 : World
  w : World
  wF : World
  hp : Hp
  ν : Nat → Value
  νF : Nat → Value
  ν0 : Nat → Value
  ps : List Nat
  top : Nat
  qs : List Nat
structure FinOK (F : Fin) : Prop where
  mem : Mem F.base F.G F.w0 F.w F.hp F.ν
  box : ∀ p, p ∈ F.ps → wrE (F.hp p)
  pair : ∀ p, p ∈ F.ps → ∃ q, q ∈ F.qs ∧ F.νF q = F.ν p
def Fin.G' (F : Fin) : Nat → Prop := G0 F.ν F.ps
/-- Where the handing back stands. -/
structure EndI (F : Fin) (rem remC : List Nat) (nm : Nat) (hpc : Hp) (νc : Nat → Value) (hpF : Hp) : Prop where
  mem : Mem F.base F.G F.w0 F.wF (deadOf rem hpc) νc
  ext : Ext F.hp F.ν hpc νc
  old : ∀ p, p ∈ rem → hpc p = F.hp p
  sub : ∀ p, p ∈ rem → p ∈ F.ps
  free : ∀ n, nm ≤ n → n < F.top → hpc n = .free
  memF : Mem F.w.heap.size F.G' F.w F.wF hpF F.νF
  cross : ∀ q, wrE (hpF q) → ∀ g, blk (F.νF q) = some g → ¬ F.G' g → ∀ m, lvE (deadOf rem hpc m) → blk (νc m) ≠ some g
  sepR : ∀ p, p ∈ rem → ∀ m, lvE (deadOf rem hpc m) → ∀ g, blk (F.ν p) = some g → blk (νc m) ≠ some g
  boxF : ∀ p, p ∈ remC → boxE (hpF p) ∨ p ∈ F.qs
  allF : ∀ p, p ∈ F.qs → wrE (hpF p)
section
variable {F : Fin} {rem remC : List Nat} {nm : Nat} {hpc : Hp} {νc : Nat → Value} {hpF : Hp}
theorem FinOK.small (hF : FinOK F) {g : Nat} (h : F.G' g) : g < F.w.heap.size := by
  obtain ⟨p, hp, hg⟩ := h
  exact blk_lt (hF.mem.ent p) (hF.box p hp).lv g hg
theorem EndI.notrem (hE : EndI F rem remC nm hpc νc hpF) (hF : FinOK F) {s : Nat} (hs : hpc s = .free) : s ∉ rem := fun h => by
  have h1 := hE.old s h
  have h2 := hF.box s (hE.sub s h)
  rw [← h1, hs] at h2
  exact h2
/-- Something is handed back: it lies in a block that no live name of the caller's has. -/
theorem EndI.install (hE : EndI F rem remC nm hpc νc hpF) (hF : FinOK F) {s nm' : Nat} (hs : hpc s = .free) (hnm : nm ≤ nm') (hsn : s < nm') {e : Ent} {v : Value} (hfree : e ≠ .free) {hpF' : Hp}
    (he : EntRel F.base (upd (deadOf rem hpc) s e) (upd νc s v) F.wF e v)
    (hb : ∀ g, blk v = some g → ¬ F.G' g ∧ F.base ≤ g ∧ (∀ m, lvE (deadOf rem hpc m) → blk (νc m) ≠ some g) ∧ (∀ q, wrE (hpF' q) → blk (F.νF q) ≠ some g))
    (hmF : Mem F.w.heap.size F.G' F.w F.wF hpF' F.νF) (hsub : ∀ q, wrE (hpF' q) → wrE (hpF q)) (hboxF : ∀ p, p ∈ remC → boxE (hpF' p) ∨ p ∈ F.qs) (hallF : ∀ p, p ∈ F.qs → wrE (hpF' p)) :
    EndI F rem remC nm' (upd hpc s e) (upd νc s v) hpF' ∧ Ext hpc νc (upd hpc s e) (upd νc s v) := by
  have hnr := hE.notrem hF hs
  have hext := Ext.new (ν := νc) hs e v
  have hd : deadOf rem hpc s = .free := by rw [deadOf_out hnr]; exact hs
  refine ⟨⟨?_, hE.ext.trans hext, fun p hp => ?_, hE.sub, fun n h1 h2 => ?_, hmF, fun q hq g hg hG m hm => ?_, fun p hp m hm g hg => ?_, hboxF, hallF⟩, hext⟩
  · rw [deadOf_upd hnr]
    exact hE.mem.add hd he hfree (fun m hm g hg hc => (hb g hg).2.2.1 m hm hc) (fun _ g hg => .inl (hb g hg).2.1)
  · have : p ≠ s := fun e => by subst e; exact hnr hp
    rw [upd_other _ _ this]; exact hE.old p hp
  · rw [upd_other _ _ (by omega)]; exact hE.free n (by omega) h2
  · rw [deadOf_upd hnr] at hm
    by_cases hms : m = s
    · subst hms
      rw [upd_same]
      intro hc
      exact (hb g hc).2.2.2 q hq hg
    · rw [upd_other _ _ hms] at hm ⊢
      exact hE.cross q (hsub q hq) g hg hG m hm
  · rw [deadOf_upd hnr] at hm
    by_cases hms : m = s
    · subst hms
      rw [upd_same]
      intro hc
      exact (hb g hc).1 ⟨p, hE.sub p hp, hg⟩
    · rw [upd_other _ _ hms] at hm ⊢
      exact hE.sepR p hp m hm g hg
/-- A block of the callee's that is none of those handed. -/
theorem EndI.fresh (hE : EndI F rem remC nm hpc νc hpF) (hF : FinOK F) {n : Nat} (hw : wrE (hpF n)) (hn : n ∉ F.qs) {g : Nat} (hg : blk (F.νF n) = some g) : ¬ F.G' g ∧ F.w.heap.size ≤ g := by
  have hG : ¬ F.G' g := by
    rintro ⟨p, hp, hpg⟩
    obtain ⟨q, hq, hqe⟩ := hF.pair p hp
    rw [← hqe] at hpg
    exact hE.memF.sep n q (fun e => by subst e; exact hn hq) hw (hE.allF q hq).lv g hg hpg
  refine ⟨hG, ?_⟩
  rcases hE.memF.mine n hw g hg with h5 | h5
  · exact h5
  · exact absurd h5 hG
/-- One cell is handed back. -/
theorem EndI.cell (hE : EndI F rem remC nm hpc νc hpF) (hF : FinOK F) {argsC args : List SV} (hqs : ∀ q, q ∈ F.qs → q ∈ slA argsC) {oldC old : SC} {k : RK} {x : SC} {b : k.T} {hpF' : Hp} {v : Value} {sc : SC} {nm' : Nat} {hpc' : Hp}
    (h : exC argsC oldC hpF k x = some (b, hpF')) (hv : CRel hpF F.νF x v) (hq : inC args old nm hpc k b = (sc, nm', hpc')) (htop : nm + RK.news [k] ≤ F.top)
    (hal : ∀ i j q, cellOf argsC i j = .sl q → CRel F.hp F.ν (cellOf args i j) (F.νF q)) (hold : ∀ q, oldC = .sl q → CRel F.hp F.ν old (F.νF q)) :
    ∃ νc', EndI F rem remC nm' hpc' νc' hpF' ∧ CRel hpc' νc' sc v ∧ Ext hpc νc hpc' νc' ∧ Ext hpF F.νF hpF' F.νF ∧ nm' = nm + RK.news [k] ∧ (∀ n, n < nm → hpc n ≠ .free → hpc' n ≠ .free) ∧ (∀ n, n < nm → hpc' n = hpc n) := by
  cases k with
  | int k =>
    obtain ⟨rfl, rfl⟩ := exC_int h
    have hq : (SC.int k b, nm, hpc) = (sc, nm', hpc') := hq
    simp only [Prod.mk.injEq] at hq
    obtain ⟨rfl, rfl, rfl⟩ := hq
    exact ⟨νc, hE, hv, .refl _ _, .refl _ _, rfl, fun _ _ h => h, fun _ _ => rfl⟩
  | bool =>
    obtain ⟨s, rfl, hb, rfl⟩ := exC_bool h
    have hq : (SC.bool (.v b), nm, hpc) = (sc, nm', hpc') := hq
    simp only [Prod.mk.injEq] at hq
    obtain ⟨rfl, rfl, rfl⟩ := hq
    have hvv : v = .bool s.b := hv
    exact ⟨νc, hE, by rw [hvv, ← hb]; rfl, .refl _ _, .refl _ _, rfl, fun _ _ h => h, fun _ _ => rfl⟩
  | str =>
    obtain ⟨rfl, rfl⟩ := exC_str h
    have hq : (SC.str b, nm, hpc) = (sc, nm', hpc') := hq
    simp only [Prod.mk.injEq] at hq
    obtain ⟨rfl, rfl, rfl⟩ := hq
    exact ⟨νc, hE, hv, .refl _ _, .refl _ _, rfl, fun _ _ h => h, fun _ _ => rfl⟩
  | al i j =>
    obtain ⟨q, rfl, hc, rfl⟩ := exC_al h
    have hq : (cellOf args i j, nm, hpc) = (sc, nm', hpc') := hq
    simp only [Prod.mk.injEq] at hq
    obtain ⟨rfl, rfl, rfl⟩ := hq
    obtain ⟨_, hvv, _⟩ := hv
    exact ⟨νc, hE, by rw [hvv]; exact (hal i j q hc).mono hE.ext, .refl _ _, .refl _ _, rfl, fun _ _ h => h, fun _ _ => rfl⟩
  | keep =>
    obtain ⟨q, rfl, hc, rfl⟩ := exC_keep h
    have hq : (old, nm, hpc) = (sc, nm', hpc') := hq
    simp only [Prod.mk.injEq] at hq
    obtain ⟨rfl, rfl, rfl⟩ := hq
    obtain ⟨_, hvv, _⟩ := hv
    exact ⟨νc, hE, by rw [hvv]; exact (hold q hc).mono hE.ext, .refl _ _, .refl _ _, rfl, fun _ _ h => h, fun _ _ => rfl⟩
  | own t e =>
    have hq : (SC.sl nm, nm + 1, upd hpc nm (.row t b e)) = (sc, nm', hpc') := hq
    simp only [Prod.mk.injEq] at hq
    obtain ⟨rfl, rfl, rfl⟩ := hq
    have htop' : nm + 1 ≤ F.top := htop
    have hs : hpc nm = .free := hE.free nm (Nat.le_refl _) (by omega)
    rcases exC_own h with ⟨n, rfl, hrow, rfl, hnq⟩ | ⟨rfl, rfl, rfl⟩
    · obtain ⟨hnf, hvv, hsl⟩ := hv
      have hent := hE.memF.ent n
      rw [hrow] at hent
      have hown : F.wF.ownsRow 0 e t.size (F.νF n) b.length (t.flat b) := hent
      have hbase : F.base ≤ F.w.heap.size := hF.mem.fr.bs
      have hwn : wrE (hpF n) := by rw [hrow]; trivial
      have hnq' : n ∉ F.qs := fun hin => hnq (hqs n hin)
      have hblk : ∀ g, blk (F.νF n) = some g → ¬ F.G' g ∧ F.w.heap.size ≤ g := fun g hg => hE.fresh hF hwn hnq' hg
      have hI := hE.install hF (s := nm) (nm' := nm + 1) hs (by omega) (by omega) (e := .row t b e) (v := F.νF n) (by simp) (hpF' := upd hpF n .dead)
        hown (fun g hg => by
          have hG : ¬ F.G' g := (hblk g hg).1
          refine ⟨hG, by have := (hblk g hg).2; omega, fun m hm => hE.cross n hwn g hg hG m hm, fun q hq hc => ?_⟩
          have hqn : q ≠ n := fun e => by subst e; rw [upd_same] at hq; exact hq
          rw [upd_other _ _ hqn] at hq
          exact hE.memF.sep n q (fun e => hqn e.symm) hwn hq.lv g hg hc) (hE.memF.kill n) (fun q hq => by
          have hqn : q ≠ n := fun e => by subst e; rw [upd_same] at hq; exact hq
          rw [upd_other _ _ hqn] at hq
          exact hq) (fun p hp => by
          have hpn : p ≠ n := fun e => by
            subst e
            rcases hE.boxF p hp with h1 | h1
            · rw [hrow] at h1; exact h1
            · exact hnq' h1
          rw [upd_other _ _ hpn]
          exact hE.boxF p hp) (fun p hp => by
          have hpn : p ≠ n := fun e => by subst e; exact hnq' hp
          rw [upd_other _ _ hpn]
          exact hE.allF p hp)
      refine ⟨_, hI.1, ⟨by rw [upd_same]; simp, by rw [upd_same]; exact hvv, hsl⟩, hI.2, Ext.kill _ _ _, rfl, fun m hm hmf => ?_, fun m hm => upd_other _ _ (by omega)⟩
      rw [upd_other _ _ (by omega)]; exact hmf
    · have hvv : v = .slice none 0 0 := hv
      have hI := hE.install hF (s := nm) (nm' := nm + 1) hs (by omega) (by omega) (e := .row t [] e) (v := .slice none 0 0) (by simp) (hpF' := hpF')
        ⟨by simp [Ty.flat], .inl ⟨rfl, rfl⟩⟩ (fun g hg => by cases hg) hE.memF (fun q hq => hq) hE.boxF hE.allF
      refine ⟨_, hI.1, ⟨by rw [upd_same]; simp, by rw [upd_same]; exact hvv, none, 0, 0, hvv⟩, hI.2, .refl _ _, rfl, fun m hm hmf => ?_, fun m hm => upd_other _ _ (by omega)⟩
      rw [upd_other _ _ (by omega)]; exact hmf
  | exr t e =>
    have hq : (SC.sl nm, nm + 1, upd hpc nm (.ex t b e)) = (sc, nm', hpc') := hq
    simp only [Prod.mk.injEq] at hq
    obtain ⟨rfl, rfl, rfl⟩ := hq
    have htop' : nm + 1 ≤ F.top := htop
    have hs : hpc nm = .free := hE.free nm (Nat.le_refl _) (by omega)
    rcases exC_exr h with ⟨n, rfl, ⟨e', hrow⟩, rfl, hnq⟩ | ⟨rfl, rfl, rfl⟩
    · obtain ⟨hnf, hvv, hsl⟩ := hv
      have hent := hE.memF.ent n
      have hown : EntRel F.base (fun _ => .free) F.νF F.wF (.ex t b e) (F.νF n) := by
        rcases hrow with hrow | hrow
        · rw [hrow] at hent
          have hent : F.wF.ownsRow 0 e' t.size (F.νF n) b.length (t.flat b) := hent
          rcases hent.2 with ⟨h1, h2⟩ | ⟨g, cap, cur, h1, hbg, hheap, hnc, hcm, hcs, htake⟩
          · exact .inl ⟨h1, List.length_eq_zero_iff.1 h2⟩
          · refine .inr ⟨g, 0, cap, cur, e', (0, 0), h1, hnc, by omega, hheap, ?_, .inl (Nat.le_refl _), fun j u hu => ?_⟩
            · rw [hcs, Nat.zero_add]
              exact Nat.mul_le_mul_right _ hnc
            · rw [Nat.zero_add]
              rw [← htake, List.getElem?_take] at hu
              split at hu
              · simpa using hu
              · cases hu
        · rw [hrow] at hent
          exact hent
      have hbase : F.base ≤ F.w.heap.size := hF.mem.fr.bs
      have hwn : wrE (hpF n) := by rcases hrow with hrow | hrow <;> (rw [hrow]; trivial)
      have hnq' : n ∉ F.qs := fun hin => hnq (hqs n hin)
      have hblk : ∀ g, blk (F.νF n) = some g → ¬ F.G' g ∧ F.w.heap.size ≤ g := fun g hg => hE.fresh hF hwn hnq' hg
      have hI := hE.install hF (s := nm) (nm' := nm + 1) hs (by omega) (by omega) (e := .ex t b e) (v := F.νF n) (by simp) (hpF' := upd hpF n .dead)
        hown (fun g hg => by
          have hG : ¬ F.G' g := (hblk g hg).1
          refine ⟨hG, by have := (hblk g hg).2; omega, fun m hm => hE.cross n hwn g hg hG m hm, fun q hq hc => ?_⟩
          have hqn : q ≠ n := fun e => by subst e; rw [upd_same] at hq; exact hq
          rw [upd_other _ _ hqn] at hq
          exact hE.memF.sep n q (fun e => hqn e.symm) hwn hq.lv g hg hc) (hE.memF.kill n) (fun q hq => by
          have hqn : q ≠ n := fun e => by subst e; rw [upd_same] at hq; exact hq
          rw [upd_other _ _ hqn] at hq
          exact hq) (fun p hp => by
          have hpn : p ≠ n := fun e => by
            subst e
            rcases hE.boxF p hp with h1 | h1
            · rcases hrow with hrow | hrow <;> (rw [hrow] at h1; exact h1)
            · exact hnq' h1
          rw [upd_other _ _ hpn]
          exact hE.boxF p hp) (fun p hp => by
          have hpn : p ≠ n := fun e => by subst e; exact hnq' hp
          rw [upd_other _ _ hpn]
          exact hE.allF p hp)
      refine ⟨_, hI.1, ⟨by rw [upd_same]; simp, by rw [upd_same]; exact hvv, hsl⟩, hI.2, Ext.kill _ _ _, rfl, fun m hm hmf => ?_, fun m hm => upd_other _ _ (by omega)⟩
      rw [upd_other _ _ (by omega)]; exact hmf
    · have hvv : v = .slice none 0 0 := hv
      have hI := hE.install hF (s := nm) (nm' := nm + 1) hs (by omega) (by omega) (e := .ex t [] e) (v := .slice none 0 0) (by simp) (hpF' := hpF')
        (.inl ⟨rfl, rfl⟩) (fun g hg => by cases hg) hE.memF (fun q hq => hq) hE.boxF hE.allF
      refine ⟨_, hI.1, ⟨by rw [upd_same]; simp, by rw [upd_same]; exact hvv, none, 0, 0, hvv⟩, hI.2, .refl _ _, rfl, fun m hm hmf => ?_, fun m hm => upd_other _ _ (by omega)⟩
      rw [upd_other _ _ (by omega)]; exact hmf
end
end Go.Sx
