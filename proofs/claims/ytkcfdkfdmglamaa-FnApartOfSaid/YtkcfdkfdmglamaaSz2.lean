/- A symbolic executor of the model's code, run by the kernel, and that it is sound; plain lemmas. -/
import Derived.Test.YtkcfdkfdmglamaaSz1
/- A function's begin and end: from its walk to its contract. -/
set_option linter.unusedVariables false
set_option linter.unusedSimpArgs false
namespace Go.Sx
section
variable {P : Program} {base : Nat} {G : GS} {B : Nat → Prop} {w0 w : World} {hp : Hp} {ν : Nat → Value}
def boxE : Ent → Prop
  | .box _ _ => True
  | _ => False
theorem isBox_box {e : Ent} (h : isBox e = true) : wrE e := by cases e <;> simp_all [isBox, wrE]
theorem boxE.wr {e : Ent} (h : boxE e) : wrE e := by cases e <;> simp_all [boxE, wrE]
theorem wrE.lv {e : Ent} (h : wrE e) : lvE e := by cases e <;> simp_all [wrE, lvE]
/-- A new name for a block that none of the old ones has. -/
theorem Mem.add (h : Mem base G w0 w hp ν) {nm : Nat} (hn : hp nm = .free) {e : Ent} {v : Value} (he : EntRel base (upd hp nm e) (upd ν nm v) w e v) (hfree : e ≠ .free)
    (hsep : ∀ m, lvE (hp m) → (wrE e ∨ (lvE e ∧ wrE (hp m))) → ∀ g, blk v = some g → blk (ν m) ≠ some g) (hmine : wrE e → ∀ g, blk v = some g → base ≤ g ∨ G g) (hnst : ∃ B, NestOK base G w (upd hp nm e) (upd ν nm v) B) :
    Mem base G w0 w (upd hp nm e) (upd ν nm v) := by
  have hext := Ext.new (ν := ν) hn e v
  refine ⟨fun n => ?_, fun n m hne hwn hlm g hg => ?_, fun n hwn g hg => ?_, h.fr, hnst⟩
  · by_cases hnm : n = nm
    · subst hnm; rw [upd_same, upd_same]; exact he
    · rw [upd_other _ _ hnm, upd_other _ _ hnm]; exact (h.ent n).mono hext
  · by_cases hnn : n = nm
    · subst hnn
      rw [upd_same] at hg
      have hm : m ≠ n := fun e => hne e.symm
      rw [upd_other _ _ hm] at hlm ⊢
      rw [upd_same] at hwn
      exact hsep m hlm (.inl hwn) g hg
    · rw [upd_other _ _ hnn] at hwn hg
      by_cases hmm : m = nm
      · subst hmm
        rw [upd_same] at hlm ⊢
        intro hc
        exact hsep n hwn.lv (.inr ⟨hlm, hwn⟩) g hc hg
      · rw [upd_other _ _ hmm] at hlm ⊢
        exact h.sep n m hne hwn hlm g hg
  · by_cases hnn : n = nm
    · subst hnn
      rw [upd_same] at hg hwn
      exact hmine hwn g hg
    · rw [upd_other _ _ hnn] at hwn hg
      exact h.mine n hwn g hg
/-- A name is not used any more. -/
theorem Mem.kill (h : Mem base G w0 w hp ν) (q : Nat) : Mem base G w0 w (upd hp q .dead) ν := by
  have hx : ∀ n, hp n ≠ .free → (upd hp q .dead) n ≠ .free := fun n hn => by
    by_cases hq : n = q
    · subst hq; rw [upd_same]; simp
    · rw [upd_other _ _ hq]; exact hn
  have hext : Ext hp ν (upd hp q .dead) ν := ⟨fun n hn => ⟨hx n hn, rfl⟩⟩
  refine ⟨fun n => ?_, fun n m hne hwn hlm g hg => ?_, fun n hwn g hg => ?_, h.fr, h.nest.imp fun B hB => hB.turn (by simp) trivial (fun q => q.elim)⟩
  · by_cases hq : n = q
    · subst hq; rw [upd_same]; trivial
    · rw [upd_other _ _ hq]; exact (h.ent n).mono hext
  · have h1 : n ≠ q := fun e => by subst e; rw [upd_same] at hwn; exact hwn
    have h2 : m ≠ q := fun e => by subst e; rw [upd_same] at hlm; exact hlm
    rw [upd_other _ _ h1] at hwn
    rw [upd_other _ _ h2] at hlm
    exact h.sep n m hne hwn hlm g hg
  · have h1 : n ≠ q := fun e => by subst e; rw [upd_same] at hwn; exact hwn
    rw [upd_other _ _ h1] at hwn
    exact h.mine n hwn g hg
theorem Ext.kill (hp : Hp) (ν : Nat → Value) (q : Nat) : Ext hp ν (upd hp q .dead) ν := ⟨fun n hn => ⟨by
    by_cases hq : n = q
    · subst hq; rw [upd_same]; simp
    · rw [upd_other _ _ hq]; exact hn, rfl⟩⟩
/-- A new name, with what it says of slices within elements. -/
theorem NestOK.addG {B : Nat → Prop} (hB : NestOK base G w hp ν B) {nm : Nat} (hn : hp nm = .free) {e : Ent} {v : Value} (hrel : NestRel base G w B (upd hp nm e) (upd ν nm v) nm e) (hwr : wrE e → ∀ g, blk v = some g → ¬ B g) : NestOK base G w (upd hp nm e) (upd ν nm v) B := by
  have hext := Ext.new (ν := ν) hn e v
  refine ⟨fun n => ?_, fun n hw g hg => ?_, hB.lt, hB.old⟩
  · by_cases hnm : n = nm
    · subst hnm; rw [upd_same]; exact hrel
    · rw [upd_other _ _ hnm]
      exact (hB.rel n).frame (upd_other _ _ hnm) (fun q => hext.keep _ q) (fun _ _ _ => rfl) (fun b hb => ⟨hb, rfl⟩)
  · by_cases hnm : n = nm
    · subst hnm; rw [upd_same] at hw hg; exact hwr hw g hg
    · rw [upd_other _ _ hnm] at hw hg; exact hB.sep n hw g hg
theorem upd_swap {α : Type} (f : Nat → α) {n m : Nat} (x y : α) (h : n ≠ m) : upd (upd f n x) m y = upd (upd f m y) n x := by
  funext k
  by_cases hk : k = n
  · subst hk; rw [upd_same, upd_other _ _ h, upd_same]
  · by_cases hk2 : k = m
    · subst hk2; rw [upd_same, upd_other _ _ hk, upd_same]
    · rw [upd_other _ _ hk2, upd_other _ _ hk, upd_other _ _ hk, upd_other _ _ hk2]
/-- A nested row, read. -/
theorem nest_read {B : Nat → Prop} (hB : NestOK base G w hp ν B) (hm : Mem base G w0 w hp ν) {n : Nat} {t : NT} {x : List t.T} {e : TypeId} (h : hp n = .nro t x e ∨ ∃ gg, hp n = .nrow gg t x e) :
    ∃ A c, ∃ cs : Array Value, ν n = .slice A x.length c ∧ x.length ≤ c ∧ x.length ≤ maxLen ∧ (x ≠ [] → ∃ a, A = some a ∧ ∀ (j : Nat) u, cs[j]? = some u → w.cell? (a.add j) = some u) ∧ NFlat w B t x cs.toList := by
  have hent := hm.ent n
  have hrel := hB.rel n
  rcases h with h | ⟨gg, h⟩
  · rw [h] at hent hrel
    obtain ⟨A, c, fl, h1, h2, h3, _⟩ := hent
    obtain ⟨_, A', c', cs, g1, _, g3, g4⟩ := hrel
    rw [h1] at g1
    simp only [Value.slice.injEq, true_and] at g1
    obtain ⟨rfl, rfl⟩ := g1
    exact ⟨A, c, cs, h1, h2, h3, g3, g4⟩
  · rw [h] at hrel
    obtain ⟨fl, h1, h2, _⟩ := hrel
    have h2' : NFlat w B t x fl.toArray.toList := h2
    rcases h1.2 with ⟨g1, g2⟩ | ⟨g, cap, cur, g1, _, _, g2, g3, _⟩
    · exact ⟨none, 0, fl.toArray, by rw [g1, g2], by omega, by omega, fun hl => absurd (List.length_eq_zero_iff.1 g2) hl, h2'⟩
    · refine ⟨_, cap, fl.toArray, g1, g2, by omega, fun _ => ⟨_, rfl, fun j u hu => ?_⟩, h2'⟩
      exact h1.cells (g := g) (by rw [g1]; rfl) j u (by simpa using hu)
/-! ### the begin -/
theorem memN_iff {n : Nat} {l : List Nat} : memN n l = true ↔ n ∈ l := by
  unfold memN
  rw [List.any_eq_true]
  constructor
  · rintro ⟨x, hx, hb⟩
    have := Nat.eq_of_beq_eq_true hb
    subst this
    exact hx
  · intro h
    exact ⟨n, h, Nat.beq_refl n⟩
/-- The boxes that a call is handed. -/
def G0 (ν : Nat → Value) (ps : List Nat) : Nat → Prop := fun g => ∃ p, p ∈ ps ∧ blk (ν p) = some g
structure Beg (base : Nat) (G : GS) (B : Nat → Prop) (w : World) (hp : Hp) (ν : Nat → Value) (G' : GS) (H : List Nat) (nm : Nat) (hpc : Hp) (νc : Nat → Value) (done : List Nat) : Prop where
  mem : Mem w.heap.size G' w w hpc νc
  free : ∀ n, nm ≤ n → hpc n = .free
  nb : NestOK base G w hp ν B
  nc : NestOK w.heap.size G' w hpc νc B
  link : ∀ i, lvE (hpc i) → (¬ wrE (hpc i) ∧ ∀ g, blk (νc i) = some g → B g) ∨ ∃ n, νc i = ν n ∧ lvE (hp n) ∧ (wrE (hpc i) → n ∈ done ∧ wrE (hp n)) ∧ (¬ wrE (hpc i) → n ∉ H)
  sub : ∀ p, p ∈ done → p ∈ H
theorem iCs_one (k : CK) (x : k.T) (nm : Nat) (hp : Nat → Ent) : iCs [k] x nm hp = (match iC nm hp k x with | (a, nm, hp) => ([a], nm, hp)) := rfl
theorem iCs_cons (k k' : CK) (r : List CK) (x : CKs (k :: k' :: r)) (nm : Nat) (hp : Nat → Ent) : iCs (k :: k' :: r) x nm hp = (match iC nm hp k x.1 with
    | (a, nm, hp) => match iCs (k' :: r) x.2 nm hp with
      | (b, nm, hp) => (a :: b, nm, hp)) := rfl
theorem iAs_one (k : AK) (x : k.T) (nm : Nat) (hp : Nat → Ent) : iAs [k] x nm hp = (match iA k x nm hp with | (a, nm, hp) => ([a], nm, hp)) := rfl
theorem iAs_cons (k k' : AK) (r : List AK) (x : AKs (k :: k' :: r)) (nm : Nat) (hp : Nat → Ent) : iAs (k :: k' :: r) x nm hp = (match iA k x.1 nm hp with
    | (a, nm, hp) => match iAs (k' :: r) x.2 nm hp with
      | (b, nm, hp) => (a :: b, nm, hp)) := rfl
theorem mCs_cons (hp : Nat → Ent) (k k' : CK) (r : List CK) (x : SC) (y : List SC) : mCs hp (k :: k' :: r) (x :: y) = ((match mC hp k x, mCs hp (k' :: r) y with
    | some a, some b => some (a, b)
    | _, _ => none) : Option (k.T × CKs (k' :: r))) := rfl
theorem mAs_cons (hp : Nat → Ent) (k k' : AK) (r : List AK) (x : SV) (y : List SV) : mAs hp (k :: k' :: r) (x :: y) = ((match mA hp k x, mAs hp (k' :: r) y with
    | some a, some b => some (a, b)
    | _, _ => none) : Option (k.T × AKs (k' :: r))) := rfl
theorem no_some {α : Type} {p : Prop} {x : α} (h : (none : Option α) = some x) : p := nomatch h
theorem mC_int {k : IntKind} {sa : SC} {x : Int} (h : mC hp (.int k) sa = some x) : sa = .int k x := by
  cases sa with
  | int k' n =>
    have h2 : (cnd (keq k k') (some n) none : Option Int) = some x := h
    clear h
    cases hk : keq k k' with
    | false => rw [hk] at h2; exact no_some h2
    | true =>
      rw [hk] at h2
      have := keq_eq hk
      subst this
      have h3 : some n = some x := h2
      injection h3 with h3
      subst h3
      rfl
  | _ => exact no_some (α := Int) h
theorem mC_bool {sa : SC} {x : Bool} (h : mC hp .bool sa = some x) : ∃ s, sa = .bool s ∧ x = s.b := by
  cases sa with
  | bool s =>
    have h : some s.b = some x := h
    injection h with h
    exact ⟨s, rfl, h.symm⟩
  | _ => exact no_some (α := Bool) h
theorem mC_str {sa : SC} {x : ByteArray} (h : mC hp .str sa = some x) : sa = .str x := by
  cases sa with
  | str s =>
    have h : some s = some x := h
    injection h with h
    subst h
    rfl
  | _ => exact no_some (α := ByteArray) h
theorem mC_sl {t : Ty} {sa : SC} {x : List t.T} (h : mC hp (.sl t) sa = some x) : readL none hp t sa = some x := by
  cases sa <;> exact h
theorem mC_nsl {t : NT} {sa : SC} {x : List t.T} (h : mC hp (.nsl t) sa = some x) : (sa = .nils ∧ x = []) ∨ ∃ n e, sa = .sl n ∧ (hp n = .nro t x e ∨ ∃ gg, hp n = .nrow gg t x e) := by
  cases sa with
  | nils =>
    have h2 : some ([] : List t.T) = some x := h
    injection h2 with h2
    exact .inl ⟨rfl, h2.symm⟩
  | sl n =>
    right
    have h2 : (match hp n with
      | .nro t' l e => match t'.dec t with
        | some ⟨h⟩ => some (h ▸ l : List t.T)
        | none => none
      | .nrow _ t' l e => match t'.dec t with
        | some ⟨h⟩ => some (h ▸ l : List t.T)
        | none => none
      | _ => none) = some x := h
    clear h
    cases hr : hp n with
    | nro t' l e =>
      rw [hr] at h2
      have h3 : (match t'.dec t with
        | some ⟨h⟩ => some (h ▸ l : List t.T)
        | none => none) = some x := h2
      clear h2
      split at h3
      · rename_i heq _
        subst heq
        injection h3 with h3
        have h3 : l = x := h3
        subst h3
        exact ⟨n, e, rfl, .inl hr⟩
      · exact no_some h3
    | nrow gg t' l e =>
      rw [hr] at h2
      have h3 : (match t'.dec t with
        | some ⟨h⟩ => some (h ▸ l : List t.T)
        | none => none) = some x := h2
      clear h2
      split at h3
      · rename_i heq _
        subst heq
        injection h3 with h3
        have h3 : l = x := h3
        subst h3
        exact ⟨n, e, rfl, .inr ⟨_, hr⟩⟩
      · exact no_some h3
    | _ => rw [hr] at h2; exact no_some (α := List t.T) h2
  | _ => exact no_some (α := List t.T) h
theorem mA_c {k : CK} {sa : SV} {x : k.T} (h : mA hp (.c k) sa = some x) : ∃ y, sa = .a false [y] ∧ mC hp k y = some x := by
  match sa with
  | .a false [y] => exact ⟨y, rfl, h⟩
  | .a false [] => exact no_some (α := k.T) h
  | .a false (_ :: _ :: _) => exact no_some (α := k.T) h
  | .a true _ => exact no_some (α := k.T) h
  | .any => exact no_some (α := k.T) h
  | .tup _ => exact no_some (α := k.T) h
theorem mA_agg {ks : List CK} {sa : SV} {x : CKs ks} (h : mA hp (.agg ks) sa = some x) : ∃ cs, sa = .a true cs ∧ mCs hp ks cs = some x := by
  match sa with
  | .a true cs => exact ⟨cs, rfl, h⟩
  | .a false _ => exact no_some (α := CKs ks) h
  | .any => exact no_some (α := CKs ks) h
  | .tup _ => exact no_some (α := CKs ks) h
theorem mA_ptr {ks : List CK} {t : TypeId} {sa : SV} {x : CKs ks} (h : mA hp (.ptr ks t) sa = some x) : ∃ n cs, sa = .a false [.ptr n 0] ∧ hp n = .box cs t ∧ mCs hp ks cs = some x := by
  match sa with
  | .a false [.ptr n 0] =>
    have h2 : (match hp n with
      | .box cs t' => cnd (Nat.beq t t') (mCs hp ks cs) none
      | _ => none) = some x := h
    clear h
    cases hb : hp n with
    | box cs t' =>
      rw [hb] at h2
      have h3 : cnd (Nat.beq t t') (mCs hp ks cs) none = some x := h2
      clear h2
      cases ht : Nat.beq t t' with
      | false => rw [ht] at h3; exact no_some (α := CKs ks) h3
      | true =>
        rw [ht] at h3
        have := Nat.eq_of_beq_eq_true ht
        subst this
        exact ⟨n, cs, rfl, hb, h3⟩
    | _ => rw [hb] at h2; exact no_some (α := CKs ks) h2
  | .a false [.ptr n (m + 1)] => exact no_some (α := CKs ks) h
  | .a false [] => exact no_some (α := CKs ks) h
  | .a false (x :: _ :: _) => cases x with
    | ptr n m => cases m <;> exact no_some (α := CKs ks) h
    | _ => exact no_some (α := CKs ks) h
  | .a true _ => exact no_some (α := CKs ks) h
  | .any => exact no_some (α := CKs ks) h
  | .tup _ => exact no_some (α := CKs ks) h
  | .a false [.any] | .a false [.bool _] | .a false [.int _ _] | .a false [.str _] | .a false [.nilp] | .a false [.sl _] | .a false [.nils] | .a false [.ep _ _ _ _] => exact no_some (α := CKs ks) h
/-- What is read, and where it lies. -/
theorem readL_ent {ty : Ty} {x : SC} {l : List ty.T} {v : Value} (h : readL none hp ty x = some l) (hx : CRel hp ν x v) (hm : Mem base G w0 w hp ν) (hB : NestOK base G w hp ν B) :
    Reads w ty l v ∧ (l ≠ [] → (∀ g, blk v = some g → B g) ∨ ∃ n, x = .sl n ∧ v = ν n ∧ lvE (hp n) ∧ ¬ boxE (hp n)) := by
  refine ⟨readL_rel h hx hm, fun hl => ?_⟩
  unfold readL at h
  split at h
  · simp only [Option.some.injEq] at h
    exact absurd h.symm hl
  · rename_i n
    obtain ⟨_, hv, _⟩ := hx
    refine .inr ⟨n, rfl, hv, ?_⟩
    split at h
    · rename_i t l' e' hen
      rw [hen]
      exact ⟨trivial, fun h => h⟩
    · rename_i t l' e' hen
      have h2 : Ent.ro t l' e' = .ro ty l e' := by
        split at h
        · rename_i heq _
          subst heq
          simp only [Option.some.injEq] at h
          subst h
          rfl
        · cases h
      rw [hen, h2]; exact ⟨hl, fun h => h⟩
    · rename_i t l' e' hen
      rw [hen]
      exact ⟨trivial, fun h => h⟩
    · cases h
  · rename_i n sz i off
    left
    split at h
    · rename_i nt l' e' hen
      cases hb : Nat.beq sz nt.size with
      | false => rw [hb] at h; simp at h
      | true =>
        rw [hb] at h
        simp only [cnd_true] at h
        obtain ⟨A, c, h1, h2, h3, h4⟩ := pj_in hen (Nat.eq_of_beq_eq_true hb) h hx hB
        obtain ⟨a, h5, h6, _⟩ := h4 hl
        intro g hg
        rw [h1, h5] at hg
        simp only [blk, Option.some.injEq] at hg
        subst hg
        exact h6
    · simp at h
  · rename_i n sz i off
    left
    split at h
    · rename_i nt l' hen
      cases hb : Nat.beq sz nt.size with
      | false => rw [hb] at h; simp at h
      | true =>
        rw [hb] at h
        simp only [cnd_true] at h
        obtain ⟨A, c, h1, h2, h3, h4⟩ := pg_in hen (Nat.eq_of_beq_eq_true hb) h hx hB
        obtain ⟨a, h5, h6, _⟩ := h4 hl
        intro g hg
        rw [h1, h5] at hg
        simp only [blk, Option.some.injEq] at hg
        subst hg
        exact h6
    · simp at h
  · cases h
theorem Beg.cell {G' : GS} {H : List Nat} {nm : Nat} {hpc : Hp} {νc : Nat → Value} {done : List Nat} (hB : Beg base G B w hp ν G' H nm hpc νc done) (hm : Mem base G w0 w hp ν) {k : CK} {x : k.T} {sa : SC} {v : Value} (h : mC hp k sa = some x) (hv : CRel hp ν sa v) (hro : ∀ n, sa = .sl n → ¬ boxE (hp n) → n ∉ H)
    {sc : SC} {nm' : Nat} {hpc' : Hp} (hq : iC nm hpc k x = (sc, nm', hpc')) :
    ∃ νc', Beg base G B w hp ν G' H nm' hpc' νc' done ∧ CRel hpc' νc' sc v ∧ Ext hpc νc hpc' νc' ∧ nm ≤ nm' ∧ (∀ n, n < nm → hpc' n = hpc n) := by
  cases k with
  | int k =>
    have := mC_int h
    subst this
    have hq : (SC.int k x, nm, hpc) = (sc, nm', hpc') := hq
    simp only [Prod.mk.injEq] at hq
    obtain ⟨rfl, rfl, rfl⟩ := hq
    exact ⟨νc, hB, hv, .refl _ _, Nat.le_refl _, fun _ _ => rfl⟩
  | bool =>
    obtain ⟨s, rfl, hs⟩ := mC_bool h
    have hq : (SC.bool (.v x), nm, hpc) = (sc, nm', hpc') := hq
    simp only [Prod.mk.injEq] at hq
    obtain ⟨rfl, rfl, rfl⟩ := hq
    have hvv : v = .bool s.b := hv
    exact ⟨νc, hB, by rw [hvv, ← hs]; rfl, .refl _ _, Nat.le_refl _, fun _ _ => rfl⟩
  | str =>
    have := mC_str h
    subst this
    have hq : (SC.str x, nm, hpc) = (sc, nm', hpc') := hq
    simp only [Prod.mk.injEq] at hq
    obtain ⟨rfl, rfl, rfl⟩ := hq
    exact ⟨νc, hB, hv, .refl _ _, Nat.le_refl _, fun _ _ => rfl⟩
  | sl t =>
    have hq : (SC.sl nm, nm + 1, upd hpc nm (.ro t x 0)) = (sc, nm', hpc') := hq
    simp only [Prod.mk.injEq] at hq
    obtain ⟨rfl, rfl, rfl⟩ := hq
    obtain ⟨hr, hn⟩ := readL_ent (mC_sl h) hv hm hB.nb
    have hfr := hB.free nm (Nat.le_refl _)
    obtain ⟨A, c, hvv, h1, h2, h3⟩ := hr.out
    have hmem := hB.mem.share hfr (ty := t) (l := x) (e' := 0) (v := v) ⟨A, c, hvv, h1, h2, h3⟩ (fun hl m hwm g hg hc => by
      rcases hn hl with hbb | ⟨n, hsn, hvn, hln, hbn⟩
      · exact hB.nc.sep m hwm g hg (hbb g hc)
      · rcases hB.link m hwm.lv with ⟨h4, _⟩ | ⟨n', h4, h5, h6, h7⟩
        · exact h4 hwm
        · have hne : n' ≠ n := fun e => by subst e; exact hro n' hsn hbn (hB.sub n' (h6 hwm).1)
          rw [h4] at hg
          rw [hvn] at hc
          exact hm.sep n' n hne (h6 hwm).2 hln g hg hc)
    refine ⟨upd νc nm v, ⟨hmem.1, fun n hn' => ?_, hB.nb, hB.nc.add hfr trivial (fun q => q.elim), fun i hi => ?_, hB.sub⟩, ⟨by rw [upd_same]; simp, by rw [upd_same], A, _, c, hvv⟩, hmem.2, Nat.le_succ _, fun n hn' => upd_other _ _ (by omega)⟩
    · rw [upd_other _ _ (by omega)]
      exact hB.free n (by omega)
    · by_cases hin : i = nm
      · subst hin
        rw [upd_same] at hi ⊢
        rw [upd_same]
        rcases hn hi with hbb | ⟨n, hsn, hvn, hln, hbn⟩
        · exact .inl ⟨fun q => q, hbb⟩
        · exact .inr ⟨n, hvn, hln, fun h => h.elim, fun _ => hro n hsn hbn⟩
      · rw [upd_other _ _ hin] at hi ⊢
        rw [upd_other _ _ hin]
        exact hB.link i hi
  | nsl t =>
    have hq : (SC.sl nm, nm + 2, upd (upd hpc nm (.nro t x 0)) (nm + 1) .gh) = (sc, nm', hpc') := hq
    simp only [Prod.mk.injEq] at hq
    obtain ⟨rfl, rfl, rfl⟩ := hq
    have hfr := hB.free nm (Nat.le_refl _)
    have hfr1 := hB.free (nm + 1) (Nat.le_succ _)
    have key : ∃ A c, ∃ cs : Array Value, v = .slice A (List.length x) c ∧ List.length x ≤ c ∧ List.length x ≤ maxLen ∧ ((x : List t.T) ≠ [] → ∃ a, A = some a ∧ ∀ (j : Nat) u, cs[j]? = some u → w.cell? (a.add j) = some u) ∧ NFlat w B t x cs.toList ∧ ((x : List t.T) ≠ [] → ∃ n, sa = .sl n ∧ v = ν n ∧ lvE (hp n) ∧ ¬ boxE (hp n)) := by
      rcases mC_nsl h with ⟨rfl, rfl⟩ | ⟨n, e, rfl, hen⟩
      · exact ⟨none, 0, #[], hv, Nat.le_refl _, Nat.zero_le _, fun q => absurd rfl q, rfl, fun q => absurd rfl q⟩
      · obtain ⟨_, hvn, _⟩ := hv
        obtain ⟨A, c, cs, h1, h2, h3, h4, h5⟩ := nest_read hB.nb hm hen
        refine ⟨A, c, cs, hvn.trans h1, h2, h3, h4, h5, fun hl => ⟨n, rfl, hvn, ?_⟩⟩
        rcases hen with hen | ⟨gg, hen⟩
        · rw [hen]; exact ⟨hl, fun h => h⟩
        · rw [hen]; exact ⟨trivial, fun h => h⟩
    obtain ⟨A, c, cs, hvv, h1, h2, h3, h4, h5⟩ := key
    have hne1 : nm ≠ nm + 1 := by omega
    rw [upd_swap hpc (.nro t x 0) .gh hne1]
    have n1 := hB.nc.addG hfr1 (e := .gh) (v := .agg cs) trivial (fun q => q.elim)
    have m1 := hB.mem.add hfr1 (e := .gh) (v := .agg cs) trivial (by simp) (fun _ _ _ g hg => by cases hg) (fun q => q.elim) ⟨B, n1⟩
    have hfr' : (upd hpc (nm + 1) .gh) nm = .free := by rw [upd_other _ _ hne1]; exact hfr
    have n2 := n1.addG hfr' (e := .nro t x 0) (v := v) ⟨by rw [upd_other _ _ hne1.symm, upd_same]; simp, A, c, cs, by rw [upd_same]; exact hvv, by rw [upd_other _ _ hne1.symm, upd_same], h3, h4⟩ (fun q => q.elim)
    have m2 := m1.add hfr' (e := .nro t x 0) (v := v) ⟨A, c, cs.toList, hvv, h1, h2, h4.len, fun hl => by
      obtain ⟨a, g1, g2⟩ := h3 hl
      exact ⟨a, g1, fun j u hu => g2 j u (by simpa using hu)⟩⟩ (by simp) (fun m hlm hw g hg hc => by
      rcases hw with hw | ⟨hl, hwm⟩
      · exact hw
      · obtain ⟨n, hsn, hvn, hln, hbn⟩ := h5 hl
        have hm1 : m ≠ nm + 1 := fun e => by subst e; rw [upd_same] at hwm; exact hwm
        rw [upd_other _ _ hm1] at hwm hc
        rcases hB.link m hwm.lv with ⟨h4, _⟩ | ⟨n', h4, h5, h6, h7⟩
        · exact h4 hwm
        · have hne : n' ≠ n := fun e => by subst e; exact hro n' hsn hbn (hB.sub n' (h6 hwm).1)
          rw [h4] at hc
          rw [hvn] at hg
          exact hm.sep n' n hne (h6 hwm).2 hln g hc hg) (fun q => q.elim) ⟨B, n2⟩
    have hext := (Ext.new (ν := νc) hfr1 .gh (.agg cs)).trans (Ext.new hfr' (.nro t x 0) v)
    refine ⟨_, ⟨m2, fun n hn' => ?_, hB.nb, n2, fun i hi => ?_, hB.sub⟩, ⟨by rw [upd_same]; simp, by rw [upd_same], A, _, c, hvv⟩, hext, by omega, fun n hn' => ?_⟩
    · rw [upd_other _ _ (by omega), upd_other _ _ (by omega)]
      exact hB.free n (by omega)
    · by_cases hin : i = nm
      · subst hin
        rw [upd_same] at hi ⊢
        rw [upd_same]
        obtain ⟨n, hsn, hvn, hln, hbn⟩ := h5 hi
        exact .inr ⟨n, hvn, hln, fun h => h.elim, fun _ => hro n hsn hbn⟩
      · rw [upd_other _ _ hin] at hi ⊢
        rw [upd_other _ _ hin]
        by_cases hin1 : i = nm + 1
        · subst hin1; rw [upd_same] at hi; exact hi.elim
        · rw [upd_other _ _ hin1] at hi ⊢
          rw [upd_other _ _ hin1]
          exact hB.link i hi
    · rw [upd_other _ _ (by omega), upd_other _ _ (by omega)]
theorem slN_cons (x : SC) (r : List SC) : ∀ n, n ∈ slN r → n ∈ slN (x :: r) := by
  intro n hn
  cases x <;> first | exact hn | exact List.mem_cons_of_mem _ hn
theorem slN_head {x : SC} {n : Nat} (r : List SC) (h : x = .sl n) : n ∈ slN (x :: r) := by subst h; exact List.mem_cons_self
theorem Beg.cells {G' : GS} {H : List Nat} {done : List Nat} (hm : Mem base G w0 w hp ν) : ∀ (ks : List CK) (x : CKs ks) (sas : List SC) (vs : List Value) (nm : Nat) (hpc : Hp) (νc : Nat → Value) (scs : List SC) (nm' : Nat) (hpc' : Hp), Beg base G B w hp ν G' H nm hpc νc done → mCs hp ks sas = some x → CsRel hp ν sas vs → (∀ n, n ∈ slN sas → ¬ boxE (hp n) → n ∉ H) → iCs ks x nm hpc = (scs, nm', hpc') →
    ∃ νc', Beg base G B w hp ν G' H nm' hpc' νc' done ∧ CsRel hpc' νc' scs vs ∧ Ext hpc νc hpc' νc' ∧ nm ≤ nm' ∧ (∀ n, n < nm → hpc' n = hpc n)
  | [], x, sas, vs, nm, hpc, νc, scs, nm', hpc', hB, h, hv, hro, hq => by
    have hq : (([] : List SC), nm, hpc) = (scs, nm', hpc') := hq
    simp only [Prod.mk.injEq] at hq
    obtain ⟨rfl, rfl, rfl⟩ := hq
    match sas, vs, hv with
    | [], [], _ => exact ⟨νc, hB, trivial, .refl _ _, Nat.le_refl _, fun _ _ => rfl⟩
    | _ :: _, _, _ => exact no_some (α := Unit) h
  | [k], x, sas, vs, nm, hpc, νc, scs, nm', hpc', hB, h, hv, hro, hq => by
    match sas, vs, hv with
    | [sa], [v], hv =>
      replace hq := (iCs_one k x nm hpc).symm.trans hq
      generalize hq1 : iC nm hpc k x = q at hq
      obtain ⟨a, b, c⟩ := q
      simp only [Prod.mk.injEq] at hq
      obtain ⟨rfl, rfl, rfl⟩ := hq
      obtain ⟨νc', h1, h2, h3⟩ := hB.cell hm (k := k) (x := x) h hv.1 (fun n he => hro n (slN_head [] he)) hq1
      exact ⟨νc', h1, ⟨h2, trivial⟩, h3⟩
    | [], _, _ => exact no_some (α := k.T) h
    | _ :: _ :: _, _, _ => exact no_some (α := k.T) h
    | [_], [], hv => exact hv.elim
    | [_], _ :: _ :: _, hv => exact hv.2.elim
  | k :: k' :: r, x, sas, vs, nm, hpc, νc, scs, nm', hpc', hB, h, hv, hro, hq => by
    match sas, vs, hv with
    | sa :: sar, v :: vr, hv =>
      rw [mCs_cons] at h
      split at h
      · rename_i a b ha hb
        have h : some (a, b) = some x := h
        injection h with h
        subst h
        replace hq : (match iC nm hpc k a with
          | (s, n, p) => match iCs (k' :: r) b n p with
            | (s', n', p') => (s :: s', n', p')) = (scs, nm', hpc') := hq
        generalize hq1 : iC nm hpc k a = q at hq
        obtain ⟨s1, n1, p1⟩ := q
        simp only [] at hq
        generalize hq2 : iCs (k' :: r) b n1 p1 = q at hq
        obtain ⟨s2, n2, p2⟩ := q
        simp only [Prod.mk.injEq] at hq
        obtain ⟨rfl, rfl, rfl⟩ := hq
        obtain ⟨νc1, h1, h2, h3, h4, h5⟩ := hB.cell hm (k := k) (x := a) ha hv.1 (fun n he => hro n (slN_head sar he)) hq1
        obtain ⟨νc2, g1, g2, g3, g4, g5⟩ := Beg.cells hm (k' :: r) b sar vr n1 p1 νc1 s2 n2 p2 h1 hb hv.2 (fun n hn => hro n (slN_cons sa sar n hn)) hq2
        exact ⟨νc2, g1, ⟨h2.mono g3, g2⟩, h3.trans g3, Nat.le_trans h4 g4, fun n hn => (g5 n (by omega)).trans (h5 n hn)⟩
      · cases h
    | [], _, _ => exact no_some (α := k.T × CKs (k' :: r)) h
    | _ :: _, [], hv => exact hv.elim
theorem mW_row {t : Ty} {e : TypeId} {sa : SC} {x : List t.T} (h : mW hp (.row t e) sa = some x) : ∃ n, sa = .sl n ∧ hp n = .row t x e := by
  cases sa with
  | sl n =>
    have h2 : (match hp n with
      | .row t' l e' => match t'.dec t with
        | some ⟨h⟩ => cnd (Nat.beq e e') (some (h ▸ l : List t.T)) none
        | none => none
      | _ => none) = some x := h
    clear h
    refine ⟨n, rfl, ?_⟩
    cases hr : hp n with
    | row t' l e' =>
      rw [hr] at h2
      have h3 : (match t'.dec t with
        | some ⟨h⟩ => cnd (Nat.beq e e') (some (h ▸ l : List t.T)) none
        | none => none) = some x := h2
      clear h2
      split at h3
      · rename_i heq _
        subst heq
        cases he : Nat.beq e e' with
        | false => rw [he] at h3; exact no_some (α := List t'.T) h3
        | true =>
          rw [he] at h3
          have := Nat.eq_of_beq_eq_true he
          subst this
          have h4 : some l = some x := h3
          injection h4 with h4
          subst h4
          rfl
      · exact no_some h3
    | _ => rw [hr] at h2; exact no_some (α := List t.T) h2
  | _ => exact no_some (α := List t.T) h
theorem mW_nrow {t : NT} {e : TypeId} {sa : SC} {x : List t.T} (h : mW hp (.nrow t e) sa = some x) : ∃ n gg, sa = .sl n ∧ hp n = .nrow gg t x e := by
  cases sa with
  | sl n =>
    have h2 : (match hp n with
      | .nrow _ t' l e' => match t'.dec t with
        | some ⟨h⟩ => cnd (Nat.beq e e') (some (h ▸ l : List t.T)) none
        | none => none
      | _ => none) = some x := h
    clear h
    cases hr : hp n with
    | nrow gg t' l e' =>
      refine ⟨n, gg, rfl, ?_⟩
      rw [hr] at h2 ⊢
      have h3 : (match t'.dec t with
        | some ⟨h⟩ => cnd (Nat.beq e e') (some (h ▸ l : List t.T)) none
        | none => none) = some x := h2
      clear h2
      split at h3
      · rename_i heq _
        subst heq
        cases he : Nat.beq e e' with
        | false => rw [he] at h3; exact no_some (α := List t'.T) h3
        | true =>
          rw [he] at h3
          have := Nat.eq_of_beq_eq_true he
          subst this
          have h4 : some l = some x := h3
          injection h4 with h4
          subst h4
          rfl
      · exact no_some h3
    | _ => rw [hr] at h2; exact no_some (α := List t.T) h2
  | _ => exact no_some (α := List t.T) h
theorem mA_pw {ks : List WK} {t : TypeId} {sa : SV} {x : WKs ks} (h : mA hp (.pw ks t) sa = some x) : ∃ n cs, sa = .a false [.ptr n 0] ∧ hp n = .box cs t ∧ mWs hp ks cs = some x := by
  match sa with
  | .a false [.ptr n 0] =>
    have h2 : (match hp n with
      | .box cs t' => cnd (Nat.beq t t') (mWs hp ks cs) none
      | _ => none) = some x := h
    clear h
    cases hb : hp n with
    | box cs t' =>
      rw [hb] at h2
      have h3 : cnd (Nat.beq t t') (mWs hp ks cs) none = some x := h2
      clear h2
      cases ht : Nat.beq t t' with
      | false => rw [ht] at h3; exact no_some (α := WKs ks) h3
      | true =>
        rw [ht] at h3
        have := Nat.eq_of_beq_eq_true ht
        subst this
        exact ⟨n, cs, rfl, hb, h3⟩
    | _ => rw [hb] at h2; exact no_some (α := WKs ks) h2
  | .a false [.ptr n (m + 1)] => exact no_some (α := WKs ks) h
  | .a false [] => exact no_some (α := WKs ks) h
  | .a false (x :: _ :: _) => cases x with
    | ptr n m => cases m <;> exact no_some (α := WKs ks) h
    | _ => exact no_some (α := WKs ks) h
  | .a true _ => exact no_some (α := WKs ks) h
  | .any => exact no_some (α := WKs ks) h
  | .tup _ => exact no_some (α := WKs ks) h
  | .a false [.any] | .a false [.bool _] | .a false [.int _ _] | .a false [.str _] | .a false [.nilp] | .a false [.sl _] | .a false [.nils] | .a false [.ep _ _ _ _] | .a false [.pj _ _ _ _] | .a false [.pg _ _ _ _] => exact no_some (α := WKs ks) h
theorem mA_w {g : Bool} {ks : List WK} {sa : SV} {x : WKs ks} (h : mA hp (.w g ks) sa = some x) : ∃ cs, sa = .a g cs ∧ mWs hp ks cs = some x := by
  have key : ∀ g' cs, cnd (beqB g g') (mWs hp ks cs) none = some x → g = g' ∧ mWs hp ks cs = some x := fun g' cs h2 => by
    cases g <;> cases g' <;> first | exact ⟨rfl, h2⟩ | exact no_some (α := WKs ks) h2
  match sa with
  | .a false cs => obtain ⟨rfl, h2⟩ := key false cs h; exact ⟨cs, rfl, h2⟩
  | .a true cs => obtain ⟨rfl, h2⟩ := key true cs h; exact ⟨cs, rfl, h2⟩
  | .any => exact no_some (α := WKs ks) h
  | .tup _ => exact no_some (α := WKs ks) h
theorem iWs_one (k : WK) (x : k.T) (nm : Nat) (hp : Nat → Ent) : iWs [k] x nm hp = (match iW nm hp k x with | (a, nm, hp) => ([a], nm, hp)) := rfl
theorem mWs_cons (hp : Nat → Ent) (k k' : WK) (r : List WK) (x : SC) (y : List SC) : mWs hp (k :: k' :: r) (x :: y) = ((match mW hp k x, mWs hp (k' :: r) y with
    | some a, some b => some (a, b)
    | _, _ => none) : Option (k.T × WKs (k' :: r))) := rfl
theorem Beg.wcell {G' : GS} {H : List Nat} {nm : Nat} {hpc : Hp} {νc : Nat → Value} {done : List Nat} (hB : Beg base G B w hp ν G' H nm hpc νc done) (hm : Mem base G w0 w hp ν) {k : WK} {x : k.T} {sa : SC} {v : Value} (h : mW hp k sa = some x) (hv : CRel hp ν sa v)
    (hro : ∀ n, n ∈ rdW [k] [sa] → n ∉ H) (hG : ∀ p, p ∈ rowsW [k] [sa] → p ∉ done ∧ p ∈ H ∧ ∀ g, blk (ν p) = some g → G' g) {sc : SC} {nm' : Nat} {hpc' : Hp} (hq : iW nm hpc k x = (sc, nm', hpc')) :
    ∃ νc', Beg base G B w hp ν G' H nm' hpc' νc' (rowsW [k] [sa] ++ done) ∧ CRel hpc' νc' sc v ∧ Ext hpc νc hpc' νc' ∧ nm ≤ nm' ∧ (∀ n, n < nm → hpc' n = hpc n) := by
  cases k with
  | c k =>
    have hr : rowsW [WK.c k] [sa] = [] := by cases sa <;> rfl
    rw [hr]
    obtain ⟨νc', h1, h2, h3, h4, h5⟩ := hB.cell hm (k := k) (x := x) h hv (fun n he _ => hro n (by subst he; exact List.mem_cons_self)) hq
    exact ⟨νc', h1, h2, h3, h4, h5⟩
  | row t e =>
    obtain ⟨n, rfl, hrow⟩ := mW_row h
    have hq : (SC.sl nm, nm + 1, upd hpc nm (.row t x e)) = (sc, nm', hpc') := hq
    simp only [Prod.mk.injEq] at hq
    obtain ⟨rfl, rfl, rfl⟩ := hq
    have hr : rowsW [WK.row t e] [SC.sl n] = [n] := rfl
    have hGn := hG n (by rw [hr]; exact List.mem_cons_self)
    obtain ⟨hnf, hvv, hsl⟩ := hv
    have hfr := hB.free nm (Nat.le_refl _)
    have hent := hm.ent n
    rw [hrow] at hent
    have hent : w.ownsRow 0 e t.size (ν n) x.length (t.flat x) := hent
    have hn2 := hB.nc.add hfr (e := .row t x e) (v := v) trivial (fun _ g hg hb => hB.nb.sep n (by rw [hrow]; trivial) g (by rw [← hvv]; exact hg) hb)
    have hadd := hB.mem.add hfr (e := .row t x e) (v := v) (by rw [hvv]; exact hent) (by simp) (fun m hlm _ g hg hc => by
      rw [hvv] at hg
      rcases hB.link m hlm with ⟨_, hbb⟩ | ⟨n', e1, e2, e3, e4⟩
      · exact hB.nb.sep n (by rw [hrow]; trivial) g hg (hbb g hc)
      rw [e1] at hc
      have hne : n ≠ n' := fun e => by
        subst e
        by_cases hb : wrE (hpc m)
        · exact hGn.1 (e3 hb).1
        · exact e4 hb hGn.2.1
      exact hm.sep n n' hne (by rw [hrow]; trivial) e2 g hg hc) (fun _ g hg => .inr (hGn.2.2 g (by rw [← hvv]; exact hg))) ⟨B, hn2⟩
    have hext := Ext.new (ν := νc) hfr (.row t x e) v
    refine ⟨upd νc nm v, ⟨hadd, fun m hm' => ?_, hB.nb, hn2, fun i hi => ?_, fun p hp' => ?_⟩, ⟨by rw [upd_same]; simp, by rw [upd_same], hsl⟩, hext, Nat.le_succ _, fun k hk => upd_other _ _ (by omega)⟩
    · rw [upd_other _ _ (by omega)]
      exact hB.free m (by omega)
    · by_cases hin : i = nm
      · subst hin
        rw [upd_same, upd_same]
        exact .inr ⟨n, hvv, by rw [hrow]; trivial, fun _ => ⟨by rw [hr]; exact List.mem_cons_self, by rw [hrow]; trivial⟩, fun hh => absurd trivial hh⟩
      · rw [upd_other _ _ hin] at hi ⊢
        rw [upd_other _ _ hin]
        rcases hB.link i hi with q | ⟨n', e1, e2, e3, e4⟩
        · exact .inl q
        exact .inr ⟨n', e1, e2, fun hb => ⟨by rw [hr]; exact List.mem_cons_of_mem _ (e3 hb).1, (e3 hb).2⟩, e4⟩
    · rw [hr] at hp'
      rcases List.mem_append.1 hp' with hp' | hp'
      · rw [List.mem_singleton] at hp'; subst hp'; exact hGn.2.1
      · exact hB.sub p hp'
  | nrow t e =>
    obtain ⟨n, gg, rfl, hrow⟩ := mW_nrow h
    have hq : (SC.sl nm, nm + 2, upd (upd hpc nm (.nrow true t x e)) (nm + 1) (.gho t x)) = (sc, nm', hpc') := hq
    simp only [Prod.mk.injEq] at hq
    obtain ⟨rfl, rfl, rfl⟩ := hq
    have hr : rowsW [WK.nrow t e] [SC.sl n] = [n] := rfl
    have hGn := hG n (by rw [hr]; exact List.mem_cons_self)
    obtain ⟨hnf, hvv, hsl⟩ := hv
    have hfr := hB.free nm (Nat.le_refl _)
    have hfr1 := hB.free (nm + 1) (Nat.le_succ _)
    have hrel := hB.nb.rel n
    rw [hrow] at hrel
    obtain ⟨fl, hent, hfl, _⟩ := hrel
    have hne1 : nm ≠ nm + 1 := by omega
    rw [upd_swap hpc (.nrow true t x e) (.gho t x) hne1]
    have n1 := hB.nc.addG hfr1 (e := .gho t x) (v := .agg fl.toArray) ⟨fl.toArray, by rw [upd_same], hfl⟩ (fun q => q.elim)
    have m1 := hB.mem.add hfr1 (e := .gho t x) (v := .agg fl.toArray) trivial (by simp) (fun _ _ _ g hg => by cases hg) (fun q => q.elim) ⟨B, n1⟩
    have hfr' : (upd hpc (nm + 1) (.gho t x)) nm = .free := by rw [upd_other _ _ hne1]; exact hfr
    have n2 := n1.addG hfr' (e := .nrow true t x e) (v := v) ⟨fl, by rw [upd_same, hvv]; exact hent, hfl, fun _ => ⟨by rw [upd_other _ _ hne1.symm, upd_same]; simp, fl.toArray, by rw [upd_other _ _ hne1.symm, upd_same], rfl⟩⟩
      (fun _ g hg hb => hB.nb.sep n (by rw [hrow]; trivial) g (by rw [← hvv]; exact hg) hb)
    have m2 := m1.add hfr' (e := .nrow true t x e) (v := v) ⟨fl, by rw [hvv]; exact hent⟩ (by simp) (fun m hlm _ g hg hc => by
      rw [hvv] at hg
      have hm1 : m ≠ nm + 1 := fun e => by subst e; rw [upd_same] at hlm; exact hlm
      rw [upd_other _ _ hm1] at hlm hc
      rcases hB.link m hlm with ⟨_, hbb⟩ | ⟨n', e1, e2, e3, e4⟩
      · exact hB.nb.sep n (by rw [hrow]; trivial) g hg (hbb g hc)
      rw [e1] at hc
      have hne : n ≠ n' := fun e => by
        subst e
        by_cases hb : wrE (hpc m)
        · exact hGn.1 (e3 hb).1
        · exact e4 hb hGn.2.1
      exact hm.sep n n' hne (by rw [hrow]; trivial) e2 g hg hc) (fun _ g hg => .inr (hGn.2.2 g (by rw [← hvv]; exact hg))) ⟨B, n2⟩
    have hext := (Ext.new (ν := νc) hfr1 (.gho t x) (.agg fl.toArray)).trans (Ext.new hfr' (.nrow true t x e) v)
    refine ⟨_, ⟨m2, fun m hm' => ?_, hB.nb, n2, fun i hi => ?_, fun p hp' => ?_⟩, ⟨by rw [upd_same]; simp, by rw [upd_same], hsl⟩, hext, by omega, fun k hk => ?_⟩
    · rw [upd_other _ _ (by omega), upd_other _ _ (by omega)]
      exact hB.free m (by omega)
    · by_cases hin : i = nm
      · subst hin
        rw [upd_same, upd_same]
        exact .inr ⟨n, hvv, by rw [hrow]; trivial, fun _ => ⟨by rw [hr]; exact List.mem_cons_self, by rw [hrow]; trivial⟩, fun hh => absurd trivial hh⟩
      · rw [upd_other _ _ hin] at hi ⊢
        rw [upd_other _ _ hin]
        by_cases hin1 : i = nm + 1
        · subst hin1; rw [upd_same] at hi; exact hi.elim
        · rw [upd_other _ _ hin1] at hi ⊢
          rw [upd_other _ _ hin1]
          rcases hB.link i hi with q | ⟨n', e1, e2, e3, e4⟩
          · exact .inl q
          exact .inr ⟨n', e1, e2, fun hb => ⟨by rw [hr]; exact List.mem_cons_of_mem _ (e3 hb).1, (e3 hb).2⟩, e4⟩
    · rw [hr] at hp'
      rcases List.mem_append.1 hp' with hp' | hp'
      · rw [List.mem_singleton] at hp'; subst hp'; exact hGn.2.1
      · exact hB.sub p hp'
    · rw [upd_other _ _ (by omega), upd_other _ _ (by omega)]
theorem rowsW_cons (k : WK) (r : List WK) (x : SC) (y : List SC) : rowsW (k :: r) (x :: y) = rowsW [k] [x] ++ rowsW r y := by
  cases k with
  | row t e => cases x <;> rfl
  | nrow t e => cases x <;> rfl
  | c k => rfl
theorem rdW_cons (k : WK) (r : List WK) (x : SC) (y : List SC) : rdW (k :: r) (x :: y) = rdW [k] [x] ++ rdW r y := by
  cases k with
  | c k => cases x <;> rfl
  | row t e => rfl
  | nrow t e => rfl
theorem nodup_app {l m : List Nat} (h : nodupN (l ++ m) = true) : nodupN m = true ∧ ∀ p, p ∈ l → p ∉ m := by
  induction l with
  | nil => exact ⟨h, fun p hp => by cases hp⟩
  | cons x l ih =>
    simp only [List.cons_append, nodupN, Bool.and_eq_true, Bool.not_eq_true'] at h
    obtain ⟨h1, h2⟩ := ih h.2
    refine ⟨h1, fun p hp hm => ?_⟩
    cases hp with
    | head =>
      have : memN x (l ++ m) = true := memN_iff.2 (List.mem_append_right _ hm)
      rw [this] at h
      cases h.1
    | tail _ hp => exact h2 p hp hm
theorem nodup_left {l m : List Nat} (h : nodupN (l ++ m) = true) : nodupN l = true := by
  induction l with
  | nil => rfl
  | cons x l ih =>
    simp only [List.cons_append, nodupN, Bool.and_eq_true, Bool.not_eq_true'] at h ⊢
    refine ⟨?_, ih h.2⟩
    cases hx : memN x l with
    | false => rfl
    | true =>
      have : memN x (l ++ m) = true := memN_iff.2 (List.mem_append_left _ (memN_iff.1 hx))
      rw [this] at h
      cases h.1
theorem Beg.wcells {G' : GS} {H : List Nat} (hm : Mem base G w0 w hp ν) : ∀ (ks : List WK) (x : WKs ks) (sas : List SC) (vs : List Value) (nm : Nat) (hpc : Hp) (νc : Nat → Value) (done : List Nat) (scs : List SC) (nm' : Nat) (hpc' : Hp), Beg base G B w hp ν G' H nm hpc νc done → mWs hp ks sas = some x → CsRel hp ν sas vs →
    (∀ n, n ∈ rdW ks sas → n ∉ H) → nodupN (rowsW ks sas) = true → (∀ p, p ∈ rowsW ks sas → p ∉ done ∧ p ∈ H ∧ ∀ g, blk (ν p) = some g → G' g) → iWs ks x nm hpc = (scs, nm', hpc') →
    ∃ νc' done', Beg base G B w hp ν G' H nm' hpc' νc' done' ∧ CsRel hpc' νc' scs vs ∧ Ext hpc νc hpc' νc' ∧ nm ≤ nm' ∧ (∀ p, p ∈ done' → p ∈ rowsW ks sas ∨ p ∈ done) ∧ (∀ n, n < nm → hpc' n = hpc n)
  | [], x, sas, vs, nm, hpc, νc, done, scs, nm', hpc', hB, h, hv, hro, hnd, hG, hq => by
    have hq : (([] : List SC), nm, hpc) = (scs, nm', hpc') := hq
    simp only [Prod.mk.injEq] at hq
    obtain ⟨rfl, rfl, rfl⟩ := hq
    match sas, vs, hv with
    | [], [], _ => exact ⟨νc, done, hB, trivial, .refl _ _, Nat.le_refl _, fun _ h => .inr h, fun _ _ => rfl⟩
    | _ :: _, _, _ => exact no_some (α := Unit) h
  | [k], x, sas, vs, nm, hpc, νc, done, scs, nm', hpc', hB, h, hv, hro, hnd, hG, hq => by
    match sas, vs, hv with
    | [sa], [v], hv =>
      replace hq := (iWs_one k x nm hpc).symm.trans hq
      generalize hq1 : iW nm hpc k x = q at hq
      obtain ⟨a, b, c⟩ := q
      simp only [Prod.mk.injEq] at hq
      obtain ⟨rfl, rfl, rfl⟩ := hq
      obtain ⟨νc', h1, h2, h3, h4, h5⟩ := hB.wcell hm (k := k) (x := x) h hv.1 hro hG hq1
      exact ⟨νc', _, h1, ⟨h2, trivial⟩, h3, h4, fun p hp' => List.mem_append.1 hp', h5⟩
    | [], _, _ => exact no_some (α := k.T) h
    | _ :: _ :: _, _, _ => exact no_some (α := k.T) h
    | [_], [], hv => exact hv.elim
    | [_], _ :: _ :: _, hv => exact hv.2.elim
  | k :: k' :: r, x, sas, vs, nm, hpc, νc, done, scs, nm', hpc', hB, h, hv, hro, hnd, hG, hq => by
    match sas, vs, hv with
    | sa :: sar, v :: vr, hv =>
      rw [mWs_cons] at h
      split at h
      · rename_i a b ha hb
        have h : some (a, b) = some x := h
        injection h with h
        subst h
        rw [rowsW_cons] at hnd hG
        rw [rdW_cons] at hro
        obtain ⟨hnd1, hnd2⟩ := nodup_app hnd
        replace hq : (match iW nm hpc k a with
          | (s, n, p) => match iWs (k' :: r) b n p with
            | (s', n', p') => (s :: s', n', p')) = (scs, nm', hpc') := hq
        generalize hq1 : iW nm hpc k a = q at hq
        obtain ⟨s1, n1, p1⟩ := q
        simp only [] at hq
        generalize hq2 : iWs (k' :: r) b n1 p1 = q at hq
        obtain ⟨s2, n2, p2⟩ := q
        simp only [Prod.mk.injEq] at hq
        obtain ⟨rfl, rfl, rfl⟩ := hq
        obtain ⟨νc1, h1, h2, h3, h4, h5⟩ := hB.wcell hm (k := k) (x := a) ha hv.1 (fun n hn => hro n (List.mem_append_left _ hn)) (fun p hp => hG p (List.mem_append_left _ hp)) hq1
        obtain ⟨νc2, done2, g1, g2, g3, g4, g5, g6⟩ := Beg.wcells hm (k' :: r) b sar vr n1 p1 νc1 _ s2 n2 p2 h1 hb hv.2 (fun n hn => hro n (List.mem_append_right _ hn)) hnd1 (fun p hp => ⟨fun hin => by
          rcases List.mem_append.1 hin with hin | hin
          · exact hnd2 p hin hp
          · exact (hG p (List.mem_append_right _ hp)).1 hin, (hG p (List.mem_append_right _ hp)).2⟩) hq2
        refine ⟨νc2, done2, g1, ⟨h2.mono g3, g2⟩, h3.trans g3, Nat.le_trans h4 g4, fun p hp' => ?_, fun n hn => (g6 n (by omega)).trans (h5 n hn)⟩
        rw [rowsW_cons]
        rcases g5 p hp' with h6 | h6
        · exact .inl (List.mem_append_right _ h6)
        · rcases List.mem_append.1 h6 with h6 | h6
          · exact .inl (List.mem_append_left _ h6)
          · exact .inr h6
      · cases h
    | [], _, _ => exact no_some (α := k.T × WKs (k' :: r)) h
    | _ :: _, [], hv => exact hv.elim
theorem Beg.arg {G' : GS} {H : List Nat} {nm : Nat} {hpc : Hp} {νc : Nat → Value} {done : List Nat} (hB : Beg base G B w hp ν G' H nm hpc νc done) (hm : Mem base G w0 w hp ν) {k : AK} {x : k.T} {sa : SV} {v : Value} (h : mA hp k sa = some x) (hv : VRel hp ν sa v)
    (hro : ∀ n, n ∈ rdsOf hp [k] [sa] → n ∉ H) (hbx : noP [k] = true ∨ ∀ p, p ∈ H → boxE (hp p)) (hnd : nodupN (hands hp [k] [sa]) = true) (hG : ∀ p, p ∈ hands hp [k] [sa] → p ∉ done ∧ p ∈ H ∧ ∀ g, blk (ν p) = some g → G' g) {sv : SV} {nm' : Nat} {hpc' : Hp} (hq : iA k x nm hpc = (sv, nm', hpc')) :
    ∃ νc' done', Beg base G B w hp ν G' H nm' hpc' νc' done' ∧ VRel hpc' νc' sv v ∧ Ext hpc νc hpc' νc' ∧ nm ≤ nm' ∧ (∀ p, p ∈ done' → p ∈ hands hp [k] [sa] ∨ p ∈ done) := by
  cases k with
  | c k =>
    obtain ⟨y, rfl, hy⟩ := mA_c h
    have hq : (match iC nm hpc k x with | (a, nm, hp) => (one a, nm, hp)) = (sv, nm', hpc') := hq
    generalize hq1 : iC nm hpc k x = q at hq
    obtain ⟨s1, n1, p1⟩ := q
    simp only [Prod.mk.injEq] at hq
    obtain ⟨rfl, rfl, rfl⟩ := hq
    obtain ⟨z, hz, hc⟩ := hv
    injection hz with hz _
    subst hz
    obtain ⟨νc', h1, h2, h3, h4, h5⟩ := hB.cell hm (k := k) (x := x) hy hc (fun n he _ => hro n (by subst he; exact List.mem_cons_self)) hq1
    exact ⟨νc', _, h1, ⟨_, rfl, h2⟩, h3, h4, fun _ h => .inr h⟩
  | agg ks =>
    obtain ⟨cs, rfl, hy⟩ := mA_agg h
    have hq : (match iCs ks x nm hpc with | (a, nm, hp) => (SV.a true a, nm, hp)) = (sv, nm', hpc') := hq
    generalize hq1 : iCs ks x nm hpc = q at hq
    obtain ⟨s1, n1, p1⟩ := q
    simp only [Prod.mk.injEq] at hq
    obtain ⟨rfl, rfl, rfl⟩ := hq
    obtain ⟨vs, rfl, hc⟩ := hv
    obtain ⟨νc', h1, h2, h3, h4, h5⟩ := Beg.cells hm ks x cs vs.toList nm hpc νc _ _ _ hB hy hc (fun n hn _ => hro n (by
      show n ∈ slN cs ++ []
      rw [List.append_nil]; exact hn)) hq1
    exact ⟨νc', _, h1, ⟨_, rfl, h2⟩, h3, h4, fun _ h => .inr h⟩
  | w g ks =>
    obtain ⟨cs, rfl, hy⟩ := mA_w h
    have hq : (match iWs ks x nm hpc with | (a, nm, hp) => (SV.a g a, nm, hp)) = (sv, nm', hpc') := hq
    generalize hq1 : iWs ks x nm hpc = q at hq
    obtain ⟨s1, n1, p1⟩ := q
    simp only [Prod.mk.injEq] at hq
    obtain ⟨rfl, rfl, rfl⟩ := hq
    have hpe : hands hp [AK.w g ks] [SV.a g cs] = rowsW ks cs := by
      show rowsW ks cs ++ [] = _
      rw [List.append_nil]
    have hre : rdsOf hp [AK.w g ks] [SV.a g cs] = rdW ks cs := by
      show rdW ks cs ++ [] = _
      rw [List.append_nil]
    rw [hpe] at hnd hG ⊢
    rw [hre] at hro
    cases g with
    | true =>
      obtain ⟨vs, rfl, hc⟩ := hv
      obtain ⟨νc', done', h1, h2, h3, h4, h5, _⟩ := Beg.wcells hm ks x cs vs.toList nm hpc νc done _ _ _ hB hy hc hro hnd hG hq1
      exact ⟨νc', done', h1, ⟨_, rfl, h2⟩, h3, h4, h5⟩
    | false =>
      obtain ⟨y, rfl, hc⟩ := hv
      obtain ⟨νc', done', h1, h2, h3, h4, h5, _⟩ := Beg.wcells hm ks x [y] [v] nm hpc νc done _ _ _ hB hy ⟨hc, trivial⟩ hro hnd hG hq1
      refine ⟨νc', done', h1, ?_, h3, h4, h5⟩
      match s1, h2 with
      | [z], h2 => exact ⟨z, rfl, h2.1⟩
      | [], h2 => exact h2.elim
      | _ :: _ :: _, h2 => exact h2.2.elim
  | ptr ks t =>
    obtain ⟨n, cs, rfl, hbox, hy⟩ := mA_ptr h
    have hq : (match iCs ks x (nm + 1) hpc with | (cs, nm', hp) => (one (.ptr nm 0), nm', upd hp nm (.box cs t))) = (sv, nm', hpc') := hq
    generalize hq1 : iCs ks x (nm + 1) hpc = q at hq
    obtain ⟨s1, n1, p1⟩ := q
    simp only [Prod.mk.injEq] at hq
    obtain ⟨rfl, rfl, rfl⟩ := hq
    obtain ⟨hnf, g, hg, hvv⟩ := hv.ptr
    have hent := hm.ent n
    rw [hbox] at hent
    obtain ⟨g', vs, hg', hheap, hcs⟩ := hent
    rw [hg] at hg'
    simp only [Value.pointer.injEq, Option.some.injEq, Addr.mk.injEq, and_true] at hg'
    subst hg'
    have hps : hands hp [.ptr ks t] [.a false [.ptr n 0]] = [n] := rfl
    have hGn := hG n (by rw [hps]; exact List.mem_cons_self)
    have hB' : Beg base G B w hp ν G' H (nm + 1) hpc νc done := ⟨hB.mem, fun m hm' => hB.free m (by omega), hB.nb, hB.nc, hB.link, hB.sub⟩
    have hbx : ∀ p, p ∈ H → boxE (hp p) := hbx.resolve_left (by intro h; cases h)
    obtain ⟨νc1, h1, h2, h3, h4, h5⟩ := Beg.cells hm ks x cs vs.toList (nm + 1) hpc νc s1 n1 p1 hB' hy hcs (fun n _ hnb hin => hnb (hbx n hin)) hq1
    have hslot : p1 nm = .free := by rw [h5 nm (by omega)]; exact hB.free nm (Nat.le_refl _)
    have hext := Ext.new (ν := νc1) hslot (.box s1 t) (.pointer (some ⟨g, 0, none⟩))
    have hn2 := h1.nc.add hslot (e := .box s1 t) (v := .pointer (some ⟨g, 0, none⟩)) trivial (fun _ g' hg' hb => h1.nb.sep n (by rw [hbox]; trivial) g' (by rw [hg]; exact hg') hb)
    have hadd := h1.mem.add hslot (e := .box s1 t) (v := .pointer (some ⟨g, 0, none⟩)) ⟨g, vs, rfl, hheap, h2.mono hext⟩ (by simp) (fun m hlm _ g' hg' hc => by
      simp only [blk, Option.some.injEq] at hg'
      subst hg'
      rcases h1.link m hlm with ⟨_, hbb⟩ | ⟨n', e1, e2, e3, e4⟩
      · exact h1.nb.sep n (by rw [hbox]; trivial) g (by rw [hg]; rfl) (hbb g hc)
      rw [e1] at hc
      have hne : n ≠ n' := fun e => by
        subst e
        by_cases hb : wrE (p1 m)
        · exact hGn.1 (e3 hb).1
        · exact e4 hb hGn.2.1
      exact hm.sep n n' hne (by rw [hbox]; trivial) e2 g (by rw [hg]; rfl) hc) (fun _ g' hg' => by
      simp only [blk, Option.some.injEq] at hg'
      subst hg'
      exact .inr (hGn.2.2 g (by rw [hg]; rfl))) ⟨B, hn2⟩
    refine ⟨upd νc1 nm (.pointer (some ⟨g, 0, none⟩)), hands hp [.ptr ks t] [.a false [.ptr n 0]] ++ done, ⟨hadd, fun m hm' => ?_, h1.nb, hn2, fun i hi => ?_, fun p hp' => ?_⟩, ⟨_, rfl, by rw [upd_same]; simp, g, by rw [upd_same], hvv⟩, h3.trans hext, by omega, fun p hp' => List.mem_append.1 hp'⟩
    · rw [upd_other _ _ (by omega)]
      exact h1.free m hm'
    · by_cases hin : i = nm
      · subst hin
        rw [upd_same, upd_same]
        exact .inr ⟨n, hg.symm, by rw [hbox]; trivial, fun _ => ⟨by rw [hps]; exact List.mem_cons_self, by rw [hbox]; trivial⟩, fun hh => absurd trivial hh⟩
      · rw [upd_other _ _ hin] at hi ⊢
        rw [upd_other _ _ hin]
        rcases h1.link i hi with q | ⟨n', e1, e2, e3, e4⟩
        · exact .inl q
        exact .inr ⟨n', e1, e2, fun hb => ⟨by rw [hps]; exact List.mem_cons_of_mem _ (e3 hb).1, (e3 hb).2⟩, e4⟩
    · rw [hps] at hp'
      rcases List.mem_append.1 hp' with hp' | hp'
      · rw [List.mem_singleton] at hp'; subst hp'; exact hGn.2.1
      · exact h1.sub p hp'
  | pw ks t =>
    obtain ⟨n, cs, rfl, hbox, hy⟩ := mA_pw h
    have hq : (match iWs ks x (nm + 1) hpc with | (cs, nm', hp) => (one (.ptr nm 0), nm', upd hp nm (.box cs t))) = (sv, nm', hpc') := hq
    generalize hq1 : iWs ks x (nm + 1) hpc = q at hq
    obtain ⟨s1, n1, p1⟩ := q
    simp only [Prod.mk.injEq] at hq
    obtain ⟨rfl, rfl, rfl⟩ := hq
    obtain ⟨hnf, g, hg, hvv⟩ := hv.ptr
    have hent := hm.ent n
    rw [hbox] at hent
    obtain ⟨g', vs, hg', hheap, hcs⟩ := hent
    rw [hg] at hg'
    simp only [Value.pointer.injEq, Option.some.injEq, Addr.mk.injEq, and_true] at hg'
    subst hg'
    have hps : hands hp [.pw ks t] [.a false [.ptr n 0]] = n :: rowsW ks cs := by
      show n :: ((match hp n with
        | .box cs _ => rowsW ks cs
        | _ => []) ++ []) = _
      rw [hbox, List.append_nil]
    have hre : rdsOf hp [.pw ks t] [.a false [.ptr n 0]] = rdW ks cs := by
      show (match hp n with
        | .box cs _ => rdW ks cs
        | _ => []) ++ [] = _
      rw [hbox, List.append_nil]
    rw [hps] at hnd hG ⊢
    rw [hre] at hro
    simp only [nodupN, Bool.and_eq_true, Bool.not_eq_true'] at hnd
    have hnin : n ∉ rowsW ks cs := fun hh => by rw [memN_iff.2 hh] at hnd; cases hnd.1
    have hGn := hG n List.mem_cons_self
    have hB' : Beg base G B w hp ν G' H (nm + 1) hpc νc done := ⟨hB.mem, fun m hm' => hB.free m (by omega), hB.nb, hB.nc, hB.link, hB.sub⟩
    obtain ⟨νc1, done1, h1, h2, h3, h4, h5, h6⟩ := Beg.wcells hm ks x cs vs.toList (nm + 1) hpc νc done s1 n1 p1 hB' hy hcs hro hnd.2 (fun p hp' => hG p (List.mem_cons_of_mem _ hp')) hq1
    have hslot : p1 nm = .free := by rw [h6 nm (by omega)]; exact hB.free nm (Nat.le_refl _)
    have hndone : n ∉ done1 := fun hh => by
      rcases h5 n hh with h7 | h7
      · exact hnin h7
      · exact hGn.1 h7
    have hext := Ext.new (ν := νc1) hslot (.box s1 t) (.pointer (some ⟨g, 0, none⟩))
    have hn2 := h1.nc.add hslot (e := .box s1 t) (v := .pointer (some ⟨g, 0, none⟩)) trivial (fun _ g' hg' hb => h1.nb.sep n (by rw [hbox]; trivial) g' (by rw [hg]; exact hg') hb)
    have hadd := h1.mem.add hslot (e := .box s1 t) (v := .pointer (some ⟨g, 0, none⟩)) ⟨g, vs, rfl, hheap, h2.mono hext⟩ (by simp) (fun m hlm _ g' hg' hc => by
      simp only [blk, Option.some.injEq] at hg'
      subst hg'
      rcases h1.link m hlm with ⟨_, hbb⟩ | ⟨n', e1, e2, e3, e4⟩
      · exact h1.nb.sep n (by rw [hbox]; trivial) g (by rw [hg]; rfl) (hbb g hc)
      rw [e1] at hc
      have hne : n ≠ n' := fun e => by
        subst e
        by_cases hb : wrE (p1 m)
        · exact hndone (e3 hb).1
        · exact e4 hb hGn.2.1
      exact hm.sep n n' hne (by rw [hbox]; trivial) e2 g (by rw [hg]; rfl) hc) (fun _ g' hg' => by
      simp only [blk, Option.some.injEq] at hg'
      subst hg'
      exact .inr (hGn.2.2 g (by rw [hg]; rfl))) ⟨B, hn2⟩
    refine ⟨upd νc1 nm (.pointer (some ⟨g, 0, none⟩)), n :: done1, ⟨hadd, fun m hm' => ?_, h1.nb, hn2, fun i hi => ?_, fun p hp' => ?_⟩, ⟨_, rfl, by rw [upd_same]; simp, g, by rw [upd_same], hvv⟩, h3.trans hext, by omega, fun p hp' => ?_⟩
    · rw [upd_other _ _ (by omega)]
      exact h1.free m hm'
    · by_cases hin : i = nm
      · subst hin
        rw [upd_same, upd_same]
        exact .inr ⟨n, hg.symm, by rw [hbox]; trivial, fun _ => ⟨List.mem_cons_self, by rw [hbox]; trivial⟩, fun hh => absurd trivial hh⟩
      · rw [upd_other _ _ hin] at hi ⊢
        rw [upd_other _ _ hin]
        rcases h1.link i hi with q | ⟨n', e1, e2, e3, e4⟩
        · exact .inl q
        exact .inr ⟨n', e1, e2, fun hb => ⟨List.mem_cons_of_mem _ (e3 hb).1, (e3 hb).2⟩, e4⟩
    · cases hp' with
      | head => exact hGn.2.1
      | tail _ hp' => exact h1.sub p hp'
    · cases hp' with
      | head => exact .inl List.mem_cons_self
      | tail _ hp' => exact (h5 p hp').imp (fun q => List.mem_cons_of_mem _ q) id
theorem ptrs_cons (k : AK) (r : List AK) (x : SV) (y : List SV) : ptrs (k :: r) (x :: y) = ptrs [k] [x] ++ ptrs r y := by
  cases k with
  | ptr ks t =>
    match x with
    | .a false [.ptr n 0] => rfl
    | .a false [.ptr n (m + 1)] => rfl
    | .a false [] => rfl
    | .a false [.any] | .a false [.bool _] | .a false [.int _ _] | .a false [.str _] | .a false [.nilp] | .a false [.sl _] | .a false [.nils] | .a false [.ep _ _ _ _] | .a false [.pj _ _ _ _] | .a false [.pg _ _ _ _] => rfl
    | .a false (x :: _ :: _) => cases x with
      | ptr n m => cases m <;> rfl
      | _ => rfl
    | .a true _ => rfl
    | .any => rfl
    | .tup _ => rfl
  | w g ks =>
    match x with
    | .a g' cs =>
      show rowsW ks cs ++ ptrs r y = (rowsW ks cs ++ []) ++ ptrs r y
      rw [List.append_nil]
    | .any => rfl
    | .tup _ => rfl
  | pw ks t =>
    match x with
    | .a false [.ptr n 0] => rfl
    | .a false [.ptr n (m + 1)] => rfl
    | .a false [] => rfl
    | .a false [.any] | .a false [.bool _] | .a false [.int _ _] | .a false [.str _] | .a false [.nilp] | .a false [.sl _] | .a false [.nils] | .a false [.ep _ _ _ _] | .a false [.pj _ _ _ _] | .a false [.pg _ _ _ _] => rfl
    | .a false (x :: _ :: _) => cases x with
      | ptr n m => cases m <;> rfl
      | _ => rfl
    | .a true _ => rfl
    | .any => rfl
    | .tup _ => rfl
  | _ => rfl
theorem rels_cons (k : AK) (r : List AK) (x : SV) (y : List SV) : rels hp (k :: r) (x :: y) = rels hp [k] [x] ++ rels hp r y := by
  cases k with
  | pw ks t =>
    match x with
    | .a false [.ptr n 0] =>
      show (match hp n with
        | .box cs _ => rowsW ks cs
        | _ => []) ++ rels hp r y = ((match hp n with
        | .box cs _ => rowsW ks cs
        | _ => []) ++ []) ++ rels hp r y
      rw [List.append_nil]
    | .a false [.ptr n (m + 1)] => rfl
    | .a false [] => rfl
    | .a false [.any] | .a false [.bool _] | .a false [.int _ _] | .a false [.str _] | .a false [.nilp] | .a false [.sl _] | .a false [.nils] | .a false [.ep _ _ _ _] | .a false [.pj _ _ _ _] | .a false [.pg _ _ _ _] => rfl
    | .a false (x :: _ :: _) => cases x with
      | ptr n m => cases m <;> rfl
      | _ => rfl
    | .a true _ => rfl
    | .any => rfl
    | .tup _ => rfl
  | _ => rfl
theorem hands_cons (k : AK) (r : List AK) (x : SV) (y : List SV) : hands hp (k :: r) (x :: y) = hands hp [k] [x] ++ hands hp r y := by
  cases k with
  | ptr ks t =>
    match x with
    | .a false [.ptr n 0] => rfl
    | .a false [.ptr n (m + 1)] => rfl
    | .a false [] => rfl
    | .a false [.any] | .a false [.bool _] | .a false [.int _ _] | .a false [.str _] | .a false [.nilp] | .a false [.sl _] | .a false [.nils] | .a false [.ep _ _ _ _] | .a false [.pj _ _ _ _] | .a false [.pg _ _ _ _] => rfl
    | .a false (x :: _ :: _) => cases x with
      | ptr n m => cases m <;> rfl
      | _ => rfl
    | .a true _ => rfl
    | .any => rfl
    | .tup _ => rfl
  | pw ks t =>
    match x with
    | .a false [.ptr n 0] =>
      show n :: ((match hp n with
        | .box cs _ => rowsW ks cs
        | _ => []) ++ hands hp r y) = (n :: ((match hp n with
        | .box cs _ => rowsW ks cs
        | _ => []) ++ [])) ++ hands hp r y
      rw [List.append_nil]
      rfl
    | .a false [.ptr n (m + 1)] => rfl
    | .a false [] => rfl
    | .a false [.any] | .a false [.bool _] | .a false [.int _ _] | .a false [.str _] | .a false [.nilp] | .a false [.sl _] | .a false [.nils] | .a false [.ep _ _ _ _] | .a false [.pj _ _ _ _] | .a false [.pg _ _ _ _] => rfl
    | .a false (x :: _ :: _) => cases x with
      | ptr n m => cases m <;> rfl
      | _ => rfl
    | .a true _ => rfl
    | .any => rfl
    | .tup _ => rfl
  | w g ks =>
    match x with
    | .a g' cs =>
      show rowsW ks cs ++ hands hp r y = (rowsW ks cs ++ []) ++ hands hp r y
      rw [List.append_nil]
    | .any => rfl
    | .tup _ => rfl
  | _ => rfl
theorem rdsOf_cons (k : AK) (r : List AK) (x : SV) (y : List SV) : rdsOf hp (k :: r) (x :: y) = rdsOf hp [k] [x] ++ rdsOf hp r y := by
  cases k with
  | ptr ks t => cases x <;> rfl
  | w g ks =>
    match x with
    | .a g' cs =>
      show rdW ks cs ++ rdsOf hp r y = (rdW ks cs ++ []) ++ rdsOf hp r y
      rw [List.append_nil]
    | .any => rfl
    | .tup _ => rfl
  | c k =>
    match x with
    | .a g' cs =>
      show slN cs ++ rdsOf hp r y = (slN cs ++ []) ++ rdsOf hp r y
      rw [List.append_nil]
    | .any => rfl
    | .tup _ => rfl
  | agg ks =>
    match x with
    | .a g' cs =>
      show slN cs ++ rdsOf hp r y = (slN cs ++ []) ++ rdsOf hp r y
      rw [List.append_nil]
    | .any => rfl
    | .tup _ => rfl
  | pw ks t =>
    match x with
    | .a false [.ptr n 0] =>
      show (match hp n with
        | .box cs _ => rdW ks cs
        | _ => []) ++ rdsOf hp r y = ((match hp n with
        | .box cs _ => rdW ks cs
        | _ => []) ++ []) ++ rdsOf hp r y
      rw [List.append_nil]
    | .a false [.ptr n (m + 1)] => rfl
    | .a false [] => rfl
    | .a false [.any] | .a false [.bool _] | .a false [.int _ _] | .a false [.str _] | .a false [.nilp] | .a false [.sl _] | .a false [.nils] | .a false [.ep _ _ _ _] | .a false [.pj _ _ _ _] | .a false [.pg _ _ _ _] => rfl
    | .a false (x :: _ :: _) => cases x with
      | ptr n m => cases m <;> rfl
      | _ => rfl
    | .a true _ => rfl
    | .any => rfl
    | .tup _ => rfl
theorem noP_cons {k : AK} {r : List AK} (h : noP (k :: r) = true) : noP [k] = true ∧ noP r = true := by
  cases k with
  | ptr ks t => cases h
  | _ => exact ⟨rfl, h⟩
theorem Beg.args {G' : GS} {H : List Nat} (hm : Mem base G w0 w hp ν) : ∀ (ks : List AK) (x : AKs ks) (sas : List SV) (vs : List Value) (nm : Nat) (hpc : Hp) (νc : Nat → Value) (done : List Nat) (svs : List SV) (nm' : Nat) (hpc' : Hp), Beg base G B w hp ν G' H nm hpc νc done → mAs hp ks sas = some x → VsRel hp ν sas vs →
    (∀ n, n ∈ rdsOf hp ks sas → n ∉ H) → (noP ks = true ∨ ∀ p, p ∈ H → boxE (hp p)) → nodupN (hands hp ks sas) = true → (∀ p, p ∈ hands hp ks sas → p ∉ done ∧ p ∈ H ∧ ∀ g, blk (ν p) = some g → G' g) → iAs ks x nm hpc = (svs, nm', hpc') →
    ∃ νc' done', Beg base G B w hp ν G' H nm' hpc' νc' done' ∧ VsRel hpc' νc' svs vs ∧ Ext hpc νc hpc' νc' ∧ nm ≤ nm'
  | [], x, sas, vs, nm, hpc, νc, done, svs, nm', hpc', hB, h, hv, _, _, _, _, hq => by
    have hq : (([] : List SV), nm, hpc) = (svs, nm', hpc') := hq
    simp only [Prod.mk.injEq] at hq
    obtain ⟨rfl, rfl, rfl⟩ := hq
    match sas, vs, hv with
    | [], [], _ => exact ⟨νc, done, hB, trivial, .refl _ _, Nat.le_refl _⟩
    | _ :: _, _, _ => exact no_some (α := Unit) h
  | [k], x, sas, vs, nm, hpc, νc, done, svs, nm', hpc', hB, h, hv, hro, hbx, hnd, hG, hq => by
    match sas, vs, hv with
    | [sa], [v], hv =>
      replace hq := (iAs_one k x nm hpc).symm.trans hq
      generalize hq1 : iA k x nm hpc = q at hq
      obtain ⟨a, b, c⟩ := q
      simp only [Prod.mk.injEq] at hq
      obtain ⟨rfl, rfl, rfl⟩ := hq
      obtain ⟨νc', done', h1, h2, h3, h4, _⟩ := hB.arg hm (k := k) (x := x) h hv.1 hro hbx hnd hG hq1
      exact ⟨νc', done', h1, ⟨h2, trivial⟩, h3, h4⟩
    | [], _, _ => exact no_some (α := k.T) h
    | _ :: _ :: _, _, _ => exact no_some (α := k.T) h
    | [_], [], hv => exact hv.elim
    | [_], _ :: _ :: _, hv => exact hv.2.elim
  | k :: k' :: r, x, sas, vs, nm, hpc, νc, done, svs, nm', hpc', hB, h, hv, hro, hbx, hnd, hG, hq => by
    match sas, vs, hv with
    | sa :: sar, v :: vr, hv =>
      rw [mAs_cons] at h
      split at h
      · rename_i a b ha hb
        have h : some (a, b) = some x := h
        injection h with h
        subst h
        rw [hands_cons] at hnd hG
        rw [rdsOf_cons] at hro
        obtain ⟨hnd1, hnd2⟩ := nodup_app hnd
        have hnd3 := nodup_left hnd
        replace hq : (match iA k a nm hpc with
          | (s, n, p) => match iAs (k' :: r) b n p with
            | (s', n', p') => (s :: s', n', p')) = (svs, nm', hpc') := hq
        generalize hq1 : iA k a nm hpc = q at hq
        obtain ⟨s1, n1, p1⟩ := q
        simp only [] at hq
        generalize hq2 : iAs (k' :: r) b n1 p1 = q at hq
        obtain ⟨s2, n2, p2⟩ := q
        simp only [Prod.mk.injEq] at hq
        obtain ⟨rfl, rfl, rfl⟩ := hq
        obtain ⟨νc1, done1, h1, h2, h3, h4, h5⟩ := hB.arg hm (k := k) (x := a) ha hv.1 (fun n hn => hro n (List.mem_append_left _ hn)) (hbx.imp (fun h => (noP_cons h).1) id) hnd3 (fun p hp => hG p (List.mem_append_left _ hp)) hq1
        obtain ⟨νc2, done2, g1, g2, g3, g4⟩ := Beg.args hm (k' :: r) b sar vr n1 p1 νc1 done1 s2 n2 p2 h1 hb hv.2 (fun n hn => hro n (List.mem_append_right _ hn)) (hbx.imp (fun h => (noP_cons h).2) id) hnd1 (fun p hp => ⟨fun hin => by
          rcases h5 p hin with hin | hin
          · exact hnd2 p hin hp
          · exact (hG p (List.mem_append_right _ hp)).1 hin, (hG p (List.mem_append_right _ hp)).2⟩) hq2
        exact ⟨νc2, done2, g1, ⟨h2.mono g3, g2⟩, h3.trans g3, Nat.le_trans h4 g4⟩
      · cases h
    | [], _, _ => exact no_some (α := k.T × AKs (k' :: r)) h
    | _ :: _, [], hv => exact hv.elim
end
end Go.Sx
/- A call's end: what it hands back, and what the boxes that it was handed hold. -/
set_option linter.unusedVariables false
set_option linter.unusedSimpArgs false
namespace Go.Sx
section inv
variable {args : List SV} {old : SC} {hpF hpF' : Hp}
theorem exC_int {k : IntKind} {x : SC} {b : Int} (h : exC args old hpF (.int k) x = some (b, hpF')) : x = .int k b ∧ hpF' = hpF := by
  cases x with
  | int k' n =>
    have h2 : (cnd (keq k k') (some (n, hpF)) none : Option (Int × Hp)) = some (b, hpF') := h
    clear h
    cases hk : keq k k' with
    | false => rw [hk] at h2; exact no_some h2
    | true =>
      rw [hk] at h2
      have := keq_eq hk
      subst this
      have h3 : some (n, hpF) = some (b, hpF') := h2
      injection h3 with h3
      injection h3 with h3 h4
      subst h3 h4
      exact ⟨rfl, rfl⟩
  | _ => exact no_some (α := Int × Hp) h
theorem exC_bool {x : SC} {b : Bool} (h : exC args old hpF .bool x = some (b, hpF')) : ∃ s, x = .bool s ∧ b = s.b ∧ hpF' = hpF := by
  cases x with
  | bool s =>
    have h3 : some (s.b, hpF) = some (b, hpF') := h
    injection h3 with h3
    injection h3 with h3 h4
    exact ⟨s, rfl, h3.symm, h4.symm⟩
  | _ => exact no_some (α := Bool × Hp) h
theorem exC_str {x : SC} {b : ByteArray} (h : exC args old hpF .str x = some (b, hpF')) : x = .str b ∧ hpF' = hpF := by
  cases x with
  | str s =>
    have h3 : some (s, hpF) = some (b, hpF') := h
    injection h3 with h3
    injection h3 with h3 h4
    subst h3 h4
    exact ⟨rfl, rfl⟩
  | _ => exact no_some (α := ByteArray × Hp) h
theorem exC_own {t : Ty} {e : TypeId} {x : SC} {b : List t.T} (h : exC args old hpF (.own t e) x = some (b, hpF')) : (∃ n, x = .sl n ∧ hpF n = .row t b e ∧ hpF' = upd hpF n .dead ∧ n ∉ slA args) ∨ (x = .nils ∧ b = [] ∧ hpF' = hpF) := by
  cases x with
  | sl n =>
    have h2 : (match hpF n with
      | .row t' l e' => match t'.dec t with
        | some ⟨h⟩ => cnd (Nat.beq e e' && !(memN n (slA args))) (some ((h ▸ l : List t.T), upd hpF n .dead)) none
        | none => none
      | _ => none) = some (b, hpF') := h
    clear h
    left
    refine ⟨n, rfl, ?_⟩
    cases hr : hpF n with
    | row t' l e' =>
      rw [hr] at h2
      have h3 : (match t'.dec t with
        | some ⟨h⟩ => cnd (Nat.beq e e' && !(memN n (slA args))) (some ((h ▸ l : List t.T), upd hpF n .dead)) none
        | none => none) = some (b, hpF') := h2
      clear h2
      split at h3
      · rename_i heq _
        subst heq
        cases he : (Nat.beq e e' && !(memN n (slA args))) with
        | false => rw [he] at h3; exact no_some (α := List t'.T × Hp) h3
        | true =>
          rw [he] at h3
          rw [Bool.and_eq_true, Bool.not_eq_true'] at he
          have := Nat.eq_of_beq_eq_true he.1
          subst this
          have h4 : some (l, upd hpF n .dead) = some (b, hpF') := h3
          injection h4 with h4
          injection h4 with h4 h5
          subst h4
          exact ⟨rfl, h5.symm, fun hin => by rw [memN_iff.2 hin] at he; cases he.2⟩
      · exact no_some h3
    | _ => rw [hr] at h2; exact no_some (α := List t.T × Hp) h2
  | nils =>
    have h3 : some (([] : List t.T), hpF) = some (b, hpF') := h
    injection h3 with h3
    injection h3 with h3 h4
    exact .inr ⟨rfl, h3.symm, h4.symm⟩
  | _ => exact no_some (α := List t.T × Hp) h
theorem exC_exr {t : Ty} {e : TypeId} {x : SC} {b : List t.T} (h : exC args old hpF (.exr t e) x = some (b, hpF')) : (∃ n, x = .sl n ∧ (∃ e', hpF n = .row t b e' ∨ hpF n = .ex t b e') ∧ hpF' = upd hpF n .dead ∧ n ∉ slA args) ∨ (x = .nils ∧ b = [] ∧ hpF' = hpF) := by
  cases x with
  | sl n =>
    have h2 : (match hpF n with
      | .row t' l e' => match t'.dec t with
        | some ⟨h⟩ => cnd (!(memN n (slA args))) (some ((h ▸ l : List t.T), upd hpF n .dead)) none
        | none => none
      | .ex t' l e' => match t'.dec t with
        | some ⟨h⟩ => cnd (!(memN n (slA args))) (some ((h ▸ l : List t.T), upd hpF n .dead)) none
        | none => none
      | _ => none) = some (b, hpF') := h
    clear h
    left
    refine ⟨n, rfl, ?_⟩
    cases hr : hpF n with
    | row t' l e' =>
      rw [hr] at h2
      have h3 : (match t'.dec t with
        | some ⟨h⟩ => cnd (!(memN n (slA args))) (some ((h ▸ l : List t.T), upd hpF n .dead)) none
        | none => none) = some (b, hpF') := h2
      clear h2
      split at h3
      · rename_i heq _
        subst heq
        cases he : (!(memN n (slA args))) with
        | false => rw [he] at h3; exact no_some (α := List t'.T × Hp) h3
        | true =>
          rw [he] at h3
          rw [Bool.not_eq_true'] at he
          have h4 : some (l, upd hpF n .dead) = some (b, hpF') := h3
          injection h4 with h4
          injection h4 with h4 h5
          subst h4
          exact ⟨⟨e', .inl rfl⟩, h5.symm, fun hin => by rw [memN_iff.2 hin] at he; cases he⟩
      · exact no_some h3
    | ex t' l e' =>
      rw [hr] at h2
      have h3 : (match t'.dec t with
        | some ⟨h⟩ => cnd (!(memN n (slA args))) (some ((h ▸ l : List t.T), upd hpF n .dead)) none
        | none => none) = some (b, hpF') := h2
      clear h2
      split at h3
      · rename_i heq _
        subst heq
        cases he : (!(memN n (slA args))) with
        | false => rw [he] at h3; exact no_some (α := List t'.T × Hp) h3
        | true =>
          rw [he] at h3
          rw [Bool.not_eq_true'] at he
          have h4 : some (l, upd hpF n .dead) = some (b, hpF') := h3
          injection h4 with h4
          injection h4 with h4 h5
          subst h4
          exact ⟨⟨e', .inr rfl⟩, h5.symm, fun hin => by rw [memN_iff.2 hin] at he; cases he⟩
      · exact no_some h3
    | _ => rw [hr] at h2; exact no_some (α := List t.T × Hp) h2
  | nils =>
    have h3 : some (([] : List t.T), hpF) = some (b, hpF') := h
    injection h3 with h3
    injection h3 with h3 h4
    exact .inr ⟨rfl, h3.symm, h4.symm⟩
  | _ => exact no_some (α := List t.T × Hp) h
theorem exC_nown {t : NT} {e : TypeId} {x : SC} {b : List t.T} (h : exC args old hpF (.nown t e) x = some (b, hpF')) : (∃ n, x = .sl n ∧ (∃ gg, hpF n = .nrow gg t b e) ∧ hpF' = upd hpF n .dead ∧ n ∉ slA args) ∨ (x = .nils ∧ b = [] ∧ hpF' = hpF) := by
  cases x with
  | sl n =>
    have h2 : (match hpF n with
      | .nrow _ t' l e' => match t'.dec t with
        | some ⟨h⟩ => cnd (Nat.beq e e' && !(memN n (slA args))) (some ((h ▸ l : List t.T), upd hpF n .dead)) none
        | none => none
      | _ => none) = some (b, hpF') := h
    clear h
    left
    refine ⟨n, rfl, ?_⟩
    cases hr : hpF n with
    | nrow gg t' l e' =>
      rw [hr] at h2
      have h3 : (match t'.dec t with
        | some ⟨h⟩ => cnd (Nat.beq e e' && !(memN n (slA args))) (some ((h ▸ l : List t.T), upd hpF n .dead)) none
        | none => none) = some (b, hpF') := h2
      clear h2
      split at h3
      · rename_i heq _
        subst heq
        cases he : (Nat.beq e e' && !(memN n (slA args))) with
        | false => rw [he] at h3; exact no_some (α := List t'.T × Hp) h3
        | true =>
          rw [he] at h3
          rw [Bool.and_eq_true, Bool.not_eq_true'] at he
          have := Nat.eq_of_beq_eq_true he.1
          subst this
          have h4 : some (l, upd hpF n .dead) = some (b, hpF') := h3
          injection h4 with h4
          injection h4 with h4 h5
          subst h4
          exact ⟨⟨gg, rfl⟩, h5.symm, fun hin => by rw [memN_iff.2 hin] at he; cases he.2⟩
      · exact no_some h3
    | _ => rw [hr] at h2; exact no_some (α := List t.T × Hp) h2
  | nils =>
    have h3 : some (([] : List t.T), hpF) = some (b, hpF') := h
    injection h3 with h3
    injection h3 with h3 h4
    exact .inr ⟨rfl, h3.symm, h4.symm⟩
  | _ => exact no_some (α := List t.T × Hp) h
theorem sameSl_some {x y : SC} (h : sameSl x y = true) : ∃ q, x = .sl q ∧ y = .sl q := by
  cases x with
  | sl n => cases y with
    | sl m => have := Nat.eq_of_beq_eq_true h; subst this; exact ⟨n, rfl, rfl⟩
    | _ => cases h
  | _ => cases y <;> cases h
theorem exC_al {i j : Nat} {x : SC} {b : Unit} (h : exC args old hpF (.al i j) x = some (b, hpF')) : ∃ q, x = .sl q ∧ cellOf args i j = .sl q ∧ hpF' = hpF := by
  have h2 : (cnd (sameSl x (cellOf args i j)) (some ((), hpF)) none : Option (Unit × Hp)) = some (b, hpF') := by cases x <;> exact h
  clear h
  cases hs : sameSl x (cellOf args i j) with
  | false => rw [hs] at h2; exact no_some h2
  | true =>
    rw [hs] at h2
    have h3 : some ((), hpF) = some (b, hpF') := h2
    injection h3 with h3
    injection h3 with _ h4
    obtain ⟨q, h5, h6⟩ := sameSl_some hs
    exact ⟨q, h5, h6, h4.symm⟩
theorem exC_keep {x : SC} {b : Unit} (h : exC args old hpF .keep x = some (b, hpF')) : ∃ q, x = .sl q ∧ old = .sl q ∧ hpF' = hpF := by
  have h2 : (cnd (sameSl x old) (some ((), hpF)) none : Option (Unit × Hp)) = some (b, hpF') := by cases x <;> exact h
  clear h
  cases hs : sameSl x old with
  | false => rw [hs] at h2; exact no_some h2
  | true =>
    rw [hs] at h2
    have h3 : some ((), hpF) = some (b, hpF') := h2
    injection h3 with h3
    injection h3 with _ h4
    obtain ⟨q, h5, h6⟩ := sameSl_some hs
    exact ⟨q, h5, h6, h4.symm⟩
theorem exCs_one (k : RK) (x : SC) (olds : List SC) : exCs args [k] [x] olds hpF = exC args (olds.headD .any) hpF k x := rfl
theorem exCs_cons (k k' : RK) (r : List RK) (x : SC) (y olds : List SC) : exCs args (k :: k' :: r) (x :: y) olds hpF = ((match exC args (olds.headD .any) hpF k x with
    | some (a, hp) => match exCs args (k' :: r) y olds.tail hp with
      | some (b, hp) => some ((a, b), hp)
      | none => none
    | none => none) : Option ((k.T × RKs (k' :: r)) × Hp)) := rfl
end inv
/-- A heap some of whose names are not to be looked at. -/
def deadOf (rem : List Nat) (hp : Hp) : Hp := fun n => cnd (memN n rem) .dead (hp n)
theorem deadOf_in {rem : List Nat} {hp : Hp} {n : Nat} (h : n ∈ rem) : deadOf rem hp n = .dead := by unfold deadOf; rw [memN_iff.2 h]; rfl
theorem memN_false {n : Nat} {l : List Nat} (h : n ∉ l) : memN n l = false := by
  cases hm : memN n l with
  | false => rfl
  | true => exact absurd (memN_iff.1 hm) h
theorem deadOf_out {rem : List Nat} {hp : Hp} {n : Nat} (h : n ∉ rem) : deadOf rem hp n = hp n := by unfold deadOf; rw [memN_false h]; rfl
theorem deadOf_upd {rem : List Nat} {hp : Hp} {n : Nat} (h : n ∉ rem) (e : Ent) : deadOf rem (upd hp n e) = upd (deadOf rem hp) n e := by
  funext k
  by_cases hk : k ∈ rem
  · have : k ≠ n := fun e => by subst e; exact h hk
    rw [deadOf_in hk, upd_other _ _ this, deadOf_in hk]
  · rw [deadOf_out hk]
    by_cases hkn : k = n
    · subst hkn; rw [upd_same, upd_same]
    · rw [upd_other _ _ hkn, upd_other _ _ hkn, deadOf_out hk]
theorem deadOf_nil (hp : Hp) : deadOf [] hp = hp := by funext k; rw [deadOf_out (by simp)]
theorem deadOf_ext {rem : List Nat} {hp : Hp} {ν : Nat → Value} (h : ∀ p, p ∈ rem → hp p ≠ .free) : Ext hp ν (deadOf rem hp) ν ∧ Ext (deadOf rem hp) ν hp ν := by
  constructor
  · refine ⟨fun n hn => ⟨?_, rfl⟩⟩
    by_cases hk : n ∈ rem
    · rw [deadOf_in hk]; simp
    · rw [deadOf_out hk]; exact hn
  · refine ⟨fun n hn => ⟨?_, rfl⟩⟩
    by_cases hk : n ∈ rem
    · exact h n hk
    · rw [deadOf_out hk] at hn; exact hn
section
variable {base : Nat} {G : GS} {w0 w : World} {hp : Hp} {ν : Nat → Value}
/-- A name that was not looked at is looked at again. -/
theorem Mem.revive (h : Mem base G w0 w hp ν) {p : Nat} (hd : ¬ lvE (hp p)) (hnf : hp p ≠ .free) {e : Ent} (hfree : e ≠ .free) (he : EntRel base (upd hp p e) ν w e (ν p))
    (hsep : ∀ m, lvE (hp m) → ∀ g, blk (ν p) = some g → blk (ν m) ≠ some g) (hmine : ∀ g, blk (ν p) = some g → base ≤ g ∨ G g) (hnst : ∃ B, NestOK base G w (upd hp p e) ν B) : Mem base G w0 w (upd hp p e) ν := by
  have hext : Ext hp ν (upd hp p e) ν := ⟨fun n hn => ⟨by
    by_cases hq : n = p
    · subst hq; rw [upd_same]; exact hfree
    · rw [upd_other _ _ hq]; exact hn, rfl⟩⟩
  refine ⟨fun n => ?_, fun n m hne hwn hlm g hg => ?_, fun n hwn g hg => ?_, h.fr, hnst⟩
  · by_cases hnm : n = p
    · subst hnm; rw [upd_same]; exact he
    · rw [upd_other _ _ hnm]; exact (h.ent n).mono hext
  · by_cases hnn : n = p
    · subst hnn
      have hm : m ≠ n := fun e => hne e.symm
      rw [upd_other _ _ hm] at hlm
      exact hsep m hlm g hg
    · rw [upd_other _ _ hnn] at hwn
      by_cases hmm : m = p
      · subst hmm
        intro hc
        exact hsep n hwn.lv g hc hg
      · rw [upd_other _ _ hmm] at hlm
        exact h.sep n m hne hwn hlm g hg
  · by_cases hnn : n = p
    · subst hnn; exact hmine g hg
    · rw [upd_other _ _ hnn] at hwn
      exact h.mine n hwn g hg
theorem own_base_mono0 {B B' : Nat} (hB : B ≤ B') {e : TypeId} {size n : Nat} {v : Value} {xs : List Value} (h : w.ownsRow B' e size v n xs) : w.ownsRow B e size v n xs := by
  refine ⟨h.1, ?_⟩
  rcases h.2 with h2 | ⟨g, cap, cur, h1, h2, h3⟩
  · exact .inl h2
  · exact .inr ⟨g, cap, cur, h1, Nat.le_trans hB h2, h3⟩
end
/-- The two sides of a call that ends: the caller's names, the callee's. -/
structure Fin where
  base : Nat
  G : GS
  w0 : World
  w : World
  wF : World
  hp : Hp
  ν : Nat → Value
  νF : Nat → Value
  ν0 : Nat → Value
  ps : List Nat
  top : Nat
  qs : List Nat
  B : Nat → Prop
  Bc : Nat → Prop
  rs : List Nat
  hs : List Nat
/-- The blocks that nobody writes any more, behind the call. -/
def Fin.B' (F : Fin) : Nat → Prop := fun b => F.B b ∨ ((F.w.heap.size ≤ b ∨ G0 F.ν F.rs b) ∧ F.Bc b)
structure FinOK (F : Fin) : Prop where
  mem : Mem F.base F.G F.w0 F.w F.hp F.ν
  box : ∀ p, p ∈ F.ps → wrE (F.hp p)
  pair : ∀ p, p ∈ F.ps → ∃ q, q ∈ F.qs ∧ F.νF q = F.ν p
  nb : NestOK F.base F.G F.w F.hp F.ν F.B
  rel : ∀ r, r ∈ F.rs → ∀ g, blk (F.ν r) = some g → (∀ m, lvE (F.hp m) → blk (F.ν m) ≠ some g) ∧ (F.base ≤ g ∨ F.G g) ∧ g < F.w.heap.size ∧ ¬ F.B g
  split : ∀ p, p ∈ F.hs → p ∈ F.ps ∨ p ∈ F.rs
def Fin.G' (F : Fin) : GS := ⟨G0 F.ν F.hs, F.B⟩
/-- Where the handing back stands. -/
structure EndI (F : Fin) (rem remC : List Nat) (nm : Nat) (hpc : Hp) (νc : Nat → Value) (hpF : Hp) : Prop where
  mem : Mem F.base F.G F.w0 F.wF (deadOf rem hpc) νc
  ext : Ext F.hp F.ν hpc νc
  old : ∀ p, p ∈ rem → hpc p = F.hp p
  sub : ∀ p, p ∈ rem → p ∈ F.ps
  free : ∀ n, nm ≤ n → n < F.top → hpc n = .free
  memF : Mem F.w.heap.size F.G' F.w F.wF hpF F.νF
  cross : ∀ q, wrE (hpF q) → ∀ g, blk (F.νF q) = some g → ¬ G0 F.ν F.ps g → ∀ m, lvE (deadOf rem hpc m) → blk (νc m) ≠ some g
  sepR : ∀ p, p ∈ rem → ∀ m, lvE (deadOf rem hpc m) → ∀ g, blk (F.ν p) = some g → blk (νc m) ≠ some g
  boxF : ∀ p, p ∈ remC → boxE (hpF p) ∨ p ∈ F.qs
  allF : ∀ p, p ∈ F.qs → wrE (hpF p)
  nst : NestOK F.base F.G F.wF (deadOf rem hpc) νc F.B'
  nstF : NestOK F.w.heap.size F.G' F.wF hpF F.νF F.Bc
section
variable {F : Fin} {rem remC : List Nat} {nm : Nat} {hpc : Hp} {νc : Nat → Value} {hpF : Hp}
theorem FinOK.small (hF : FinOK F) {g : Nat} (h : F.G' g) : g < F.w.heap.size := by
  obtain ⟨p, hp, hg⟩ := h
  rcases hF.split p hp with hp | hp
  · exact blk_lt (hF.mem.ent p) (hF.box p hp).lv g hg
  · exact (hF.rel p hp g hg).2.2.1
theorem FinOK.small0 (hF : FinOK F) {g : Nat} (h : G0 F.ν F.ps g) : g < F.w.heap.size := by
  obtain ⟨p, hp, hg⟩ := h
  exact blk_lt (hF.mem.ent p) (hF.box p hp).lv g hg
theorem FinOK.own (hF : FinOK F) {g : Nat} (h : F.w.heap.size ≤ g ∨ G0 F.ν F.rs g) : F.base ≤ g ∨ F.G g := by
  rcases h with h | ⟨r, hr, hg⟩
  · have := hF.mem.fr.bs
    exact .inl (by omega)
  · exact (hF.rel r hr g hg).2.1
theorem FinOK.notB (hF : FinOK F) {p : Nat} (hp : p ∈ F.ps) {g : Nat} (hg : blk (F.ν p) = some g) : ¬ F.B' g := by
  rintro (h | ⟨h | ⟨r, hr, hrg⟩, _⟩)
  · exact hF.nb.sep p (hF.box p hp) g hg h
  · have := hF.small0 ⟨p, hp, hg⟩
    omega
  · exact (hF.rel r hr g hrg).1 p (hF.box p hp).lv hg
theorem EndI.notrem (hE : EndI F rem remC nm hpc νc hpF) (hF : FinOK F) {s : Nat} (hs : hpc s = .free) : s ∉ rem := fun h => by
  have h1 := hE.old s h
  have h2 := hF.box s (hE.sub s h)
  rw [← h1, hs] at h2
  exact h2
/-- Something is handed back: it lies in a block that no live name of the caller's has. -/
theorem EndI.install (hE : EndI F rem remC nm hpc νc hpF) (hF : FinOK F) {s nm' : Nat} (hs : hpc s = .free) (hnm : nm ≤ nm') (hsn : s < nm') {e : Ent} {v : Value} (hfree : e ≠ .free) {hpF' : Hp}
    (he : EntRel F.base (upd (deadOf rem hpc) s e) (upd νc s v) F.wF e v)
    (hb : ∀ g, blk v = some g → ¬ G0 F.ν F.ps g ∧ (F.base ≤ g ∨ F.G g) ∧ (∀ m, lvE (deadOf rem hpc m) → blk (νc m) ≠ some g) ∧ (∀ q, wrE (hpF' q) → blk (F.νF q) ≠ some g))
    (hrel : NestRel F.base F.G F.wF F.B' (upd (deadOf rem hpc) s e) (upd νc s v) s e) (hbB : ∀ g, blk v = some g → ¬ F.B' g) (hnF : NestOK F.w.heap.size F.G' F.wF hpF' F.νF F.Bc)
    (hmF : Mem F.w.heap.size F.G' F.w F.wF hpF' F.νF) (hsub : ∀ q, wrE (hpF' q) → wrE (hpF q)) (hboxF : ∀ p, p ∈ remC → boxE (hpF' p) ∨ p ∈ F.qs) (hallF : ∀ p, p ∈ F.qs → wrE (hpF' p)) :
    EndI F rem remC nm' (upd hpc s e) (upd νc s v) hpF' ∧ Ext hpc νc (upd hpc s e) (upd νc s v) := by
  have hnr := hE.notrem hF hs
  have hext := Ext.new (ν := νc) hs e v
  have hd : deadOf rem hpc s = .free := by rw [deadOf_out hnr]; exact hs
  have hns := hE.nst.addG hd hrel (fun _ g hg => hbB g hg)
  refine ⟨⟨?_, hE.ext.trans hext, fun p hp => ?_, hE.sub, fun n h1 h2 => ?_, hmF, fun q hq g hg hG m hm => ?_, fun p hp m hm g hg => ?_, hboxF, hallF, by rw [deadOf_upd hnr]; exact hns, hnF⟩, hext⟩
  · rw [deadOf_upd hnr]
    exact hE.mem.add hd he hfree (fun m hm _ g hg hc => (hb g hg).2.2.1 m hm hc) (fun _ g hg => (hb g hg).2.1) ⟨_, hns⟩
  · have : p ≠ s := fun e => by subst e; exact hnr hp
    rw [upd_other _ _ this]; exact hE.old p hp
  · rw [upd_other _ _ (by omega)]; exact hE.free n (by omega) h2
  · rw [deadOf_upd hnr] at hm
    by_cases hms : m = s
    · subst hms
      rw [upd_same]
      intro hc
      exact (hb g hc).2.2.2 q hq hg
    · rw [upd_other _ _ hms] at hm ⊢
      exact hE.cross q (hsub q hq) g hg hG m hm
  · rw [deadOf_upd hnr] at hm
    by_cases hms : m = s
    · subst hms
      rw [upd_same]
      intro hc
      exact (hb g hc).1 ⟨p, hE.sub p hp, hg⟩
    · rw [upd_other _ _ hms] at hm ⊢
      exact hE.sepR p hp m hm g hg
/-- A block of the callee's that is none of those handed. -/
theorem EndI.fresh (hE : EndI F rem remC nm hpc νc hpF) (hF : FinOK F) {n : Nat} (hw : wrE (hpF n)) (hn : n ∉ F.qs) {g : Nat} (hg : blk (F.νF n) = some g) : ¬ G0 F.ν F.ps g ∧ (F.w.heap.size ≤ g ∨ G0 F.ν F.rs g) := by
  have hG : ¬ G0 F.ν F.ps g := by
    rintro ⟨p, hp, hpg⟩
    obtain ⟨q, hq, hqe⟩ := hF.pair p hp
    rw [← hqe] at hpg
    exact hE.memF.sep n q (fun e => by subst e; exact hn hq) hw (hE.allF q hq).lv g hg hpg
  refine ⟨hG, ?_⟩
  rcases hE.memF.mine n hw g hg with h5 | h5
  · exact .inl h5
  · obtain ⟨p, hp, hpg⟩ := h5
    rcases hF.split p hp with hp | hp
    · exact absurd ⟨p, hp, hpg⟩ hG
    · exact .inr ⟨p, hp, hpg⟩
theorem EndI.notB (hE : EndI F rem remC nm hpc νc hpF) (hF : FinOK F) {n : Nat} (hw : wrE (hpF n)) (hn : n ∉ F.qs) {g : Nat} (hg : blk (F.νF n) = some g) : ¬ F.B' g := by
  have h1 := (hE.fresh hF hw hn hg).2
  rintro (h | ⟨_, h⟩)
  · rcases h1 with h1 | ⟨r, hr, hrg⟩
    · have := hF.nb.lt g h
      omega
    · exact (hF.rel r hr g hrg).2.2.2 h
  · exact hE.nstF.sep n hw g hg h
/-- One cell is handed back. -/
theorem EndI.cell (hE : EndI F rem remC nm hpc νc hpF) (hF : FinOK F) {argsC args : List SV} (hqs : ∀ q, q ∈ F.qs → q ∈ slA argsC) {oldC old : SC} {k : RK} {x : SC} {b : k.T} {hpF' : Hp} {v : Value} {sc : SC} {nm' : Nat} {hpc' : Hp}
    (h : exC argsC oldC hpF k x = some (b, hpF')) (hv : CRel hpF F.νF x v) (hq : inC args old nm hpc k b = (sc, nm', hpc')) (htop : nm + RK.news [k] ≤ F.top)
    (hal : ∀ i j q, cellOf argsC i j = .sl q → CRel F.hp F.ν (cellOf args i j) (F.νF q)) (hold : ∀ q, oldC = .sl q → CRel F.hp F.ν old (F.νF q)) :
    ∃ νc', EndI F rem remC nm' hpc' νc' hpF' ∧ CRel hpc' νc' sc v ∧ Ext hpc νc hpc' νc' ∧ Ext hpF F.νF hpF' F.νF ∧ nm' = nm + RK.news [k] ∧ (∀ n, n < nm → hpc n ≠ .free → hpc' n ≠ .free) ∧ (∀ n, n < nm → hpc' n = hpc n) := by
  cases k with
  | int k =>
    obtain ⟨rfl, rfl⟩ := exC_int h
    have hq : (SC.int k b, nm, hpc) = (sc, nm', hpc') := hq
    simp only [Prod.mk.injEq] at hq
    obtain ⟨rfl, rfl, rfl⟩ := hq
    exact ⟨νc, hE, hv, .refl _ _, .refl _ _, rfl, fun _ _ h => h, fun _ _ => rfl⟩
  | bool =>
    obtain ⟨s, rfl, hb, rfl⟩ := exC_bool h
    have hq : (SC.bool (.v b), nm, hpc) = (sc, nm', hpc') := hq
    simp only [Prod.mk.injEq] at hq
    obtain ⟨rfl, rfl, rfl⟩ := hq
    have hvv : v = .bool s.b := hv
    exact ⟨νc, hE, by rw [hvv, ← hb]; rfl, .refl _ _, .refl _ _, rfl, fun _ _ h => h, fun _ _ => rfl⟩
  | str =>
    obtain ⟨rfl, rfl⟩ := exC_str h
    have hq : (SC.str b, nm, hpc) = (sc, nm', hpc') := hq
    simp only [Prod.mk.injEq] at hq
    obtain ⟨rfl, rfl, rfl⟩ := hq
    exact ⟨νc, hE, hv, .refl _ _, .refl _ _, rfl, fun _ _ h => h, fun _ _ => rfl⟩
  | al i j =>
    obtain ⟨q, rfl, hc, rfl⟩ := exC_al h
    have hq : (cellOf args i j, nm, hpc) = (sc, nm', hpc') := hq
    simp only [Prod.mk.injEq] at hq
    obtain ⟨rfl, rfl, rfl⟩ := hq
    obtain ⟨_, hvv, _⟩ := hv
    exact ⟨νc, hE, by rw [hvv]; exact (hal i j q hc).mono hE.ext, .refl _ _, .refl _ _, rfl, fun _ _ h => h, fun _ _ => rfl⟩
  | keep =>
    obtain ⟨q, rfl, hc, rfl⟩ := exC_keep h
    have hq : (old, nm, hpc) = (sc, nm', hpc') := hq
    simp only [Prod.mk.injEq] at hq
    obtain ⟨rfl, rfl, rfl⟩ := hq
    obtain ⟨_, hvv, _⟩ := hv
    exact ⟨νc, hE, by rw [hvv]; exact (hold q hc).mono hE.ext, .refl _ _, .refl _ _, rfl, fun _ _ h => h, fun _ _ => rfl⟩
  | own t e =>
    have hq : (SC.sl nm, nm + 1, upd hpc nm (.row t b e)) = (sc, nm', hpc') := hq
    simp only [Prod.mk.injEq] at hq
    obtain ⟨rfl, rfl, rfl⟩ := hq
    have htop' : nm + 1 ≤ F.top := htop
    have hs : hpc nm = .free := hE.free nm (Nat.le_refl _) (by omega)
    rcases exC_own h with ⟨n, rfl, hrow, rfl, hnq⟩ | ⟨rfl, rfl, rfl⟩
    · obtain ⟨hnf, hvv, hsl⟩ := hv
      have hent := hE.memF.ent n
      rw [hrow] at hent
      have hown : F.wF.ownsRow 0 e t.size (F.νF n) b.length (t.flat b) := hent
      have hbase : F.base ≤ F.w.heap.size := hF.mem.fr.bs
      have hwn : wrE (hpF n) := by rw [hrow]; trivial
      have hnq' : n ∉ F.qs := fun hin => hnq (hqs n hin)
      have hblk : ∀ g, blk (F.νF n) = some g → ¬ G0 F.ν F.ps g ∧ (F.w.heap.size ≤ g ∨ G0 F.ν F.rs g) := fun g hg => hE.fresh hF hwn hnq' hg
      have hI := hE.install hF (s := nm) (nm' := nm + 1) hs (by omega) (by omega) (e := .row t b e) (v := F.νF n) (by simp) (hpF' := upd hpF n .dead)
        hown (fun g hg => by
          have hG : ¬ G0 F.ν F.ps g := (hblk g hg).1
          refine ⟨hG, hF.own (hblk g hg).2, fun m hm => hE.cross n hwn g hg hG m hm, fun q hq hc => ?_⟩
          have hqn : q ≠ n := fun e => by subst e; rw [upd_same] at hq; exact hq
          rw [upd_other _ _ hqn] at hq
          exact hE.memF.sep n q (fun e => hqn e.symm) hwn hq.lv g hg hc) trivial (fun g hg => hE.notB hF hwn hnq' hg) (hE.nstF.turn (by simp) trivial (fun q => q.elim)) (hE.memF.kill n) (fun q hq => by
          have hqn : q ≠ n := fun e => by subst e; rw [upd_same] at hq; exact hq
          rw [upd_other _ _ hqn] at hq
          exact hq) (fun p hp => by
          have hpn : p ≠ n := fun e => by
            subst e
            rcases hE.boxF p hp with h1 | h1
            · rw [hrow] at h1; exact h1
            · exact hnq' h1
          rw [upd_other _ _ hpn]
          exact hE.boxF p hp) (fun p hp => by
          have hpn : p ≠ n := fun e => by subst e; exact hnq' hp
          rw [upd_other _ _ hpn]
          exact hE.allF p hp)
      refine ⟨_, hI.1, ⟨by rw [upd_same]; simp, by rw [upd_same]; exact hvv, hsl⟩, hI.2, Ext.kill _ _ _, rfl, fun m hm hmf => ?_, fun m hm => upd_other _ _ (by omega)⟩
      rw [upd_other _ _ (by omega)]; exact hmf
    · have hvv : v = .slice none 0 0 := hv
      have hI := hE.install hF (s := nm) (nm' := nm + 1) hs (by omega) (by omega) (e := .row t [] e) (v := .slice none 0 0) (by simp) (hpF' := hpF')
        ⟨by simp [Ty.flat], .inl ⟨rfl, rfl⟩⟩ (fun g hg => by cases hg) trivial (fun g hg => by cases hg) hE.nstF hE.memF (fun q hq => hq) hE.boxF hE.allF
      refine ⟨_, hI.1, ⟨by rw [upd_same]; simp, by rw [upd_same]; exact hvv, none, 0, 0, hvv⟩, hI.2, .refl _ _, rfl, fun m hm hmf => ?_, fun m hm => upd_other _ _ (by omega)⟩
      rw [upd_other _ _ (by omega)]; exact hmf
  | nown t e =>
    have hq : (SC.sl nm, nm + 1, upd hpc nm (.nrow false t b e)) = (sc, nm', hpc') := hq
    simp only [Prod.mk.injEq] at hq
    obtain ⟨rfl, rfl, rfl⟩ := hq
    have htop' : nm + 1 ≤ F.top := htop
    have hs : hpc nm = .free := hE.free nm (Nat.le_refl _) (by omega)
    rcases exC_nown h with ⟨n, rfl, ⟨gg, hrow⟩, rfl, hnq⟩ | ⟨rfl, rfl, rfl⟩
    · obtain ⟨hnf, hvv, hsl⟩ := hv
      have hent := hE.memF.ent n
      rw [hrow] at hent
      have hown : ∃ fl, F.wF.ownsRow 0 e t.size (F.νF n) (List.length b) fl := hent
      have hrel := hE.nstF.rel n
      rw [hrow] at hrel
      obtain ⟨fl, hfl, hnf2, _⟩ := hrel
      have hbase : F.base ≤ F.w.heap.size := hF.mem.fr.bs
      have hwn : wrE (hpF n) := by rw [hrow]; trivial
      have hnq' : n ∉ F.qs := fun hin => hnq (hqs n hin)
      have hblk : ∀ g, blk (F.νF n) = some g → ¬ G0 F.ν F.ps g ∧ (F.w.heap.size ≤ g ∨ G0 F.ν F.rs g) := fun g hg => hE.fresh hF hwn hnq' hg
      have hI := hE.install hF (s := nm) (nm' := nm + 1) hs (by omega) (by omega) (e := .nrow false t b e) (v := F.νF n) (by simp) (hpF' := upd hpF n .dead)
        hown (fun g hg => by
          have hG : ¬ G0 F.ν F.ps g := (hblk g hg).1
          refine ⟨hG, hF.own (hblk g hg).2, fun m hm => hE.cross n hwn g hg hG m hm, fun q hq hc => ?_⟩
          have hqn : q ≠ n := fun e => by subst e; rw [upd_same] at hq; exact hq
          rw [upd_other _ _ hqn] at hq
          exact hE.memF.sep n q (fun e => hqn e.symm) hwn hq.lv g hg hc) ⟨fl, by rw [upd_same]; exact hfl, hnf2.mono (fun b hb => by
          by_cases h1 : F.w.heap.size ≤ b
          · exact .inr ⟨.inl h1, hb⟩
          · rcases hE.nstF.old b hb (by omega) with h2 | ⟨p, hp, hpg⟩
            · exact .inl h2
            · rcases hF.split p hp with hp | hp
              · obtain ⟨q, hq, hqe⟩ := hF.pair p hp
                rw [← hqe] at hpg
                exact absurd hb (hE.nstF.sep q (hE.allF q hq) b hpg)
              · exact .inr ⟨.inr ⟨p, hp, hpg⟩, hb⟩), fun q => by cases q⟩ (fun g hg => hE.notB hF hwn hnq' hg) (hE.nstF.turn (by simp) trivial (fun q => q.elim)) (hE.memF.kill n) (fun q hq => by
          have hqn : q ≠ n := fun e => by subst e; rw [upd_same] at hq; exact hq
          rw [upd_other _ _ hqn] at hq
          exact hq) (fun p hp => by
          have hpn : p ≠ n := fun e => by
            subst e
            rcases hE.boxF p hp with h1 | h1
            · rw [hrow] at h1; exact h1
            · exact hnq' h1
          rw [upd_other _ _ hpn]
          exact hE.boxF p hp) (fun p hp => by
          have hpn : p ≠ n := fun e => by subst e; exact hnq' hp
          rw [upd_other _ _ hpn]
          exact hE.allF p hp)
      refine ⟨_, hI.1, ⟨by rw [upd_same]; simp, by rw [upd_same]; exact hvv, hsl⟩, hI.2, Ext.kill _ _ _, rfl, fun m hm hmf => ?_, fun m hm => upd_other _ _ (by omega)⟩
      rw [upd_other _ _ (by omega)]; exact hmf
    · have hvv : v = .slice none 0 0 := hv
      have hI := hE.install hF (s := nm) (nm' := nm + 1) hs (by omega) (by omega) (e := .nrow false t [] e) (v := .slice none 0 0) (by simp) (hpF' := hpF')
        ⟨[], by simp, .inl ⟨rfl, rfl⟩⟩ (fun g hg => by cases hg) ⟨[], ⟨by simp, .inl ⟨by rw [upd_same], rfl⟩⟩, rfl, fun q => by cases q⟩ (fun g hg => by cases hg) hE.nstF hE.memF (fun q hq => hq) hE.boxF hE.allF
      refine ⟨_, hI.1, ⟨by rw [upd_same]; simp, by rw [upd_same]; exact hvv, none, 0, 0, hvv⟩, hI.2, .refl _ _, rfl, fun m hm hmf => ?_, fun m hm => upd_other _ _ (by omega)⟩
      rw [upd_other _ _ (by omega)]; exact hmf
  | exr t e =>
    have hq : (SC.sl nm, nm + 1, upd hpc nm (.ex t b e)) = (sc, nm', hpc') := hq
    simp only [Prod.mk.injEq] at hq
    obtain ⟨rfl, rfl, rfl⟩ := hq
    have htop' : nm + 1 ≤ F.top := htop
    have hs : hpc nm = .free := hE.free nm (Nat.le_refl _) (by omega)
    rcases exC_exr h with ⟨n, rfl, ⟨e', hrow⟩, rfl, hnq⟩ | ⟨rfl, rfl, rfl⟩
    · obtain ⟨hnf, hvv, hsl⟩ := hv
      have hent := hE.memF.ent n
      have hown : EntRel F.base (fun _ => .free) F.νF F.wF (.ex t b e) (F.νF n) := by
        rcases hrow with hrow | hrow
        · rw [hrow] at hent
          have hent : F.wF.ownsRow 0 e' t.size (F.νF n) b.length (t.flat b) := hent
          rcases hent.2 with ⟨h1, h2⟩ | ⟨g, cap, cur, h1, hbg, hheap, hnc, hcm, hcs, htake⟩
          · exact .inl ⟨h1, List.length_eq_zero_iff.1 h2⟩
          · refine .inr ⟨g, 0, cap, cur, e', (0, 0), h1, hnc, by omega, hheap, ?_, .inl (Nat.le_refl _), fun j u hu => ?_⟩
            · rw [hcs, Nat.zero_add]
              exact Nat.mul_le_mul_right _ hnc
            · rw [Nat.zero_add]
              rw [← htake, List.getElem?_take] at hu
              split at hu
              · simpa using hu
              · cases hu
        · rw [hrow] at hent
          exact hent
      have hbase : F.base ≤ F.w.heap.size := hF.mem.fr.bs
      have hwn : wrE (hpF n) := by rcases hrow with hrow | hrow <;> (rw [hrow]; trivial)
      have hnq' : n ∉ F.qs := fun hin => hnq (hqs n hin)
      have hblk : ∀ g, blk (F.νF n) = some g → ¬ G0 F.ν F.ps g ∧ (F.w.heap.size ≤ g ∨ G0 F.ν F.rs g) := fun g hg => hE.fresh hF hwn hnq' hg
      have hI := hE.install hF (s := nm) (nm' := nm + 1) hs (by omega) (by omega) (e := .ex t b e) (v := F.νF n) (by simp) (hpF' := upd hpF n .dead)
        hown (fun g hg => by
          have hG : ¬ G0 F.ν F.ps g := (hblk g hg).1
          refine ⟨hG, hF.own (hblk g hg).2, fun m hm => hE.cross n hwn g hg hG m hm, fun q hq hc => ?_⟩
          have hqn : q ≠ n := fun e => by subst e; rw [upd_same] at hq; exact hq
          rw [upd_other _ _ hqn] at hq
          exact hE.memF.sep n q (fun e => hqn e.symm) hwn hq.lv g hg hc) trivial (fun g hg => hE.notB hF hwn hnq' hg) (hE.nstF.turn (by simp) trivial (fun q => q.elim)) (hE.memF.kill n) (fun q hq => by
          have hqn : q ≠ n := fun e => by subst e; rw [upd_same] at hq; exact hq
          rw [upd_other _ _ hqn] at hq
          exact hq) (fun p hp => by
          have hpn : p ≠ n := fun e => by
            subst e
            rcases hE.boxF p hp with h1 | h1
            · rcases hrow with hrow | hrow <;> (rw [hrow] at h1; exact h1)
            · exact hnq' h1
          rw [upd_other _ _ hpn]
          exact hE.boxF p hp) (fun p hp => by
          have hpn : p ≠ n := fun e => by subst e; exact hnq' hp
          rw [upd_other _ _ hpn]
          exact hE.allF p hp)
      refine ⟨_, hI.1, ⟨by rw [upd_same]; simp, by rw [upd_same]; exact hvv, hsl⟩, hI.2, Ext.kill _ _ _, rfl, fun m hm hmf => ?_, fun m hm => upd_other _ _ (by omega)⟩
      rw [upd_other _ _ (by omega)]; exact hmf
    · have hvv : v = .slice none 0 0 := hv
      have hI := hE.install hF (s := nm) (nm' := nm + 1) hs (by omega) (by omega) (e := .ex t [] e) (v := .slice none 0 0) (by simp) (hpF' := hpF')
        (.inl ⟨rfl, rfl⟩) (fun g hg => by cases hg) trivial (fun g hg => by cases hg) hE.nstF hE.memF (fun q hq => hq) hE.boxF hE.allF
      refine ⟨_, hI.1, ⟨by rw [upd_same]; simp, by rw [upd_same]; exact hvv, none, 0, 0, hvv⟩, hI.2, .refl _ _, rfl, fun m hm hmf => ?_, fun m hm => upd_other _ _ (by omega)⟩
      rw [upd_other _ _ (by omega)]; exact hmf
end
end Go.Sx
/- From a function's walk to its contract. -/
set_option linter.unusedVariables false
set_option linter.unusedSimpArgs false
namespace Go.Sx
theorem inCs_one (args : List SV) (k : RK) (x : k.T) (old : List SC) (nm : Nat) (hp : Hp) : inCs args [k] x old nm hp = (match inC args (old.headD .any) nm hp k x with
    | (a, nm, hp) => ([a], nm, hp)) := rfl
theorem inCs_cons (args : List SV) (k k' : RK) (r : List RK) (x : k.T × RKs (k' :: r)) (old : List SC) (nm : Nat) (hp : Hp) : inCs args (k :: k' :: r) x old nm hp = (match inC args (old.headD .any) nm hp k x.1 with
    | (a, nm, hp) => match inCs args (k' :: r) x.2 old.tail nm hp with
      | (b, nm, hp) => (a :: b, nm, hp)) := rfl
theorem news_cons (k : RK) (r : List RK) : RK.news (k :: r) = RK.news [k] + RK.news r := by
  cases k <;> simp [RK.news] <;> omega
section
variable {F : Fin} {rem remC : List Nat}
/-- What is kept of a box: the same slices. -/
def OldRel (F : Fin) (olds0 olds : List SC) : Prop := ∀ j q, olds0[j]? = some (.sl q) → CRel F.hp F.ν (olds.getD j .any) (F.νF q)
theorem OldRel.head {a b : List SC} (h : OldRel F a b) : ∀ q, a.headD .any = .sl q → CRel F.hp F.ν (b.headD .any) (F.νF q) := by
  intro q hq
  cases a with
  | nil => cases hq
  | cons x xs =>
    have hq : x = .sl q := hq
    have := h 0 q (by rw [hq]; rfl)
    cases b <;> exact this
theorem OldRel.tail {a b : List SC} (h : OldRel F a b) : OldRel F a.tail b.tail := by
  intro j q hq
  cases a with
  | nil => simp at hq
  | cons x xs =>
    have := h (j + 1) q (by simpa using hq)
    cases b <;> simpa using this
theorem OldRel.nil (b : List SC) : OldRel F [] b := fun j q h => by simp at h
theorem EndI.cells (hF : FinOK F) {argsC args : List SV} (hqs : ∀ q, q ∈ F.qs → q ∈ slA argsC) (hal : ∀ i j q, cellOf argsC i j = .sl q → CRel F.hp F.ν (cellOf args i j) (F.νF q)) :
    ∀ (ks : List RK) (b : RKs ks) (xs : List SC) (vs : List Value) (oldsC olds : List SC) (nm : Nat) (hpc : Hp) (νc : Nat → Value) (hpF hpF' : Hp) (scs : List SC) (nm' : Nat) (hpc' : Hp), EndI F rem remC nm hpc νc hpF → exCs argsC ks xs oldsC hpF = some (b, hpF') → CsRel hpF F.νF xs vs →
      inCs args ks b olds nm hpc = (scs, nm', hpc') → nm + RK.news ks ≤ F.top → OldRel F oldsC olds →
      ∃ νc', EndI F rem remC nm' hpc' νc' hpF' ∧ CsRel hpc' νc' scs vs ∧ Ext hpc νc hpc' νc' ∧ Ext hpF F.νF hpF' F.νF ∧ nm' = nm + RK.news ks ∧ (∀ n, n < nm → hpc' n = hpc n)
  | [], b, xs, vs, oldsC, olds, nm, hpc, νc, hpF, hpF', scs, nm', hpc', hE, h, hv, hq, htop, ho => by
    have hq : (([] : List SC), nm, hpc) = (scs, nm', hpc') := hq
    simp only [Prod.mk.injEq] at hq
    obtain ⟨rfl, rfl, rfl⟩ := hq
    match xs, vs, hv with
    | [], [], _ =>
      have h : some ((), hpF) = some (b, hpF') := h
      injection h with h
      injection h with _ h
      subst h
      exact ⟨νc, hE, trivial, .refl _ _, .refl _ _, rfl, fun _ _ => rfl⟩
    | _ :: _, _, _ => exact no_some (α := Unit × Hp) h
  | [k], b, xs, vs, oldsC, olds, nm, hpc, νc, hpF, hpF', scs, nm', hpc', hE, h, hv, hq, htop, ho => by
    match xs, vs, hv with
    | [x], [v], hv =>
      replace hq := (inCs_one args k b olds nm hpc).symm.trans hq
      generalize hq1 : inC args (olds.headD .any) nm hpc k b = q at hq
      obtain ⟨a1, n1, p1⟩ := q
      simp only [Prod.mk.injEq] at hq
      obtain ⟨rfl, rfl, rfl⟩ := hq
      obtain ⟨νc', h1, h2, h3, h4, h5, h6, h7⟩ := hE.cell hF hqs (k := k) (b := b) h hv.1 hq1 htop hal ho.head
      exact ⟨νc', h1, ⟨h2, trivial⟩, h3, h4, h5, h7⟩
    | [], _, _ => exact no_some (α := k.T × Hp) h
    | _ :: _ :: _, _, _ => exact no_some (α := k.T × Hp) h
    | [_], [], hv => exact hv.elim
    | [_], _ :: _ :: _, hv => exact hv.2.elim
  | k :: k' :: r, b, xs, vs, oldsC, olds, nm, hpc, νc, hpF, hpF', scs, nm', hpc', hE, h, hv, hq, htop, ho => by
    match xs, vs, hv with
    | x :: xr, v :: vr, hv =>
      replace h : ((match exC argsC (oldsC.headD .any) hpF k x with
        | some (a, hp) => match exCs argsC (k' :: r) xr oldsC.tail hp with
          | some (b, hp) => some ((a, b), hp)
          | none => none
        | none => none) : Option ((k.T × RKs (k' :: r)) × Hp)) = some (b, hpF') := h
      split at h
      · rename_i a1 hpF1 ha
        split at h
        · rename_i b1 hpF2 hb
          have h : some ((a1, b1), hpF2) = some (b, hpF') := h
          injection h with h
          injection h with h h'
          subst h h'
          replace hq : (match inC args (olds.headD .any) nm hpc k a1 with
            | (a, nm, hp) => match inCs args (k' :: r) b1 olds.tail nm hp with
              | (b, nm, hp) => (a :: b, nm, hp)) = (scs, nm', hpc') := hq
          generalize hq1 : inC args (olds.headD .any) nm hpc k a1 = q at hq
          obtain ⟨s1, n1, p1⟩ := q
          simp only [] at hq
          generalize hq2 : inCs args (k' :: r) b1 olds.tail n1 p1 = q at hq
          obtain ⟨s2, n2, p2⟩ := q
          simp only [Prod.mk.injEq] at hq
          obtain ⟨rfl, rfl, rfl⟩ := hq
          rw [news_cons] at htop ⊢
          obtain ⟨νc1, h1, h2, h3, h4, h5, h6, h7⟩ := hE.cell hF hqs (k := k) (b := a1) ha hv.1 hq1 (by omega) hal ho.head
          obtain ⟨νc2, g1, g2, g3, g4, g5, g7⟩ := EndI.cells hF hqs hal (k' :: r) b1 xr vr oldsC.tail olds.tail n1 p1 νc1 hpF1 hpF2 s2 n2 p2 h1 hb (hv.2.mono h4) hq2 (by omega) ho.tail
          exact ⟨νc2, g1, ⟨h2.mono g3, g2⟩, h3.trans g3, h4.trans g4, by omega, fun n hn => (g7 n (by omega)).trans (h7 n hn)⟩
        · exact no_some (α := (k.T × RKs (k' :: r)) × Hp) h
      · exact no_some (α := (k.T × RKs (k' :: r)) × Hp) h
    | [], _, _ => exact no_some (α := (k.T × RKs (k' :: r)) × Hp) h
    | _ :: _, [], hv => exact hv.elim
theorem beqB_eq {a b : Bool} (h : beqB a b = true) : a = b := by cases a <;> cases b <;> first | rfl | cases h
/-- The blocks of the boxes that were handed, on both sides. -/
def PsRel (F : Fin) (remC : List Nat) : Prop := ∀ p, p ∈ F.ps → ∃ p0, p0 ∈ remC ∧ F.νF p0 = F.ν p
/-- One result is handed back. -/
theorem EndI.val {nm : Nat} {hpc : Hp} {νc : Nat → Value} {hpF : Hp} (hE : EndI F rem remC nm hpc νc hpF) (hF : FinOK F) (hps : ∀ q, q ∈ F.qs → q ∈ remC) {argsC args : List SV} (hqs : ∀ q, q ∈ F.qs → q ∈ slA argsC) (hal : ∀ i j q, cellOf argsC i j = .sl q → CRel F.hp F.ν (cellOf args i j) (F.νF q))
    {k : OK} {x : SV} {b : k.T} {hpF' : Hp} {v : Value} {r : Bool × List SC} {nm' : Nat} {hpc' : Hp}
    (h : exO argsC remC hpF k x = some (b, hpF')) (hv : VRel hpF F.νF x v) (hq : inO args k b nm hpc = (r, nm', hpc')) (htop : nm + OK.news [k] ≤ F.top) :
    ∃ νc', EndI F rem remC nm' hpc' νc' hpF' ∧ ARel hpc' νc' r.1 r.2 v ∧ Ext hpc νc hpc' νc' ∧ Ext hpF F.νF hpF' F.νF ∧ nm' = nm + OK.news [k] := by
  cases k with
  | v g ks =>
    have hnews : OK.news [.v g ks] = RK.news ks := by simp [OK.news]
    rw [hnews] at htop ⊢
    match x with
    | .a g' cs =>
      have h2 : cnd (beqB g g') (exCs argsC ks cs [] hpF) none = some (b, hpF') := h
      clear h
      cases hg : beqB g g' with
      | false => rw [hg] at h2; exact no_some (α := RKs ks × Hp) h2
      | true =>
        rw [hg] at h2
        have := beqB_eq hg
        subst this
        have h3 : exCs argsC ks cs [] hpF = some (b, hpF') := h2
        replace hq : (match inCs args ks b [] nm hpc with | (cs, nm, hp) => ((g, cs), nm, hp)) = (r, nm', hpc') := hq
        generalize hq1 : inCs args ks b [] nm hpc = q at hq
        obtain ⟨s1, n1, p1⟩ := q
        simp only [Prod.mk.injEq] at hq
        obtain ⟨rfl, rfl, rfl⟩ := hq
        cases g with
        | true =>
          obtain ⟨vs, rfl, hcs⟩ := hv
          obtain ⟨νc', h1, h4, h5, h6, h7, _⟩ := EndI.cells hF hqs hal ks b cs vs.toList [] [] nm hpc νc hpF hpF' s1 n1 p1 hE h3 hcs hq1 htop (.nil _)
          exact ⟨νc', h1, ⟨vs, rfl, h4⟩, h5, h6, h7⟩
        | false =>
          obtain ⟨y, rfl, hy⟩ := hv
          obtain ⟨νc', h1, h4, h5, h6, h7, _⟩ := EndI.cells hF hqs hal ks b [y] [v] [] [] nm hpc νc hpF hpF' s1 n1 p1 hE h3 ⟨hy, trivial⟩ hq1 htop (.nil _)
          refine ⟨νc', h1, ?_, h5, h6, h7⟩
          match s1, h4 with
          | [z], h4 => exact ⟨z, rfl, h4.1⟩
          | [], h4 => exact h4.elim
          | _ :: _ :: _, h4 => exact h4.2.elim
    | .any => exact no_some (α := RKs ks × Hp) h
    | .tup _ => exact no_some (α := RKs ks × Hp) h
  | row t e => cases x <;> exact no_some (α := List t.T × Hp) h
  | box ks t =>
    have hnews : OK.news [.box ks t] = RK.news ks + 1 := by simp [OK.news]
    rw [hnews] at htop ⊢
    have bad : ∀ {p : Prop}, (none : Option (RKs ks × Hp)) = some (b, hpF') → p := fun h => no_some h
    match x with
    | .a false [.ptr n 0] =>
      have h2 : (match hpF n with
        | .box cs t' => cnd (Nat.beq t t' && !(memN n remC)) (match exCs argsC ks cs [] hpF with
          | some (a, hp') => some (a, upd hp' n .dead)
          | none => none) none
        | _ => none) = some (b, hpF') := h
      clear h
      cases hb : hpF n with
      | box cs t' =>
        rw [hb] at h2
        have h3 : cnd (Nat.beq t t' && !(memN n remC)) (match exCs argsC ks cs [] hpF with
          | some (a, hp') => some (a, upd hp' n .dead)
          | none => none) none = some (b, hpF') := h2
        clear h2
        cases hc : (Nat.beq t t' && !(memN n remC)) with
        | false => rw [hc] at h3; exact bad h3
        | true =>
          rw [hc] at h3
          have h4' : (match exCs argsC ks cs [] hpF with
            | some (a, hp') => some (a, upd hp' n .dead)
            | none => none) = some (b, hpF') := h3
          clear h3
          rw [Bool.and_eq_true, Bool.not_eq_true'] at hc
          have ht := Nat.eq_of_beq_eq_true hc.1
          subst ht
          have hnr : n ∉ remC := fun hh => by rw [memN_iff.2 hh] at hc; cases hc.2
          replace hq : (match inCs args ks b [] (nm + 1) hpc with | (cs, nm', hp) => ((false, [SC.ptr nm 0]), nm', upd hp nm (.box cs t))) = (r, nm', hpc') := hq
          generalize hq1 : inCs args ks b [] (nm + 1) hpc = q at hq
          obtain ⟨s1, n1, p1⟩ := q
          simp only [Prod.mk.injEq] at hq
          obtain ⟨rfl, rfl, rfl⟩ := hq
          obtain ⟨hnf, g, hg, hvv⟩ := hv.ptr
          have hent := hE.memF.ent n
          rw [hb] at hent
          obtain ⟨g', vs, hg', hheap, hcs⟩ := hent
          rw [hg] at hg'
          simp only [Value.pointer.injEq, Option.some.injEq, Addr.mk.injEq, and_true] at hg'
          subst hg'
          have hbn : wrE (hpF n) := by rw [hb]; trivial
          have hblk : blk (F.νF n) = some g := by rw [hg]; rfl
          have hnq : n ∉ F.qs := fun hin => hnr (hps n hin)
          obtain ⟨hG, hsz⟩ := hE.fresh hF hbn hnq hblk
          have hbase : F.base ≤ F.w.heap.size := hF.mem.fr.bs
          have hfree : hpc nm = .free := hE.free nm (Nat.le_refl _) (by omega)
          cases hex : exCs argsC ks cs [] hpF with
          | none => rw [hex] at h4'; exact bad h4'
          | some res =>
            obtain ⟨b1, hpF1⟩ := res
            rw [hex] at h4'
            have h4 : some (b1, upd hpF1 n .dead) = some (b, hpF') := h4'
            injection h4 with h4
            injection h4 with h4 h4b
            subst h4 h4b
            have hE1 : EndI F rem (n :: remC) (nm + 1) hpc νc hpF :=
              ⟨hE.mem, hE.ext, hE.old, hE.sub, fun m h1 h2 => hE.free m (by omega) h2, hE.memF, hE.cross, hE.sepR, fun p hp => by
                cases hp with
                | head => exact .inl (by rw [hb]; trivial)
                | tail _ hp => exact hE.boxF p hp, hE.allF, hE.nst, hE.nstF⟩
            obtain ⟨νc1, h1, h5, h6, h7, h8, h9⟩ := EndI.cells hF hqs hal ks b1 cs vs.toList [] [] (nm + 1) hpc νc hpF hpF1 s1 n1 p1 hE1 hex hcs hq1 (by omega) (.nil _)
            have hslot : p1 nm = .free := by rw [h9 nm (by omega)]; exact hfree
            have hbn1 : wrE (hpF1 n) := ((h1.boxF n List.mem_cons_self).resolve_right hnq).wr
            have hE2 : EndI F rem remC n1 p1 νc1 hpF1 := ⟨h1.mem, h1.ext, h1.old, h1.sub, h1.free, h1.memF, h1.cross, h1.sepR, fun p hp => h1.boxF p (List.mem_cons_of_mem _ hp), h1.allF, h1.nst, h1.nstF⟩
            have hd1 := deadOf_ext (ν := νc1) (rem := rem) (hp := p1) (fun p hp hh => by
              have h10 := hF.box p (h1.sub p hp)
              rw [← h1.old p hp, hh] at h10
              exact h10)
            have hnr2 := hE2.notrem hF hslot
            have hd2 : deadOf rem p1 nm = .free := by rw [deadOf_out hnr2]; exact hslot
            have hI := hE2.install hF (s := nm) (nm' := n1) hslot (Nat.le_refl _) (by omega) (e := .box s1 t) (v := .pointer (some ⟨g, 0, none⟩)) (by simp) (hpF' := upd hpF1 n .dead)
              ⟨g, vs, rfl, hheap, (h5.mono hd1.1).mono (Ext.new hd2 _ _)⟩ (fun g2 hg2 => by
                have hg2 : some g = some g2 := hg2
                injection hg2 with hg2
                subst hg2
                refine ⟨hG, hF.own hsz, fun m hm => h1.cross n hbn1 g hblk hG m hm, fun q hq hc => ?_⟩
                have hqn : q ≠ n := fun e => by subst e; rw [upd_same] at hq; exact hq
                rw [upd_other _ _ hqn] at hq
                exact h1.memF.sep n q (fun e => hqn e.symm) hbn1 hq.lv g hblk hc) trivial (fun g2 hg2 => hE2.notB hF hbn1 hnq (by rw [hg]; exact hg2)) (h1.nstF.turn (by simp) trivial (fun q => q.elim)) (h1.memF.kill n) (fun q hq => by
                have hqn : q ≠ n := fun e => by subst e; rw [upd_same] at hq; exact hq
                rw [upd_other _ _ hqn] at hq
                exact hq) (fun p hp => by
                have hpn : p ≠ n := fun e => by subst e; exact hnr hp
                rw [upd_other _ _ hpn]
                exact h1.boxF p (List.mem_cons_of_mem _ hp)) (fun p hp => by
                have hpn : p ≠ n := fun e => by subst e; exact hnq hp
                rw [upd_other _ _ hpn]
                exact h1.allF p hp)
            refine ⟨_, hI.1, ⟨_, rfl, by rw [upd_same]; simp, g, by rw [upd_same], hvv⟩, h6.trans hI.2, h7.trans (Ext.kill _ _ _), by omega⟩
      | _ => rw [hb] at h2; exact bad h2
    | .a false [.ptr n (m + 1)] => exact bad h
    | .a false [] => exact bad h
    | .a false (x :: _ :: _) => cases x with
      | ptr n m => cases m <;> exact bad h
      | _ => exact bad h
    | .a true _ => exact bad h
    | .any => exact bad h
    | .tup _ => exact bad h
    | .a false [.any] | .a false [.bool _] | .a false [.int _ _] | .a false [.str _] | .a false [.nilp] | .a false [.sl _] | .a false [.nils] | .a false [.ep _ _ _ _] | .a false [.pj _ _ _ _] | .a false [.pg _ _ _ _] => exact bad h
/-- One box that was handed. -/
theorem EndI.upd_ {p : Nat} {rem : List Nat} {nm : Nat} {hpc : Hp} {νc : Nat → Value} {hpF : Hp} {p0 : Nat} {remC : List Nat} (hE : EndI F (p :: rem) (p0 :: remC) nm hpc νc hpF) (hF : FinOK F) (hnd : p ∉ rem) (hpp : F.νF p0 = F.ν p) {argsC args : List SV} (hqs : ∀ q, q ∈ F.qs → q ∈ slA argsC) (hal : ∀ i j q, cellOf argsC i j = .sl q → CRel F.hp F.ν (cellOf args i j) (F.νF q))
    {hp0 : Hp} {k : OK} {b : k.T} {hpF' : Hp} {nm' : Nat} {hpc' : Hp} (h : exU argsC hp0 hpF p0 k = some (b, hpF')) (hq : upO args p k b nm hpc = (nm', hpc')) (htop : nm + OK.news [k] ≤ F.top + 1)
    (hold : ∀ old0 t0 old t1, hp0 p0 = .box old0 t0 → F.hp p = .box old t1 → OldRel F old0 old) :
    ∃ νc', EndI F rem remC nm' hpc' νc' hpF' ∧ Ext hpc νc hpc' νc' ∧ nm' + 1 = nm + OK.news [k] := by
  cases k with
  | v g ks => exact no_some (α := RKs ks × Hp) h
  | box ks t =>
    have hnews : OK.news [.box ks t] = RK.news ks + 1 := by simp [OK.news]
    rw [hnews] at htop ⊢
    have bad : ∀ {p : Prop}, (none : Option (RKs ks × Hp)) = some (b, hpF') → p := fun h => no_some h
    have hpin : p ∈ p :: rem := List.mem_cons_self
    have hboxp := hF.box p (hE.sub p hpin)
    have hoc := hE.old p hpin
    have h2 : (match hp0 p0, hpF p0 with
      | .box old _, .box cs t' => cnd (Nat.beq t t') (exCs argsC ks cs old hpF) none
      | _, _ => none) = some (b, hpF') := h
    clear h
    cases hb0 : hp0 p0 with
    | box old0 t0 =>
      rw [hb0] at h2
      cases hbF : hpF p0 with
      | box cs t' =>
        rw [hbF] at h2
        have h3 : cnd (Nat.beq t t') (exCs argsC ks cs old0 hpF) none = some (b, hpF') := h2
        clear h2
        cases ht : Nat.beq t t' with
        | false => rw [ht] at h3; exact bad h3
        | true =>
          rw [ht] at h3
          have h4 : exCs argsC ks cs old0 hpF = some (b, hpF') := h3
          have := Nat.eq_of_beq_eq_true ht
          subst this
          have hgb : ∃ old t1, F.hp p = .box old t1 := by
            have hent := hE.memF.ent p0
            rw [hbF] at hent
            obtain ⟨g, vs, hg, hheap, hcs⟩ := hent
            have hep := hF.mem.ent p
            rw [← hpp, hg] at hep
            cases hbp : F.hp p with
            | box old t1 => exact ⟨old, t1, rfl⟩
            | row t2 l2 e2 =>
              rw [hbp] at hep
              rcases hep.2 with ⟨h5, _⟩ | ⟨g', cap, cur, h5, _⟩ <;> cases h5
            | ex t2 l2 e2 =>
              rw [hbp] at hep
              rcases hep with ⟨h5, _⟩ | ⟨g', off, c, vs2, e3, fz, h5, _⟩ <;> cases h5
            | free => rw [hbp] at hboxp; exact hboxp.elim
            | dead => rw [hbp] at hboxp; exact hboxp.elim
            | ro t2 l2 e2 => rw [hbp] at hboxp; exact hboxp.elim
            | nro t2 l2 e2 => rw [hbp] at hboxp; exact hboxp.elim
            | gh => rw [hbp] at hboxp; exact hboxp.elim
            | gho _ _ => rw [hbp] at hboxp; exact hboxp.elim
            | nrow b2 t2 l2 e2 =>
              rw [hbp] at hep
              obtain ⟨fl, hep⟩ := hep
              rcases hep.2 with ⟨h5, _⟩ | ⟨g', cap, cur, h5, _⟩ <;> cases h5
            | pend t2 c2 l2 e2 =>
              rw [hbp] at hep
              obtain ⟨fl, hep, _⟩ := hep
              rcases hep.2 with ⟨h5, _⟩ | ⟨g', cap, cur, h5, _⟩ <;> cases h5
          cases hbp : F.hp p with
          | box old t1 =>
            rw [hbp] at hoc
            have hq : (match hpc p with
              | .box old _ => match inCs args ks b old nm hpc with
                | (cs, nm, hp) => (nm, upd hp p (.box cs t))
              | _ => (nm, hpc)) = (nm', hpc') := hq
            rw [hoc] at hq
            replace hq : (match inCs args ks b old nm hpc with
                | (cs, nm, hp) => (nm, upd hp p (.box cs t))) = (nm', hpc') := hq
            generalize hq1 : inCs args ks b old nm hpc = q at hq
            obtain ⟨s1, n1, p1⟩ := q
            simp only [Prod.mk.injEq] at hq
            obtain ⟨rfl, rfl⟩ := hq
            have hent := hE.memF.ent p0
            rw [hbF] at hent
            obtain ⟨g, vs, hg, hheap, hcs⟩ := hent
            obtain ⟨νc1, h1, h5, h6, h7, h8, h9⟩ := EndI.cells hF hqs hal ks b cs vs.toList old0 old nm hpc νc hpF hpF' s1 n1 p1 hE h4 hcs hq1 (by omega) (hold old0 t0 old t1 hb0 hbp)
            have hνp : νc1 p = .pointer (some ⟨g, 0, none⟩) := by
              have hnf : F.hp p ≠ .free := by rw [hbp]; simp
              rw [(h1.ext.keep p hnf).2, ← hpp, hg]
            have hνpF : F.ν p = .pointer (some ⟨g, 0, none⟩) := by rw [← hpp, hg]
            have hd1 := deadOf_ext (ν := νc1) (rem := p :: rem) (hp := p1) (fun p2 hp2 hh => by
              have h10 := hF.box p2 (h1.sub p2 hp2)
              rw [← h1.old p2 hp2, hh] at h10
              exact h10)
            have hdp : deadOf (p :: rem) p1 p = .dead := deadOf_in hpin
            have hfn : deadOf rem (upd p1 p (.box s1 t)) = upd (deadOf (p :: rem) p1) p (.box s1 t) := by
              rw [deadOf_upd hnd]
              funext m
              by_cases hm : m = p
              · subst hm; rw [upd_same, upd_same]
              · rw [upd_other _ _ hm, upd_other _ _ hm]
                by_cases hmr : m ∈ rem
                · rw [deadOf_in hmr, deadOf_in (List.mem_cons_of_mem _ hmr)]
                · rw [deadOf_out hmr, deadOf_out (by simp [hm, hmr])]
            have hlive : ∀ m, lvE (deadOf rem (upd p1 p (.box s1 t)) m) → m = p ∨ lvE (deadOf (p :: rem) p1 m) := by
              intro m hm
              rw [hfn] at hm
              by_cases hmp : m = p
              · exact .inl hmp
              · rw [upd_other _ _ hmp] at hm; exact .inr hm
            have hext2 : Ext (deadOf (p :: rem) p1) νc1 (upd (deadOf (p :: rem) p1) p (.box s1 t)) νc1 := ⟨fun n hn => ⟨by
              by_cases hnp : n = p
              · subst hnp; rw [upd_same]; simp
              · rw [upd_other _ _ hnp]; exact hn, rfl⟩⟩
            have hext3 : Ext p1 νc1 (upd p1 p (.box s1 t)) νc1 := ⟨fun n hn => ⟨by
              by_cases hnp : n = p
              · subst hnp; rw [upd_same]; simp
              · rw [upd_other _ _ hnp]; exact hn, rfl⟩⟩
            have hns := h1.nst.turn (p := p) (e := .box s1 t) (by simp) trivial (fun _ g2 hg2 => by
              rw [hνp] at hg2
              exact hF.notB (hE.sub p hpin) (by rw [hνpF]; exact hg2))
            have hmem := h1.mem.revive (p := p) (by rw [hdp]; exact fun h => h) (by rw [hdp]; simp) (e := .box s1 t) (by simp) ⟨g, vs, hνp, hheap, (h5.mono hd1.1).mono hext2⟩
              (fun m hm g2 hg2 hc => by
                rw [hνp] at hg2
                exact h1.sepR p hpin m hm g2 (by rw [hνpF]; exact hg2) hc) (fun g2 hg2 => by
                rw [hνp] at hg2
                exact hF.mem.mine p hboxp g2 (by rw [hνpF]; exact hg2)) ⟨_, hns⟩
            refine ⟨νc1, ⟨by rw [hfn]; exact hmem, h1.ext.trans hext3, fun p2 hp2 => ?_, fun p2 hp2 => h1.sub p2 (List.mem_cons_of_mem _ hp2), fun m h10 h11 => ?_, h1.memF, fun q hqw g2 hg2 hG m hm => ?_, fun p2 hp2 m hm g2 hg2 => ?_, fun p2 hp2 => h1.boxF p2 (List.mem_cons_of_mem _ hp2), h1.allF, by rw [hfn]; exact hns, h1.nstF⟩, h6.trans hext3, by omega⟩
            · have : p2 ≠ p := fun e => by subst e; exact hnd hp2
              rw [upd_other _ _ this]
              exact h1.old p2 (List.mem_cons_of_mem _ hp2)
            · have hmp : m ≠ p := fun e => by
                subst e
                have h12 := h1.free m h10 h11
                have h13 := h1.old m hpin
                rw [h12, hbp] at h13
                cases h13
              rw [upd_other _ _ hmp]
              exact h1.free m h10 h11
            · rcases hlive m hm with rfl | hm
              · intro hc
                rw [hνp] at hc
                exact hG ⟨m, h1.sub m hpin, by rw [hνpF]; exact hc⟩
              · exact h1.cross q hqw g2 hg2 hG m hm
            · rcases hlive m hm with rfl | hm
              · intro hc
                rw [hνp] at hc
                have hne : p2 ≠ m := fun e => by subst e; exact hnd hp2
                have hb2 := hF.box p2 (h1.sub p2 (List.mem_cons_of_mem _ hp2))
                exact hF.mem.sep p2 m hne hb2 hboxp.lv g2 hg2 (by rw [hνpF]; exact hc)
              · exact h1.sepR p2 (List.mem_cons_of_mem _ hp2) m hm g2 hg2
          | _ =>
            obtain ⟨old, t1, hgb⟩ := hgb
            rw [hbp] at hgb
            cases hgb
      | _ => rw [hbF] at h2; exact bad h2
    | _ => rw [hb0] at h2; exact bad h2
  | row t e =>
    have hnews : OK.news [.row t e] = 1 := rfl
    rw [hnews] at htop ⊢
    have hpin : p ∈ p :: rem := List.mem_cons_self
    have hboxp := hF.box p (hE.sub p hpin)
    have hrow : hpF p0 = .row t b e ∧ hpF' = hpF := by
      have h2 : (match hpF p0 with
        | .row t' l e' => match t'.dec t with
          | some ⟨h⟩ => cnd (Nat.beq e e') (some ((h ▸ l : List t.T), hpF)) none
          | none => none
        | _ => none) = some (b, hpF') := h
      clear h
      cases hr : hpF p0 with
      | row t' l e' =>
        rw [hr] at h2
        have h3 : (match t'.dec t with
          | some ⟨h⟩ => cnd (Nat.beq e e') (some ((h ▸ l : List t.T), hpF)) none
          | none => none) = some (b, hpF') := h2
        clear h2
        split at h3
        · rename_i heq _
          subst heq
          cases he : Nat.beq e e' with
          | false => rw [he] at h3; exact no_some (α := List t'.T × Hp) h3
          | true =>
            rw [he] at h3
            have := Nat.eq_of_beq_eq_true he
            subst this
            have h4 : some (l, hpF) = some (b, hpF') := h3
            injection h4 with h4
            injection h4 with h4 h5
            subst h4
            exact ⟨rfl, h5.symm⟩
        · exact no_some h3
      | _ => rw [hr] at h2; exact no_some (α := List t.T × Hp) h2
    obtain ⟨hrow, rfl⟩ := hrow
    have hq : (nm, upd hpc p (.row t b e)) = (nm', hpc') := hq
    simp only [Prod.mk.injEq] at hq
    obtain ⟨rfl, rfl⟩ := hq
    have hent := hE.memF.ent p0
    rw [hrow, hpp] at hent
    have hent : F.wF.ownsRow 0 e t.size (F.ν p) b.length (t.flat b) := hent
    have hpf : F.hp p ≠ .free := fun hh => by rw [hh] at hboxp; exact hboxp.elim
    have hνp : νc p = F.ν p := (hE.ext.keep p hpf).2
    have hdp : deadOf (p :: rem) hpc p = .dead := deadOf_in hpin
    have hfn : deadOf rem (upd hpc p (.row t b e)) = upd (deadOf (p :: rem) hpc) p (.row t b e) := by
      rw [deadOf_upd hnd]
      funext m
      by_cases hm : m = p
      · subst hm; rw [upd_same, upd_same]
      · rw [upd_other _ _ hm, upd_other _ _ hm]
        by_cases hmr : m ∈ rem
        · rw [deadOf_in hmr, deadOf_in (List.mem_cons_of_mem _ hmr)]
        · rw [deadOf_out hmr, deadOf_out (by simp [hm, hmr])]
    have hlive : ∀ m, lvE (deadOf rem (upd hpc p (.row t b e)) m) → m = p ∨ lvE (deadOf (p :: rem) hpc m) := by
      intro m hm
      rw [hfn] at hm
      by_cases hmp : m = p
      · exact .inl hmp
      · rw [upd_other _ _ hmp] at hm; exact .inr hm
    have hext3 : Ext hpc νc (upd hpc p (.row t b e)) νc := ⟨fun n hn => ⟨by
      by_cases hnp : n = p
      · subst hnp; rw [upd_same]; simp
      · rw [upd_other _ _ hnp]; exact hn, rfl⟩⟩
    have hns := hE.nst.turn (p := p) (e := .row t b e) (by simp) trivial (fun _ g2 hg2 => by
      rw [hνp] at hg2
      exact hF.notB (hE.sub p hpin) hg2)
    have hmem := hE.mem.revive (p := p) (by rw [hdp]; exact fun h => h) (by rw [hdp]; simp) (e := .row t b e) (by simp) (by rw [hνp]; exact hent)
      (fun m hm g2 hg2 hc => by
        rw [hνp] at hg2
        exact hE.sepR p hpin m hm g2 hg2 hc) (fun g2 hg2 => by
        rw [hνp] at hg2
        exact hF.mem.mine p hboxp g2 hg2) ⟨_, hns⟩
    refine ⟨νc, ⟨by rw [hfn]; exact hmem, hE.ext.trans hext3, fun p2 hp2 => ?_, fun p2 hp2 => hE.sub p2 (List.mem_cons_of_mem _ hp2), fun m h10 h11 => ?_, hE.memF, fun q hqw g2 hg2 hG m hm => ?_, fun p2 hp2 m hm g2 hg2 => ?_, fun p2 hp2 => hE.boxF p2 (List.mem_cons_of_mem _ hp2), hE.allF, by rw [hfn]; exact hns, hE.nstF⟩, hext3, rfl⟩
    · have : p2 ≠ p := fun e => by subst e; exact hnd hp2
      rw [upd_other _ _ this]
      exact hE.old p2 (List.mem_cons_of_mem _ hp2)
    · have hmp : m ≠ p := fun e => by
        subst e
        have h12 := hE.free m h10 h11
        have h13 := hE.old m hpin
        rw [h12] at h13
        exact hpf h13.symm
      rw [upd_other _ _ hmp]
      exact hE.free m h10 h11
    · rcases hlive m hm with rfl | hm
      · intro hc
        rw [hνp] at hc
        exact hG ⟨m, hE.sub m hpin, hc⟩
      · exact hE.cross q hqw g2 hg2 hG m hm
    · rcases hlive m hm with rfl | hm
      · intro hc
        rw [hνp] at hc
        have hne : p2 ≠ m := fun e => by subst e; exact hnd hp2
        have hb2 := hF.box p2 (hE.sub p2 (List.mem_cons_of_mem _ hp2))
        exact hF.mem.sep p2 m hne hb2 hboxp.lv g2 hg2 hc
      · exact hE.sepR p2 (List.mem_cons_of_mem _ hp2) m hm g2 hg2
end
end Go.Sx
/- A function's contract out of its walk. -/
set_option linter.unusedVariables false
set_option linter.unusedSimpArgs false
namespace Go.Sx
/-- Boxes that were handed, name by name. -/
def PairP (νF ν : Nat → Value) : List Nat → List Nat → Prop
  | [], [] => True
  | p :: ps, q :: qs => νF q = ν p ∧ PairP νF ν ps qs
  | _, _ => False
theorem PairP.mem {νF ν : Nat → Value} : ∀ {ps qs : List Nat}, PairP νF ν ps qs → ∀ p, p ∈ ps → ∃ q, q ∈ qs ∧ νF q = ν p
  | [], [], _, p, hp => by cases hp
  | p' :: ps, q :: qs, h, p, hp => by
    cases hp with
    | head => exact ⟨q, List.mem_cons_self, h.1⟩
    | tail _ hp =>
      obtain ⟨q', h1, h2⟩ := PairP.mem h.2 p hp
      exact ⟨q', List.mem_cons_of_mem _ h1, h2⟩
  | [], _ :: _, h, _, _ => h.elim
  | _ :: _, [], h, _, _ => h.elim
theorem onews_cons (k : OK) (r : List OK) : OK.news (k :: r) = OK.news [k] + OK.news r := by
  cases k <;> simp [OK.news]
theorem vs_mono {hp hp' : Hp} {ν ν' : Nat → Value} (h : Ext hp ν hp' ν') : ∀ {xs : List SV} {vs : List Value}, VsRel hp ν xs vs → VsRel hp' ν' xs vs
  | [], [], _ => trivial
  | _ :: _, _ :: _, hx => ⟨hx.1.mono h, vs_mono h hx.2⟩
  | [], _ :: _, hx => hx.elim
  | _ :: _, [], hx => hx.elim
section
variable {F : Fin}
theorem EndI.ups (hF : FinOK F) {argsC args : List SV} (hqs : ∀ q, q ∈ F.qs → q ∈ slA argsC) (hal : ∀ i j q, cellOf argsC i j = .sl q → CRel F.hp F.ν (cellOf args i j) (F.νF q)) {hp0 : Hp} {ps0 : List Nat} :
    ∀ (ks : List OK) (b : OKs ks) (rem remC : List Nat) (nm : Nat) (hpc : Hp) (νc : Nat → Value) (hpF : Hp), EndI F rem remC nm hpc νc hpF → PairP F.νF F.ν rem remC → nodupN rem = true →
      (∀ p p0, (p, p0) ∈ rem.zip remC → ∀ old0 t0 old t1, hp0 p0 = .box old0 t0 → F.hp p = .box old t1 → OldRel F old0 old) → exOs argsC hp0 ps0 [] remC ks hpF = some b → nm + OK.news ks ≤ F.top →
      ∃ νc', Mem F.base F.G F.w0 F.wF (inOs args 0 rem ks b nm hpc).2 νc' ∧ (inOs args 0 rem ks b nm hpc).1 = [] ∧ Ext hpc νc (inOs args 0 rem ks b nm hpc).2 νc'
  | [], b, rem, remC, nm, hpc, νc, hpF, hE, hp, hnd, hold, h, htop => by
    match rem, remC, hp with
    | [], [], _ => exact ⟨νc, by have := hE.mem; rw [deadOf_nil] at this; exact this, rfl, .refl _ _⟩
    | _ :: _, _ :: qs, _ => cases qs <;> exact no_some (α := Unit) h
  | [k], b, rem, remC, nm, hpc, νc, hpF, hE, hp, hnd, hold, h, htop => by
    match rem, remC, hp with
    | [p], [p0], hp =>
      have h2 : (match exU argsC hp0 hpF p0 k with
        | some (a, _) => some a
        | none => none) = some b := h
      cases hx : exU argsC hp0 hpF p0 k with
      | none => rw [hx] at h2; exact no_some h2
      | some res =>
        obtain ⟨b', hpF'⟩ := res
        rw [hx] at h2
        have h3 : some b' = some b := h2
        injection h3 with h3
        subst h3
        generalize hq : upO args p k b' nm hpc = q
        obtain ⟨n1, p1⟩ := q
        obtain ⟨νc', h4, h5, h6⟩ := hE.upd_ hF (by simp) hp.1 hqs hal hx hq (by omega) (hold p p0 (by simp))
        have hio : inOs args 0 [p] [k] b' nm hpc = ([], p1) := by
          show ([], (upO args p k b' nm hpc).2) = _
          rw [hq]
        rw [hio]
        exact ⟨νc', by have := h4.mem; rw [deadOf_nil] at this; exact this, rfl, h5⟩
    | [], [], _ => exact no_some (α := k.T) h
    | _ :: _ :: _, _ :: _ :: _, _ => exact no_some (α := k.T) h
    | [_], _ :: _ :: _, hp => exact hp.2.elim
    | _ :: _ :: _, [_], hp => exact hp.2.elim
  | k :: k' :: r, b, rem, remC, nm, hpc, νc, hpF, hE, hp, hnd, hold, h, htop => by
    match rem, remC, hp with
    | p :: rem, p0 :: remC, hp =>
      have h2 : ((match exU argsC hp0 hpF p0 k with
        | some (a, hp) => match exOs argsC hp0 ps0 [] remC (k' :: r) hp with
          | some b => some (a, b)
          | none => none
        | none => none) : Option (k.T × OKs (k' :: r))) = some b := by cases remC <;> exact h
      clear h
      cases hx : exU argsC hp0 hpF p0 k with
      | none => rw [hx] at h2; exact no_some (α := k.T × OKs (k' :: r)) h2
      | some res =>
        obtain ⟨a', hpF'⟩ := res
        rw [hx] at h2
        simp only [] at h2
        cases hy : exOs argsC hp0 ps0 [] remC (k' :: r) hpF' with
        | none => rw [hy] at h2; exact no_some (α := k.T × OKs (k' :: r)) h2
        | some b' =>
          rw [hy] at h2
          have h3 : some (a', b') = some b := h2
          injection h3 with h3
          subst h3
          generalize hq : upO args p k a' nm hpc = q
          obtain ⟨n1, p1⟩ := q
          rw [onews_cons] at htop
          simp only [nodupN, Bool.and_eq_true, Bool.not_eq_true'] at hnd
          have hpr : p ∉ rem := fun hh => by rw [memN_iff.2 hh] at hnd; cases hnd.1
          obtain ⟨νc', h4, h5, h6⟩ := hE.upd_ hF hpr hp.1 hqs hal hx hq (by omega) (hold p p0 (by simp))
          obtain ⟨νc2, g1, g2, g3⟩ := EndI.ups hF hqs hal (k' :: r) b' rem remC n1 p1 νc' hpF' h4 hp.2 hnd.2 (fun p2 p02 h7 => hold p2 p02 (by simp [h7])) hy (by omega)
          have hio : inOs args 0 (p :: rem) (k :: k' :: r) (a', b') nm hpc = inOs args 0 rem (k' :: r) b' n1 p1 := by
            show (match upO args p k a' nm hpc with
              | (nm, hp) => inOs args 0 rem (k' :: r) b' nm hp) = _
            rw [hq]
          rw [hio]
          exact ⟨νc2, g1, g2, h5.trans g3⟩
    | [], [], _ => exact no_some (α := k.T × OKs (k' :: r)) h
theorem EndI.all (hF : FinOK F) {remC : List Nat} (hps : PairP F.νF F.ν F.ps remC) (hrq : ∀ q, q ∈ F.qs → q ∈ remC) (hnd : nodupN F.ps = true) {argsC args : List SV} (hqs : ∀ q, q ∈ F.qs → q ∈ slA argsC) (hal : ∀ i j q, cellOf argsC i j = .sl q → CRel F.hp F.ν (cellOf args i j) (F.νF q)) {hp0 : Hp}
    (hold : ∀ p p0, (p, p0) ∈ F.ps.zip remC → ∀ old0 t0 old t1, hp0 p0 = .box old0 t0 → F.hp p = .box old t1 → OldRel F old0 old) :
    ∀ (ks : List OK) (b : OKs ks) (xs : List SV) (vs : List Value) (nm : Nat) (hpc : Hp) (νc : Nat → Value) (hpF : Hp), EndI F F.ps remC nm hpc νc hpF → VsRel hpF F.νF xs vs → exOs argsC hp0 remC xs remC ks hpF = some b → nm + OK.news ks ≤ F.top →
      ∃ νc', Mem F.base F.G F.w0 F.wF (inOs args xs.length F.ps ks b nm hpc).2 νc' ∧ TsRel (inOs args xs.length F.ps ks b nm hpc).2 νc' (inOs args xs.length F.ps ks b nm hpc).1 vs ∧ Ext hpc νc (inOs args xs.length F.ps ks b nm hpc).2 νc'
  | ks, b, [], vs, nm, hpc, νc, hpF, hE, hv, h, htop => by
    match vs, hv with
    | [], _ =>
      obtain ⟨νc', h1, h2, h3⟩ := EndI.ups hF hqs hal ks b F.ps remC nm hpc νc hpF hE hps hnd hold h htop
      exact ⟨νc', h1, by rw [List.length_nil, h2]; trivial, h3⟩
  | [], b, x :: xs, vs, nm, hpc, νc, hpF, hE, hv, h, htop => by
    have : exOs argsC hp0 remC (x :: xs) remC [] hpF = none := by cases xs <;> cases remC <;> first | rfl | (rename_i qs; cases qs <;> rfl)
    rw [this] at h
    exact no_some h
  | [k], b, x :: xs, vs, nm, hpc, νc, hpF, hE, hv, h, htop => by
    match xs, vs, hv with
    | [], [v], hv =>
      match hrc : remC with
      | p :: qs => subst hrc; exact no_some (α := k.T) h
      | [] =>
        subst hrc
        have h2 : (match exO argsC [] hpF k x with
          | some (a, _) => some a
          | none => none) = some b := h
        cases hx : exO argsC [] hpF k x with
        | none => rw [hx] at h2; exact no_some h2
        | some res =>
          obtain ⟨b', hpF'⟩ := res
          rw [hx] at h2
          have h3 : some b' = some b := h2
          injection h3 with h3
          subst h3
          generalize hq : inO args k b' nm hpc = q
          obtain ⟨r, n1, p1⟩ := q
          obtain ⟨νc', h4, h5, h6, h7, h8⟩ := hE.val hF hrq hqs hal hx hv.1 hq htop
          have hio : inOs args 1 F.ps [k] b' nm hpc = ([r], p1) := by
            show (match inO args k b' nm hpc with
              | (v, nm, hp) => ([v], hp)) = _
            rw [hq]
          have hpsn : F.ps = [] := by
            cases hfp : F.ps with
            | nil => rfl
            | cons p ps => rw [hfp] at hps; exact hps.elim
          show ∃ νc', Mem F.base F.G F.w0 F.wF (inOs args 1 F.ps [k] b' nm hpc).2 νc' ∧ _
          refine ⟨νc', ?_, ?_, ?_⟩
          · show Mem F.base F.G F.w0 F.wF (inOs args 1 F.ps [k] b' nm hpc).2 νc'
            rw [hio]
            have := h4.mem
            rw [hpsn, deadOf_nil] at this
            exact this
          · show TsRel (inOs args 1 F.ps [k] b' nm hpc).2 νc' (inOs args 1 F.ps [k] b' nm hpc).1 [v]
            rw [hio]
            exact ⟨h5, trivial⟩
          · show Ext hpc νc (inOs args 1 F.ps [k] b' nm hpc).2 νc'
            rw [hio]
            exact h6
    | _ :: _, _, _ => exact no_some (α := k.T) h
    | [], _ :: _ :: _, hv => exact hv.2.elim
    | [], [], hv => exact hv.elim
  | k :: k' :: r, b, x :: xs, vs, nm, hpc, νc, hpF, hE, hv, h, htop => by
    match vs, hv with
    | v :: vs, hv =>
      have h2 : ((match exO argsC remC hpF k x with
        | some (a, hp) => match exOs argsC hp0 remC xs remC (k' :: r) hp with
          | some b => some (a, b)
          | none => none
        | none => none) : Option (k.T × OKs (k' :: r))) = some b := by
          cases xs with
          | nil => cases remC <;> exact h
          | cons _ _ => exact h
      clear h
      cases hx : exO argsC remC hpF k x with
      | none => rw [hx] at h2; exact no_some (α := k.T × OKs (k' :: r)) h2
      | some res =>
        obtain ⟨a', hpF'⟩ := res
        rw [hx] at h2
        simp only [] at h2
        cases hy : exOs argsC hp0 remC xs remC (k' :: r) hpF' with
        | none => rw [hy] at h2; exact no_some (α := k.T × OKs (k' :: r)) h2
        | some b' =>
          rw [hy] at h2
          have h3 : some (a', b') = some b := h2
          injection h3 with h3
          subst h3
          generalize hq : inO args k a' nm hpc = q
          obtain ⟨r1, n1, p1⟩ := q
          rw [onews_cons] at htop
          obtain ⟨νc', h4, h5, h6, h7, h8⟩ := hE.val hF hrq hqs hal hx hv.1 hq (by omega)
          have hvs : VsRel hpF' F.νF xs vs := vs_mono h7 hv.2
          obtain ⟨νc2, g1, g2, g3⟩ := EndI.all hF hps hrq hnd hqs hal hold (k' :: r) b' xs vs n1 p1 νc' hpF' h4 hvs hy (by omega)
          have hio : inOs args (xs.length + 1) F.ps (k :: k' :: r) (a', b') nm hpc = (r1 :: (inOs args xs.length F.ps (k' :: r) b' n1 p1).1, (inOs args xs.length F.ps (k' :: r) b' n1 p1).2) := by
            show (match inO args k a' nm hpc with
              | (v, nm, hp) => match inOs args xs.length F.ps (k' :: r) b' nm hp with
                | (vs, hp) => (v :: vs, hp)) = _
            rw [hq]
          show ∃ νc', Mem F.base F.G F.w0 F.wF (inOs args (xs.length + 1) F.ps (k :: k' :: r) (a', b') nm hpc).2 νc' ∧ TsRel (inOs args (xs.length + 1) F.ps (k :: k' :: r) (a', b') nm hpc).2 νc' (inOs args (xs.length + 1) F.ps (k :: k' :: r) (a', b') nm hpc).1 (v :: vs) ∧ Ext hpc νc (inOs args (xs.length + 1) F.ps (k :: k' :: r) (a', b') nm hpc).2 νc'
          rw [hio]
          exact ⟨νc2, g1, ⟨h5.mono g3, g2⟩, h6.trans g3⟩
    | [], hv => exact hv.elim
end
end Go.Sx
/- A function keeps its contract. -/
set_option linter.unusedVariables false
set_option linter.unusedSimpArgs false
namespace Go.Sx
section
variable {P : Program} {base : Nat} {G : GS} {w0 w : World} {hp hp0 : Hp} {ν ν0 : Nat → Value}
theorem beg0 {B : Nat → Prop} (hB : NestOK base G w hp ν B) (G' : GS) (hO : ∀ b, B b → G'.o b) (H : List Nat) : Beg base G B w hp ν G' H 0 (fun _ => .free) (fun _ => .nilFunc) [] :=
  have hn : NestOK w.heap.size G' w (fun _ => .free) (fun _ => .nilFunc) B := ⟨fun _ => trivial, fun _ h => h.elim, hB.lt, fun b hb _ => .inl (hO b hb)⟩
  ⟨⟨fun _ => trivial, fun _ _ _ h => h.elim, fun _ h => h.elim, ⟨rfl, rfl, rfl, Nat.le_refl _, Nat.le_refl _, fun _ _ _ => rfl⟩, ⟨B, hn⟩⟩, fun _ _ => rfl, hB, hn, fun _ h => h.elim, fun _ h => by cases h⟩
theorem vs_len : ∀ {xs : List SV} {vs : List Value}, VsRel hp ν xs vs → xs.length = vs.length
  | [], [], _ => rfl
  | _ :: _, _ :: _, h => by simp [vs_len h.2]
  | [], _ :: _, h => h.elim
  | _ :: _, [], h => h.elim
theorem vs_get : ∀ {xs : List SV} {vs : List Value} {i : Nat}, VsRel hp ν xs vs → i < vs.length → ∃ x v, xs[i]? = some x ∧ vs[i]? = some v ∧ VRel hp ν x v
  | x :: xs, v :: vs, 0, h, _ => ⟨x, v, rfl, rfl, h.1⟩
  | x :: xs, v :: vs, i + 1, h, hi => by
    obtain ⟨x', v', h1, h2, h3⟩ := vs_get (i := i) h.2 (by simpa using hi)
    exact ⟨x', v', by simpa using h1, by simpa using h2, h3⟩
  | [], [], _, _, hi => by simp at hi
  | [], _ :: _, _, h, _ => h.elim
  | _ :: _, [], _, h, _ => h.elim
theorem cs_getD {xs : List SC} {vs : List Value} (h : CsRel hp ν xs vs) {j : Nat} {v : Value} (hv : vs[j]? = some v) (h1 : v.oneCell' = true) : CRel hp ν (xs.getD j .any) v := by
  cases hx : xs[j]? with
  | none => rw [List.getD_eq_getElem?_getD, hx]; exact h1
  | some x =>
    obtain ⟨v', hv', hr⟩ := h.get hx
    rw [hv] at hv'
    injection hv' with hv'
    subst hv'
    rw [List.getD_eq_getElem?_getD, hx]
    exact hr
/-- A cell of an argument, on both sides. -/
theorem cell_both {xs ys : List SV} {vs : List Value} (hx : VsRel hp0 ν0 xs vs) (hy : VsRel hp ν ys vs) {i j q : Nat} (h : cellOf xs i j = .sl q) : CRel hp ν (cellOf ys i j) (ν0 q) ∧ hp0 q ≠ .free := by
  unfold cellOf at h
  cases hxi : xs[i]? with
  | none => rw [hxi] at h; cases h
  | some x =>
    rw [hxi] at h
    have hi : i < vs.length := by rw [← vs_len hx]; exact (List.getElem?_eq_some_iff.1 hxi).1
    obtain ⟨x', v, h1, h2, h3⟩ := vs_get hx hi
    rw [hxi] at h1
    injection h1 with h1
    subst h1
    cases x with
    | any => cases h
    | tup _ => cases h
    | a g cs =>
      simp only [] at h
      have hcs : CsRel hp0 ν0 cs v.cells.toList := ARel.cells h3
      have hj : cs[j]? = some (.sl q) := by
        rw [List.getD_eq_getElem?_getD] at h
        cases hc : cs[j]? with
        | none => rw [hc] at h; cases h
        | some y => rw [hc] at h; have h : y = .sl q := h; rw [h]
      obtain ⟨u, hu, hur⟩ := hcs.get hj
      obtain ⟨hnf, hue, A, l, c, hus⟩ := hur
      have hone : u.oneCell' = true := by rw [hus]; rfl
      refine ⟨?_, hnf⟩
      rw [← hue]
      obtain ⟨y, v', h4, h5, h6⟩ := vs_get hy hi
      rw [h2] at h5
      injection h5 with h5
      subst h5
      unfold cellOf
      rw [h4]
      cases y with
      | any => exact hone
      | tup _ => exact hone
      | a g' cs' => exact cs_getD (ARel.cells h6) hu hone
theorem iA_ptr (ks : List CK) (t : TypeId) (x : CKs ks) (nm : Nat) (hp : Hp) : (iA (.ptr ks t) x nm hp).1 = one (.ptr nm 0) := rfl
theorem pair_args : ∀ (ks : List AK) (x : AKs ks) (sas : List SV) (vs : List Value) (nm : Nat) (hpc : Hp), mAs hp ks sas = some x → VsRel hp ν sas vs → VsRel hp0 ν0 (iAs ks x nm hpc).1 vs → PairP ν0 ν (ptrs ks sas) (ptrs ks (iAs ks x nm hpc).1)
  | [], x, sas, vs, nm, hpc, h, hv, hv0 => by
    match sas, vs, hv with
    | [], [], _ => trivial
    | _ :: _, _, _ => exact no_some (α := Unit) h
  | [k], x, sas, vs, nm, hpc, h, hv, hv0 => by
    match sas, vs, hv with
    | [sa], [v], hv =>
      have hh : mA hp k sa = some x := h
      have hq : (iAs [k] x nm hpc).1 = [(iA k x nm hpc).1] := rfl
      rw [hq] at hv0 ⊢
      exact pair_arg k x sa v nm hpc hh hv.1 hv0.1
    | [], _, _ => exact no_some (α := k.T) h
    | _ :: _ :: _, _, _ => exact no_some (α := k.T) h
    | [_], [], hv => exact hv.elim
    | [_], _ :: _ :: _, hv => exact hv.2.elim
  | k :: k' :: r, x, sas, vs, nm, hpc, h, hv, hv0 => by
    match sas, vs, hv with
    | sa :: sar, v :: vr, hv =>
      replace h : ((match mA hp k sa, mAs hp (k' :: r) sar with
        | some a, some b => some (a, b)
        | _, _ => none) : Option (k.T × AKs (k' :: r))) = some x := h
      split at h
      · rename_i a b ha hb
        have h : some (a, b) = some x := h
        injection h with h
        subst h
        have hq : (iAs (k :: k' :: r) (a, b) nm hpc).1 = (iA k a nm hpc).1 :: (iAs (k' :: r) b (iA k a nm hpc).2.1 (iA k a nm hpc).2.2).1 := rfl
        rw [hq] at hv0 ⊢
        rw [ptrs_cons k (k' :: r) sa sar, ptrs_cons k (k' :: r) (iA k a nm hpc).1]
        exact pair_app (pair_arg k a sa v nm hpc ha hv.1 hv0.1) (pair_args (k' :: r) b sar vr _ _ hb hv.2 hv0.2)
      · exact no_some (α := k.T × AKs (k' :: r)) h
    | [], _, _ => exact no_some (α := k.T × AKs (k' :: r)) h
    | _ :: _, [], hv => exact hv.elim
where
  pair_app {l m l' m' : List Nat} : PairP ν0 ν l m → PairP ν0 ν l' m' → PairP ν0 ν (l ++ l') (m ++ m') := by
    intro h k
    match l, m, h with
    | [], [], _ => exact k
    | _ :: _, _ :: _, h => exact ⟨h.1, pair_app h.2 k⟩
  pair_arg (k : AK) (x : k.T) (sa : SV) (v : Value) (nm : Nat) (hpc : Hp) (h : mA hp k sa = some x) (hv : VRel hp ν sa v) (hv0 : VRel hp0 ν0 (iA k x nm hpc).1 v) : PairP ν0 ν (ptrs [k] [sa]) (ptrs [k] [(iA k x nm hpc).1]) := by
    cases k with
    | c k =>
      obtain ⟨y, rfl, _⟩ := mA_c h
      exact trivial
    | agg ks =>
      obtain ⟨cs, rfl, _⟩ := mA_agg h
      exact trivial
    | ptr ks t =>
      obtain ⟨n, cs, rfl, _, _⟩ := mA_ptr h
      have hv0 : VRel hp0 ν0 (.a false [.ptr nm 0]) v := hv0
      show PairP ν0 ν [n] [nm]
      obtain ⟨_, g, hg, hvv⟩ := hv.ptr
      obtain ⟨_, g', hg', hvv'⟩ := hv0.ptr
      rw [hvv] at hvv'
      simp only [Value.pointer.injEq, Option.some.injEq, Addr.mk.injEq, and_true] at hvv'
      subst hvv'
      exact ⟨hg'.trans hg.symm, trivial⟩
    | pw ks t =>
      obtain ⟨n, cs, rfl, _, _⟩ := mA_pw h
      have hv0 : VRel hp0 ν0 (.a false [.ptr nm 0]) v := hv0
      show PairP ν0 ν [n] [nm]
      obtain ⟨_, g, hg, hvv⟩ := hv.ptr
      obtain ⟨_, g', hg', hvv'⟩ := hv0.ptr
      rw [hvv] at hvv'
      simp only [Value.pointer.injEq, Option.some.injEq, Addr.mk.injEq, and_true] at hvv'
      subst hvv'
      exact ⟨hg'.trans hg.symm, trivial⟩
    | w g ks =>
      obtain ⟨cs, rfl, hw⟩ := mA_w h
      have hp1 : ptrs [AK.w g ks] [SV.a g cs] = rowsW ks cs := by
        show rowsW ks cs ++ [] = _
        rw [List.append_nil]
      have hp2 : ptrs [AK.w g ks] [(iA (.w g ks) x nm hpc).1] = rowsW ks (iWs ks x nm hpc).1 := by
        show rowsW ks (iWs ks x nm hpc).1 ++ [] = _
        rw [List.append_nil]
      rw [hp1, hp2]
      have hv0 : VRel hp0 ν0 (.a g (iWs ks x nm hpc).1) v := hv0
      exact pair_rows ks x cs v.cells.toList nm hpc hw (ARel.cells hv) (ARel.cells hv0)
  pair_rows : ∀ (ks : List WK) (x : WKs ks) (cs : List SC) (vs : List Value) (nm : Nat) (hpc : Hp), mWs hp ks cs = some x → CsRel hp ν cs vs → CsRel hp0 ν0 (iWs ks x nm hpc).1 vs → PairP ν0 ν (rowsW ks cs) (rowsW ks (iWs ks x nm hpc).1)
    | [], x, cs, vs, nm, hpc, h, hv, hv0 => by
      match cs, vs, hv with
      | [], [], _ => trivial
      | _ :: _, _, _ => exact no_some (α := Unit) h
    | [k], x, cs, vs, nm, hpc, h, hv, hv0 => by
      match cs, vs, hv with
      | [c], [v], hv =>
        have hq : (iWs [k] x nm hpc).1 = [(iW nm hpc k x).1] := rfl
        rw [hq] at hv0 ⊢
        exact pair_row k x c v nm hpc h hv.1 hv0.1
      | [], _, _ => exact no_some (α := k.T) h
      | _ :: _ :: _, _, _ => exact no_some (α := k.T) h
      | [_], [], hv => exact hv.elim
    | k :: k' :: r, x, cs, vs, nm, hpc, h, hv, hv0 => by
      match cs, vs, hv with
      | c :: cr, v :: vr, hv =>
        rw [mWs_cons] at h
        split at h
        · rename_i a b ha hb
          have h : some (a, b) = some x := h
          injection h with h
          subst h
          have hq : (iWs (k :: k' :: r) (a, b) nm hpc).1 = (iW nm hpc k a).1 :: (iWs (k' :: r) b (iW nm hpc k a).2.1 (iW nm hpc k a).2.2).1 := rfl
          rw [hq] at hv0 ⊢
          rw [rowsW_cons k (k' :: r) c cr, rowsW_cons k (k' :: r) (iW nm hpc k a).1]
          exact pair_app (pair_row k a c v nm hpc ha hv.1 hv0.1) (pair_rows (k' :: r) b cr vr _ _ hb hv.2 hv0.2)
        · exact no_some (α := k.T × WKs (k' :: r)) h
      | [], _, _ => exact no_some (α := k.T × WKs (k' :: r)) h
      | _ :: _, [], hv => exact hv.elim
  pair_row (k : WK) (x : k.T) (c : SC) (v : Value) (nm : Nat) (hpc : Hp) (h : mW hp k c = some x) (hv : CRel hp ν c v) (hv0 : CRel hp0 ν0 (iW nm hpc k x).1 v) : PairP ν0 ν (rowsW [k] [c]) (rowsW [k] [(iW nm hpc k x).1]) := by
    cases k with
    | c k => cases c <;> exact trivial
    | row t e =>
      obtain ⟨n, rfl, _⟩ := mW_row h
      have hv0 : CRel hp0 ν0 (.sl nm) v := hv0
      show PairP ν0 ν [n] [nm]
      obtain ⟨_, h1, _⟩ := hv
      obtain ⟨_, h2, _⟩ := hv0
      exact ⟨h2.symm.trans h1, trivial⟩
    | nrow t e =>
      obtain ⟨n, _, rfl, _⟩ := mW_nrow h
      have hv0 : CRel hp0 ν0 (.sl nm) v := hv0
      show PairP ν0 ν [n] [nm]
      obtain ⟨_, h1, _⟩ := hv
      obtain ⟨_, h2, _⟩ := hv0
      exact ⟨h2.symm.trans h1, trivial⟩
theorem pair_zip {l m : List Nat} : PairP ν0 ν l m → ∀ p q, (p, q) ∈ l.zip m → ν0 q = ν p := by
  intro h p q hpq
  match l, m, h with
  | [], [], _ => simp at hpq
  | a :: l, b :: m, h =>
    simp only [List.zip_cons_cons, List.mem_cons, Prod.mk.injEq] at hpq
    rcases hpq with ⟨rfl, rfl⟩ | hpq
    · exact h.1
    · exact pair_zip h.2 p q hpq
theorem pair_len {l m : List Nat} (h : PairP ν0 ν l m) : ∀ p, p ∈ l → ∃ q, (p, q) ∈ l.zip m := by
  intro p hp
  match l, m, h with
  | a :: l, b :: m, h =>
    cases hp with
    | head => exact ⟨b, by simp⟩
    | tail _ hp =>
      obtain ⟨q, hq⟩ := pair_len h.2 p hp
      exact ⟨q, by simp [hq]⟩
theorem freeN_some {nm : Nat} : ∀ {n : Nat}, freeN hp nm n = true → ∀ k, nm ≤ k → k < nm + n → hp k = .free
  | 0, _, k, h1, h2 => by omega
  | n + 1, h, k, h1, h2 => by
    simp only [freeN] at h
    cases hq : hp (nm + n) with
    | free =>
      rw [hq] at h
      by_cases hk : k = nm + n
      · subst hk; exact hq
      · exact freeN_some h k h1 (by omega)
    | _ => rw [hq] at h; cases h
theorem row_wr : ∀ (ks : List WK) (x : WKs ks) (cs : List SC), mWs hp ks cs = some x → ∀ p, p ∈ rowsW ks cs → wrE (hp p)
  | [], x, cs, h, p, hp' => by cases cs <;> cases hp'
  | [k], x, cs, h, p, hp' => by
    match cs with
    | [c] => exact one_row k x c h p hp'
    | [] => exact no_some (α := k.T) h
    | _ :: _ :: _ => exact no_some (α := k.T) h
  | k :: k' :: r, x, cs, h, p, hp' => by
    match cs with
    | c :: cr =>
      rw [mWs_cons] at h
      split at h
      · rename_i a b ha hb
        rw [rowsW_cons] at hp'
        rcases List.mem_append.1 hp' with hp' | hp'
        · exact one_row k a c ha p hp'
        · exact row_wr (k' :: r) b cr hb p hp'
      · exact no_some (α := k.T × WKs (k' :: r)) h
    | [] => exact no_some (α := k.T × WKs (k' :: r)) h
where
  one_row (k : WK) (x : k.T) (c : SC) (h : mW hp k c = some x) (p : Nat) (hp' : p ∈ rowsW [k] [c]) : wrE (hp p) := by
    cases k with
    | c k => cases c <;> cases hp'
    | row t e =>
      obtain ⟨n, rfl, hr⟩ := mW_row h
      have hp' : p ∈ [n] := hp'
      rw [List.mem_singleton] at hp'
      subst hp'
      rw [hr]
      trivial
    | nrow t e =>
      obtain ⟨n, _, rfl, hr⟩ := mW_nrow h
      have hp' : p ∈ [n] := hp'
      rw [List.mem_singleton] at hp'
      subst hp'
      rw [hr]
      trivial
theorem ptr_box : ∀ (ks : List AK) (x : AKs ks) (sas : List SV), mAs hp ks sas = some x → ∀ p, p ∈ ptrs ks sas → wrE (hp p)
  | [], x, sas, h, p, hp' => by cases sas <;> cases hp'
  | [k], x, sas, h, p, hp' => by
    match sas with
    | [sa] => exact one_box k x sa h p hp'
    | [] => exact no_some (α := k.T) h
    | _ :: _ :: _ => exact no_some (α := k.T) h
  | k :: k' :: r, x, sas, h, p, hp' => by
    match sas with
    | sa :: sar =>
      replace h : ((match mA hp k sa, mAs hp (k' :: r) sar with
        | some a, some b => some (a, b)
        | _, _ => none) : Option (k.T × AKs (k' :: r))) = some x := h
      split at h
      · rename_i a b ha hb
        rw [ptrs_cons] at hp'
        rcases List.mem_append.1 hp' with hp' | hp'
        · exact one_box k a sa ha p hp'
        · exact ptr_box (k' :: r) b sar hb p hp'
      · exact no_some (α := k.T × AKs (k' :: r)) h
    | [] => exact no_some (α := k.T × AKs (k' :: r)) h
where
  one_box (k : AK) (x : k.T) (sa : SV) (h : mA hp k sa = some x) (p : Nat) (hp' : p ∈ ptrs [k] [sa]) : wrE (hp p) := by
    cases k with
    | c k =>
      obtain ⟨y, rfl, _⟩ := mA_c h
      cases hp'
    | agg ks =>
      obtain ⟨cs, rfl, _⟩ := mA_agg h
      cases hp'
    | ptr ks t =>
      obtain ⟨n, cs, rfl, hb, _⟩ := mA_ptr h
      have hp' : p ∈ [n] := hp'
      rw [List.mem_singleton] at hp'
      subst hp'
      rw [hb]
      trivial
    | pw ks t =>
      obtain ⟨n, cs, rfl, hb, _⟩ := mA_pw h
      have hp' : p ∈ [n] := hp'
      rw [List.mem_singleton] at hp'
      subst hp'
      rw [hb]
      trivial
    | w g ks =>
      obtain ⟨cs, rfl, hw⟩ := mA_w h
      have hp' : p ∈ rowsW ks cs ++ [] := hp'
      rw [List.append_nil] at hp'
      exact row_wr ks x cs hw p hp'
theorem hands_wr : ∀ (ks : List AK) (x : AKs ks) (sas : List SV), mAs hp ks sas = some x → ∀ p, p ∈ hands hp ks sas → wrE (hp p)
  | [], x, sas, h, p, hp' => by cases sas <;> cases hp'
  | [k], x, sas, h, p, hp' => by
    match sas with
    | [sa] => exact one_hand k x sa h p hp'
    | [] => exact no_some (α := k.T) h
    | _ :: _ :: _ => exact no_some (α := k.T) h
  | k :: k' :: r, x, sas, h, p, hp' => by
    match sas with
    | sa :: sar =>
      replace h : ((match mA hp k sa, mAs hp (k' :: r) sar with
        | some a, some b => some (a, b)
        | _, _ => none) : Option (k.T × AKs (k' :: r))) = some x := h
      split at h
      · rename_i a b ha hb
        rw [hands_cons] at hp'
        rcases List.mem_append.1 hp' with hp' | hp'
        · exact one_hand k a sa ha p hp'
        · exact hands_wr (k' :: r) b sar hb p hp'
      · exact no_some (α := k.T × AKs (k' :: r)) h
    | [] => exact no_some (α := k.T × AKs (k' :: r)) h
where
  one_hand (k : AK) (x : k.T) (sa : SV) (h : mA hp k sa = some x) (p : Nat) (hp' : p ∈ hands hp [k] [sa]) : wrE (hp p) := by
    cases k with
    | c k =>
      obtain ⟨y, rfl, _⟩ := mA_c h
      cases hp'
    | agg ks =>
      obtain ⟨cs, rfl, _⟩ := mA_agg h
      cases hp'
    | ptr ks t =>
      obtain ⟨n, cs, rfl, hb, _⟩ := mA_ptr h
      have hp' : p ∈ [n] := hp'
      rw [List.mem_singleton] at hp'
      subst hp'
      rw [hb]
      trivial
    | pw ks t =>
      obtain ⟨n, cs, rfl, hb, hw⟩ := mA_pw h
      have hp' : p ∈ n :: ((match hp n with
        | .box cs _ => rowsW ks cs
        | _ => []) ++ []) := hp'
      rw [hb, List.append_nil] at hp'
      cases hp' with
      | head => rw [hb]; trivial
      | tail _ hp' => exact row_wr ks x cs hw p hp'
    | w g ks =>
      obtain ⟨cs, rfl, hw⟩ := mA_w h
      have hp' : p ∈ rowsW ks cs ++ [] := hp'
      rw [List.append_nil] at hp'
      exact row_wr ks x cs hw p hp'
/-- What is handed keeps its name, or it is handed over. -/
theorem hands_one (k : AK) (sa : SV) : hands hp [k] [sa] = ptrs [k] [sa] ++ rels hp [k] [sa] := by
  cases k with
  | pw ks t =>
    match sa with
    | .a false [.ptr n 0] => rfl
    | .a false [.ptr n (m + 1)] => rfl
    | .a false [] => rfl
    | .a false [.any] | .a false [.bool _] | .a false [.int _ _] | .a false [.str _] | .a false [.nilp] | .a false [.sl _] | .a false [.nils] | .a false [.ep _ _ _ _] | .a false [.pj _ _ _ _] | .a false [.pg _ _ _ _] => rfl
    | .a false (x :: _ :: _) => cases x with
      | ptr n m => cases m <;> rfl
      | _ => rfl
    | .a true _ => rfl
    | .any => rfl
    | .tup _ => rfl
  | ptr ks t =>
    match sa with
    | .a false [.ptr n 0] => rfl
    | .a false [.ptr n (m + 1)] => rfl
    | .a false [] => rfl
    | .a false [.any] | .a false [.bool _] | .a false [.int _ _] | .a false [.str _] | .a false [.nilp] | .a false [.sl _] | .a false [.nils] | .a false [.ep _ _ _ _] | .a false [.pj _ _ _ _] | .a false [.pg _ _ _ _] => rfl
    | .a false (x :: _ :: _) => cases x with
      | ptr n m => cases m <;> rfl
      | _ => rfl
    | .a true _ => rfl
    | .any => rfl
    | .tup _ => rfl
  | w g ks =>
    match sa with
    | .a g' cs =>
      show rowsW ks cs ++ [] = (rowsW ks cs ++ []) ++ []
      rw [List.append_nil, List.append_nil]
    | .any => rfl
    | .tup _ => rfl
  | c k => cases sa <;> rfl
  | agg ks => cases sa <;> rfl
theorem hands_nil (ks : List AK) : hands hp ks [] = [] := by
  cases ks with
  | nil => rfl
  | cons k r => cases k <;> rfl
theorem ptrs_nil (ks : List AK) : ptrs ks [] = [] := by
  cases ks with
  | nil => rfl
  | cons k r => cases k <;> rfl
theorem rels_nil (ks : List AK) : rels hp ks [] = [] := by
  cases ks with
  | nil => rfl
  | cons k r => cases k <;> rfl
theorem hands_iff : ∀ (ks : List AK) (sas : List SV) (p : Nat), p ∈ hands hp ks sas ↔ (p ∈ ptrs ks sas ∨ p ∈ rels hp ks sas)
  | [], sas, p => by
    have h1 : hands hp [] sas = [] := by cases sas <;> rfl
    have h2 : ptrs [] sas = [] := by cases sas <;> rfl
    have h3 : rels hp [] sas = [] := by cases sas <;> rfl
    rw [h1, h2, h3]; simp
  | k :: r, [], p => by
    rw [hands_nil, ptrs_nil, rels_nil]; simp
  | k :: r, sa :: sar, p => by
    rw [hands_cons, ptrs_cons, rels_cons, hands_one, List.mem_append, List.mem_append, List.mem_append, List.mem_append, hands_iff r sar p]
    constructor <;> intro h <;> grind
theorem hands_nodup : ∀ (ks : List AK) (sas : List SV), nodupN (hands hp ks sas) = true → nodupN (ptrs ks sas) = true ∧ ∀ p, p ∈ ptrs ks sas → p ∉ rels hp ks sas
  | [], sas, h => by
    have h2 : ptrs [] sas = [] := by cases sas <;> rfl
    rw [h2]
    exact ⟨rfl, fun p hp => by cases hp⟩
  | k :: r, [], h => by
    rw [ptrs_nil]
    exact ⟨rfl, fun p hp => by cases hp⟩
  | k :: r, sa :: sar, h => by
    rw [hands_cons, hands_one] at h
    have h1 := nodup_left h
    obtain ⟨h2, h3⟩ := nodup_app h
    obtain ⟨h4, h5⟩ := hands_nodup r sar h2
    have h6 := nodup_left h1
    obtain ⟨h7, h8⟩ := nodup_app h1
    rw [ptrs_cons, rels_cons]
    refine ⟨nodup_cat h6 h4 fun p hp1 hp2 => h3 p (List.mem_append_left _ hp1) ((hands_iff r sar p).2 (.inl hp2)), fun p hp1 hp2 => ?_⟩
    rcases List.mem_append.1 hp1 with hp1 | hp1
    · rcases List.mem_append.1 hp2 with hp2 | hp2
      · exact h8 p hp1 hp2
      · exact h3 p (List.mem_append_left _ hp1) ((hands_iff r sar p).2 (.inr hp2))
    · rcases List.mem_append.1 hp2 with hp2 | hp2
      · exact h3 p (List.mem_append_right _ hp2) ((hands_iff r sar p).2 (.inl hp1))
      · exact h5 p hp1 hp2
where
  nodup_cat {l m : List Nat} (h1 : nodupN l = true) (h2 : nodupN m = true) (h3 : ∀ p, p ∈ l → p ∉ m) : nodupN (l ++ m) = true := by
    induction l with
    | nil => exact h2
    | cons x l ih =>
      simp only [List.cons_append, nodupN, Bool.and_eq_true, Bool.not_eq_true'] at h1 ⊢
      refine ⟨?_, ih h1.2 fun p hp => h3 p (List.mem_cons_of_mem _ hp)⟩
      cases hx : memN x (l ++ m) with
      | false => rfl
      | true =>
        rcases List.mem_append.1 (memN_iff.1 hx) with h4 | h4
        · rw [memN_iff.2 h4] at h1; cases h1.1
        · exact absurd h4 (h3 x List.mem_cons_self)
theorem hands_noW : ∀ (ks : List AK) (sas : List SV), noW ks = true → hands hp ks sas = ptrs ks sas ∧ rels hp ks sas = []
  | [], sas, h => by cases sas <;> exact ⟨rfl, rfl⟩
  | k :: r, [], h => by rw [hands_nil, ptrs_nil, rels_nil]; exact ⟨rfl, rfl⟩
  | k :: r, sa :: sar, h => by
    have h1 : noW r = true ∧ rels hp [k] [sa] = [] := by
      cases k with
      | w g ks => cases h
      | pw ks t => cases h
      | ptr ks t => exact ⟨h, by cases sa <;> rfl⟩
      | c k => exact ⟨h, by cases sa <;> rfl⟩
      | agg ks => exact ⟨h, by cases sa <;> rfl⟩
    obtain ⟨h2, h3⟩ := hands_noW r sar h1.1
    rw [hands_cons, ptrs_cons, rels_cons, hands_one, h1.2, h2, h3, List.append_nil]
    exact ⟨rfl, rfl⟩
theorem killL_in {l : List Nat} {n : Nat} (h : n ∈ l) : killL l hp n = .dead := by
  induction l with
  | nil => cases h
  | cons x l ih =>
    show upd (killL l hp) x .dead n = .dead
    by_cases hx : n = x
    · subst hx; rw [upd_same]
    · rw [upd_other _ _ hx]
      cases h with
      | head => exact absurd rfl hx
      | tail _ h => exact ih h
theorem killL_out {l : List Nat} {n : Nat} (h : n ∉ l) : killL l hp n = hp n := by
  induction l with
  | nil => rfl
  | cons x l ih =>
    show upd (killL l hp) x .dead n = hp n
    have hx : n ≠ x := fun e => by subst e; exact h List.mem_cons_self
    rw [upd_other _ _ hx]
    exact ih fun hh => h (List.mem_cons_of_mem _ hh)
theorem killL_ext (l : List Nat) : Ext hp ν (killL l hp) ν := ⟨fun n hn => ⟨by
  by_cases h : n ∈ l
  · rw [killL_in h]; simp
  · rw [killL_out h]; exact hn, rfl⟩⟩
theorem Mem.killL (h : Mem base G w0 w hp ν) (l : List Nat) : Mem base G w0 w (Sx.killL l hp) ν := by
  induction l with
  | nil => exact h
  | cons x l ih => exact ih.kill x
theorem NestOK.killL {B : Nat → Prop} (h : NestOK base G w hp ν B) (l : List Nat) : NestOK base G w (Sx.killL l hp) ν B := by
  induction l with
  | nil => exact h
  | cons x l ih => exact ih.turn (by simp) trivial (fun q => q.elim)
/-- Where no rows are handed all that is handed are boxes. -/
theorem ptr_box' : ∀ (ks : List AK) (x : AKs ks) (sas : List SV), noW ks = true → mAs hp ks sas = some x → ∀ p, p ∈ ptrs ks sas → boxE (hp p)
  | [], x, sas, _, h, p, hp' => by cases sas <;> cases hp'
  | [k], x, sas, hw, h, p, hp' => by
    match sas with
    | [sa] => exact one_box k x sa hw h p hp'
    | [] => exact no_some (α := k.T) h
    | _ :: _ :: _ => exact no_some (α := k.T) h
  | k :: k' :: r, x, sas, hw, h, p, hp' => by
    have hw1 : noW [k] = true ∧ noW (k' :: r) = true := by
      cases k with
      | w g ks => cases hw
      | pw ks t => cases hw
      | _ => exact ⟨rfl, hw⟩
    match sas with
    | sa :: sar =>
      replace h : ((match mA hp k sa, mAs hp (k' :: r) sar with
        | some a, some b => some (a, b)
        | _, _ => none) : Option (k.T × AKs (k' :: r))) = some x := h
      split at h
      · rename_i a b ha hb
        rw [ptrs_cons] at hp'
        rcases List.mem_append.1 hp' with hp' | hp'
        · exact one_box k a sa hw1.1 ha p hp'
        · exact ptr_box' (k' :: r) b sar hw1.2 hb p hp'
      · exact no_some (α := k.T × AKs (k' :: r)) h
    | [] => exact no_some (α := k.T × AKs (k' :: r)) h
where
  one_box (k : AK) (x : k.T) (sa : SV) (hw : noW [k] = true) (h : mA hp k sa = some x) (p : Nat) (hp' : p ∈ ptrs [k] [sa]) : boxE (hp p) := by
    cases k with
    | c k =>
      obtain ⟨y, rfl, _⟩ := mA_c h
      cases hp'
    | agg ks =>
      obtain ⟨cs, rfl, _⟩ := mA_agg h
      cases hp'
    | ptr ks t =>
      obtain ⟨n, cs, rfl, hb, _⟩ := mA_ptr h
      have hp' : p ∈ [n] := hp'
      rw [List.mem_singleton] at hp'
      subst hp'
      rw [hb]
      trivial
    | w g ks => cases hw
    | pw ks t => cases hw
end
theorem nmC_sl : ∀ (ks : List WK) (cs : List SC) (p : Nat), p ∈ rowsW ks cs → p ∈ nmC cs
  | [], cs, p, h => by cases cs <;> cases h
  | k :: r, [], p, h => by cases k <;> cases h
  | k :: r, c :: cr, p, h => by
    rw [rowsW_cons] at h
    rcases List.mem_append.1 h with h | h
    · cases k with
      | c k => cases c <;> cases h
      | row t e =>
        cases c with
        | sl n =>
          have h : p ∈ [n] := h
          rw [List.mem_singleton] at h
          subst h
          exact List.mem_cons_self
        | _ => cases h
      | nrow t e =>
        cases c with
        | sl n =>
          have h : p ∈ [n] := h
          rw [List.mem_singleton] at h
          subst h
          exact List.mem_cons_self
        | _ => cases h
    · have := nmC_sl r cr p h
      cases c <;> first | exact this | exact List.mem_cons_of_mem _ this
theorem ptr_slA : ∀ (ks : List AK) (sas : List SV) (p : Nat), p ∈ ptrs ks sas → p ∈ slA sas
  | [], sas, p, h => by cases sas <;> cases h
  | k :: r, [], p, h => by cases k <;> cases h
  | k :: r, sa :: sar, p, h => by
    rw [ptrs_cons] at h
    have hr := fun h => ptr_slA r sar p h
    rcases List.mem_append.1 h with h | h
    · cases k with
      | c k => cases sa <;> cases h
      | agg ks => cases sa <;> cases h
      | ptr ks t =>
        match sa, h with
        | .a false [.ptr n 0], h =>
          have h : p ∈ [n] := h
          rw [List.mem_singleton] at h
          subst h
          exact List.mem_cons_self
      | pw ks t =>
        match sa, h with
        | .a false [.ptr n 0], h =>
          have h : p ∈ [n] := h
          rw [List.mem_singleton] at h
          subst h
          exact List.mem_cons_self
      | w g ks =>
        cases sa with
        | a g' cs =>
          have h : p ∈ rowsW ks cs ++ [] := h
          rw [List.append_nil] at h
          exact List.mem_append_left _ (nmC_sl ks cs p h)
        | any => cases h
        | tup _ => cases h
    · have := hr h
      cases sa <;> first | exact this | exact List.mem_append_right _ this
theorem mAs_len {hp : Hp} : ∀ (ks : List AK) (x : AKs ks) (sas : List SV), mAs hp ks sas = some x → sas.length = ks.length
  | [], x, sas, h => by
    cases sas with
    | nil => rfl
    | cons _ _ => exact no_some (α := Unit) h
  | [k], x, sas, h => by
    match sas with
    | [_] => rfl
    | [] => exact no_some (α := k.T) h
    | _ :: _ :: _ => exact no_some (α := k.T) h
  | k :: k' :: r, x, sas, h => by
    match sas with
    | sa :: sar =>
      replace h : ((match mA hp k sa, mAs hp (k' :: r) sar with
        | some a, some b => some (a, b)
        | _, _ => none) : Option (k.T × AKs (k' :: r))) = some x := h
      split at h
      · rename_i a b ha hb
        have := mAs_len (k' :: r) b sar hb
        simp at this ⊢
        omega
      · exact no_some (α := k.T × AKs (k' :: r)) h
    | [] => exact no_some (α := k.T × AKs (k' :: r)) h
theorem pair_sub {νF ν0 ν : Nat → Value} : ∀ {l m : List Nat}, PairP ν0 ν l m → (∀ q, q ∈ m → νF q = ν0 q) → PairP νF ν l m
  | [], [], _, _ => trivial
  | _ :: _, q :: _, h, hh => ⟨(hh q List.mem_cons_self).trans h.1, pair_sub h.2 fun q hq => hh q (List.mem_cons_of_mem _ hq)⟩
/-- What a begin has named is never free again. -/
theorem iC_keep (k : CK) (x : k.T) (nm : Nat) (hpc : Hp) (n : Nat) (h : hpc n ≠ .free) : (iC nm hpc k x).2.2 n ≠ .free := by
  cases k with
  | sl t =>
    show (upd hpc nm (.ro t x 0)) n ≠ .free
    by_cases hn : n = nm
    · subst hn; rw [upd_same]; simp
    · rw [upd_other _ _ hn]; exact h
  | nsl t =>
    show (upd (upd hpc nm (.nro t x 0)) (nm + 1) .gh) n ≠ .free
    by_cases hn : n = nm + 1
    · subst hn; rw [upd_same]; simp
    · rw [upd_other _ _ hn]
      by_cases hn : n = nm
      · subst hn; rw [upd_same]; simp
      · rw [upd_other _ _ hn]; exact h
  | _ => exact h
theorem iCs_keep : ∀ (ks : List CK) (x : CKs ks) (nm : Nat) (hpc : Hp) (n : Nat), hpc n ≠ .free → (iCs ks x nm hpc).2.2 n ≠ .free
  | [], _, _, _, _, h => h
  | [k], x, nm, hpc, n, h => iC_keep k x nm hpc n h
  | k :: k' :: r, x, nm, hpc, n, h => iCs_keep (k' :: r) x.2 (iC nm hpc k x.1).2.1 (iC nm hpc k x.1).2.2 n (iC_keep k x.1 nm hpc n h)
theorem iW_keep (k : WK) (x : k.T) (nm : Nat) (hpc : Hp) (n : Nat) (h : hpc n ≠ .free) : (iW nm hpc k x).2.2 n ≠ .free := by
  cases k with
  | c k => exact iC_keep k x nm hpc n h
  | row t e =>
    show (upd hpc nm (.row t x e)) n ≠ .free
    by_cases hn : n = nm
    · subst hn; rw [upd_same]; simp
    · rw [upd_other _ _ hn]; exact h
  | nrow t e =>
    show (upd (upd hpc nm (.nrow true t x e)) (nm + 1) (.gho t x)) n ≠ .free
    by_cases hn : n = nm + 1
    · subst hn; rw [upd_same]; simp
    · rw [upd_other _ _ hn]
      by_cases hn : n = nm
      · subst hn; rw [upd_same]; simp
      · rw [upd_other _ _ hn]; exact h
theorem iWs_keep : ∀ (ks : List WK) (x : WKs ks) (nm : Nat) (hpc : Hp) (n : Nat), hpc n ≠ .free → (iWs ks x nm hpc).2.2 n ≠ .free
  | [], _, _, _, _, h => h
  | [k], x, nm, hpc, n, h => iW_keep k x nm hpc n h
  | k :: k' :: r, x, nm, hpc, n, h => iWs_keep (k' :: r) x.2 (iW nm hpc k x.1).2.1 (iW nm hpc k x.1).2.2 n (iW_keep k x.1 nm hpc n h)
theorem iWs_name : ∀ (ks : List WK) (x : WKs ks) (nm : Nat) (hpc : Hp) (q : Nat), q ∈ rowsW ks (iWs ks x nm hpc).1 → (iWs ks x nm hpc).2.2 q ≠ .free
  | [], _, _, _, _, h => by cases h
  | [k], x, nm, hpc, q, h => one k x nm hpc q h
  | k :: k' :: r, x, nm, hpc, q, h => by
    have hq : (iWs (k :: k' :: r) x nm hpc).1 = (iW nm hpc k x.1).1 :: (iWs (k' :: r) x.2 (iW nm hpc k x.1).2.1 (iW nm hpc k x.1).2.2).1 := rfl
    rw [hq, rowsW_cons] at h
    show (iWs (k' :: r) x.2 (iW nm hpc k x.1).2.1 (iW nm hpc k x.1).2.2).2.2 q ≠ .free
    rcases List.mem_append.1 h with h | h
    · exact iWs_keep (k' :: r) x.2 _ _ q (one k x.1 nm hpc q h)
    · exact iWs_name (k' :: r) x.2 _ _ q h
where
  one (k : WK) (x : k.T) (nm : Nat) (hpc : Hp) (q : Nat) (h : q ∈ rowsW [k] [(iW nm hpc k x).1]) : (iW nm hpc k x).2.2 q ≠ .free := by
    cases k with
    | c k =>
      have : ∀ y : SC, rowsW [WK.c k] [y] = [] := fun y => by cases y <;> rfl
      rw [this] at h
      cases h
    | row t e =>
      have h : q ∈ [nm] := h
      rw [List.mem_singleton] at h
      subst h
      show (upd hpc q (.row t x e)) q ≠ .free
      rw [upd_same]; simp
    | nrow t e =>
      have h : q ∈ [nm] := h
      rw [List.mem_singleton] at h
      subst h
      show (upd (upd hpc q (.nrow true t x e)) (q + 1) (.gho t x)) q ≠ .free
      rw [upd_other _ _ (by omega), upd_same]; simp
theorem iA_keep (k : AK) (x : k.T) (nm : Nat) (hpc : Hp) (n : Nat) (h : hpc n ≠ .free) : (iA k x nm hpc).2.2 n ≠ .free := by
  cases k with
  | c k => exact iC_keep k x nm hpc n h
  | agg ks => exact iCs_keep ks x nm hpc n h
  | ptr ks t =>
    show (upd (iCs ks x (nm + 1) hpc).2.2 nm (.box (iCs ks x (nm + 1) hpc).1 t)) n ≠ .free
    by_cases hn : n = nm
    · subst hn; rw [upd_same]; simp
    · rw [upd_other _ _ hn]; exact iCs_keep ks x (nm + 1) hpc n h
  | w g ks => exact iWs_keep ks x nm hpc n h
  | pw ks t =>
    show (upd (iWs ks x (nm + 1) hpc).2.2 nm (.box (iWs ks x (nm + 1) hpc).1 t)) n ≠ .free
    by_cases hn : n = nm
    · subst hn; rw [upd_same]; simp
    · rw [upd_other _ _ hn]; exact iWs_keep ks x (nm + 1) hpc n h
theorem iAs_keep : ∀ (ks : List AK) (x : AKs ks) (nm : Nat) (hpc : Hp) (n : Nat), hpc n ≠ .free → (iAs ks x nm hpc).2.2 n ≠ .free
  | [], _, _, _, _, h => h
  | [k], x, nm, hpc, n, h => iA_keep k x nm hpc n h
  | k :: k' :: r, x, nm, hpc, n, h => iAs_keep (k' :: r) x.2 (iA k x.1 nm hpc).2.1 (iA k x.1 nm hpc).2.2 n (iA_keep k x.1 nm hpc n h)
theorem iA_name (k : AK) (x : k.T) (nm : Nat) (hpc : Hp) (q : Nat) (h : q ∈ ptrs [k] [(iA k x nm hpc).1]) : (iA k x nm hpc).2.2 q ≠ .free := by
  cases k with
  | c k => cases h
  | agg ks => cases h
  | ptr ks t =>
    have h : q ∈ [nm] := h
    rw [List.mem_singleton] at h
    subst h
    show (upd (iCs ks x (q + 1) hpc).2.2 q (.box (iCs ks x (q + 1) hpc).1 t)) q ≠ .free
    rw [upd_same]; simp
  | pw ks t =>
    have h : q ∈ [nm] := h
    rw [List.mem_singleton] at h
    subst h
    show (upd (iWs ks x (q + 1) hpc).2.2 q (.box (iWs ks x (q + 1) hpc).1 t)) q ≠ .free
    rw [upd_same]; simp
  | w g ks =>
    have h : q ∈ rowsW ks (iWs ks x nm hpc).1 ++ [] := h
    rw [List.append_nil] at h
    exact iWs_name ks x nm hpc q h
theorem ptr_name : ∀ (ks : List AK) (x : AKs ks) (nm : Nat) (hpc : Hp) (q : Nat), q ∈ ptrs ks (iAs ks x nm hpc).1 → (iAs ks x nm hpc).2.2 q ≠ .free
  | [], _, _, _, _, h => by cases h
  | [k], x, nm, hpc, q, h => iA_name k x nm hpc q h
  | k :: k' :: r, x, nm, hpc, q, h => by
    have hq : (iAs (k :: k' :: r) x nm hpc).1 = (iA k x.1 nm hpc).1 :: (iAs (k' :: r) x.2 (iA k x.1 nm hpc).2.1 (iA k x.1 nm hpc).2.2).1 := rfl
    rw [hq, ptrs_cons] at h
    show (iAs (k' :: r) x.2 (iA k x.1 nm hpc).2.1 (iA k x.1 nm hpc).2.2).2.2 q ≠ .free
    rcases List.mem_append.1 h with h | h
    · exact iAs_keep (k' :: r) x.2 _ _ q (iA_name k x.1 nm hpc q h)
    · exact ptr_name (k' :: r) x.2 _ _ q h
theorem ptr_name0 (ks : List AK) (x : AKs ks) (nm : Nat) (hpc : Hp) (q : Nat) (h : q ∈ ptrs ks (iAs ks x nm hpc).1) : (iAs ks x nm hpc).2.2 q ≠ .free := ptr_name ks x nm hpc q h
end Go.Sx
/- A function keeps its contract: the whole of it. -/
set_option linter.unusedVariables false
set_option linter.unusedSimpArgs false
namespace Go.Sx
/-- The results, as the machine hands them. -/
theorem res_run {P : Program} {A : Cx} {σ : St} {a : Act} {w : World} {ν : Nat → Value} (hH : HoldsAt A σ a w ν) : ∀ (rs : List ResultVar) (vs : List SV), resOf P σ rs = some vs →
    ∃ us, (rs.mapM (fun (r : ResultVar) => match r with
      | .tmp t => (pure (a.tmps.getD t undef) : Sem Value)
      | .cell ad t => do loadVar t (← asAddr (a.tmps.getD ad undef)))).run P w = .ok us w ∧ VsRel σ.hp ν vs us
  | [], vs, h => by
    simp only [resOf, Option.some.injEq] at h
    subst h
    exact ⟨[], by simp, trivial⟩
  | .tmp t :: r, vs, h => by
    simp only [resOf] at h
    split at h
    · rename_i vs' hr
      simp only [Option.some.injEq] at h
      subst h
      obtain ⟨us, h1, h2⟩ := res_run hH r vs' hr
      exact ⟨a.tmps.getD t undef :: us, by rw [List.mapM_cons]; simp only [Sem.run_bind, Sem.run_pure, Result.andThen_ok, h1], ⟨hH.tm t, h2⟩⟩
    · cases h
  | .cell ad t :: r, vs, h => by
    simp only [resOf] at h
    split at h
    · rename_i c v hp' vs' hl hr
      simp only [Option.some.injEq] at h
      subst h
      obtain ⟨us, h1, h2⟩ := res_run hH r vs' hr
      obtain ⟨p, u, hp1, hp2, hp3, _, _⟩ := load_core (w := w) hl (hH.tm ad) hH.mem
      refine ⟨u :: us, ?_, ⟨hp3, h2⟩⟩
      rw [List.mapM_cons]
      have : (do loadVar t (← asAddr (a.tmps.getD ad undef)) : Sem Value).run P w = .ok u w := by
        rw [hp1]; simpa [asAddr] using hp2
      simp only [Sem.run_bind] at this ⊢
      rw [this]
      simp only [Result.andThen_ok, h1, Sem.run_pure]
    · cases h
theorem results_run {P : Program} {A : Cx} {σ : St} {a : Act} {w : World} {ν : Nat → Value} (hH : HoldsAt A σ a w ν) {fn : Func} {vs : List SV} (h : resOf P σ fn.results.toList = some vs) :
    ∃ us, VsRel σ.hp ν vs us ∧ (results fn a.tmps).run P w = .ok (match us with | [u] => u | us => .tuple us.toArray) w := by
  obtain ⟨us, h1, h2⟩ := res_run hH fn.results.toList vs h
  refine ⟨us, h2, ?_⟩
  unfold results
  rw [Array.mapM_eq_mapM_toList]
  simp only [Sem.run_bind]
  have h3 : (List.toArray <$> fn.results.toList.mapM (fun (r : ResultVar) => match r with
      | .tmp t => (pure (a.tmps.getD t undef) : Sem Value)
      | .cell ad t => do loadVar t (← asAddr (a.tmps.getD ad undef)))).run P w = .ok us.toArray w := by
    rw [map_eq_pure_bind]
    simp only [Sem.run_bind, h1, Result.andThen_ok, Sem.run_pure]
  refine (congrArg (fun r => Result.andThen r _) h3).trans ?_
  simp only [Result.andThen_ok, Sem.run_pure]
  match us with
  | [] => rfl
  | [u] => rfl
  | _ :: _ :: _ => rfl
theorem con_sound {P : Program} {f : FuncId} {fn : Func} {c : Code} (con : Con) (F : Fix (OKs con.rk)) (hFP : F.P = P) (hf : P.funcs[f]? = some fn) (hname : (fn.name == "runtime.NumGoroutine") = false) (hb : fn.body = some c)
    (hN : F.N = fn.ntmps) (hak : con.ak.length ≤ fn.ntmps) (hG : ∀ f con', F.G f = some con' → CtrOK P f con') (hD : ∀ A : Cx, A.N = F.N → DrawOK F A)
    (hden : ∀ k x b, con.fn k x = some b → denF (F.C k) con (F.L k) c fn.results.toList x = some b)
    (hsites : ∀ x, ∀ A : Cx, A.hp0 = (st0 con.ak x).hp → A.N = F.N → ∀ p ∈ sites F c (fun k => kret (F.C k) con fn.results.toList (args0 con.ak x) (st0 con.ak x).hp), SiteOK F A p) : CtrOK P f con := by
  subst hFP
  refine ⟨⟨fn, hf, hname, by rw [hb]; rfl⟩, ?_⟩
  intro k x b hfn base G w0 w hp ν args vargs nm hm hargs hmA hap hfree
  have hap' := hap
  unfold apN at hap'
  rw [Bool.and_eq_true, Bool.and_eq_true, Bool.or_eq_true] at hap'
  obtain ⟨hnd, hrd, hwp⟩ := hap'
  obtain ⟨B, hNB⟩ := hm.nest
  have hwrH := hands_wr con.ak x args hmA
  obtain ⟨hndp, hdis⟩ := hands_nodup (hp := hp) con.ak args hnd
  have hwrR : ∀ p, p ∈ rels hp con.ak args → wrE (hp p) := fun p h => hwrH p ((hands_iff con.ak args p).2 (.inr h))
  obtain ⟨hpR, hpRe⟩ : ∃ q, q = relH con.ak args hp := ⟨_, rfl⟩
  have hRin : ∀ m, m ∈ rels hp con.ak args → hpR m = .dead := fun m h => by rw [hpRe]; exact killL_in h
  have hRout : ∀ m, m ∉ rels hp con.ak args → hpR m = hp m := fun m h => by rw [hpRe]; exact killL_out h
  have hmR : Mem base G w0 w hpR ν := by rw [hpRe]; exact hm.killL _
  have hNBR : NestOK base G w hpR ν B := by rw [hpRe]; exact hNB.killL _
  have hxR : Ext hp ν hpR ν := by rw [hpRe]; exact killL_ext _
  have hargsR : VsRel hpR ν args vargs.toList := vs_mono hxR hargs
  have hboxR : ∀ p, p ∈ ptrs con.ak args → wrE (hpR p) := fun p h => by rw [hRout p (hdis p h)]; exact ptr_box con.ak x args hmA p h
  have hlvR : ∀ m, lvE (hpR m) → lvE (hp m) ∧ m ∉ rels hp con.ak args := fun m h => by
    have h1 : m ∉ rels hp con.ak args := fun h2 => by rw [hRin m h2] at h; exact h
    rw [hRout m h1] at h
    exact ⟨h, h1⟩
  have hrelS : ∀ r, r ∈ rels hp con.ak args → ∀ g, blk (ν r) = some g → ∀ m, lvE (hpR m) → blk (ν m) ≠ some g := fun r hr g hg m hlm => by
    obtain ⟨h1, h2⟩ := hlvR m hlm
    exact hm.sep r m (fun e => by subst e; exact h2 hr) (hwrR r hr) h1 g hg
  -- the begin
  obtain ⟨νc, done, hB, hv0, _, _⟩ := Beg.args (G' := ⟨G0 ν (hands hp con.ak args), B⟩) (H := hands hp con.ak args) hm con.ak x args vargs.toList 0 (fun _ => .free) (fun _ => .nilFunc) [] _ _ _ (beg0 hNB _ (fun _ h => h) _) hmA hargs
    (fun n hn hin => by
      have h1 := List.all_eq_true.1 hrd n hn
      rw [memN_iff.2 hin] at h1
      cases h1) (hwp.symm.imp id (fun h p hp' => ptr_box' con.ak x args h hmA p (by rw [← (hands_noW con.ak args h).1]; exact hp'))) hnd
    (fun p hp' => ⟨by simp, hp', fun g hg => ⟨p, hp', hg⟩⟩) (rfl : iAs con.ak x 0 (fun _ => .free) = ((iAs con.ak x 0 (fun _ => .free)).1, (iAs con.ak x 0 (fun _ => .free)).2.1, (iAs con.ak x 0 (fun _ => .free)).2.2))
  have hst : st0 con.ak x = ⟨tmOf (iAs con.ak x 0 (fun _ => .free)).1, (iAs con.ak x 0 (fun _ => .free)).2.2, (iAs con.ak x 0 (fun _ => .free)).2.1⟩ := rfl
  have hargs0 : args0 con.ak x = (iAs con.ak x 0 (fun _ => .free)).1 := rfl
  have hvl : vargs.size = con.ak.length := by
    have h1 := vs_len hargs
    have h2 := mAs_len con.ak x args hmA
    simp at h1
    omega
  let A : Cx := ⟨w.heap.size, ⟨G0 ν (hands hp con.ak args), B⟩, w, (st0 con.ak x).hp, νc, F.N⟩
  have hH0 : HoldsAt A (st0 con.ak x) { tmps := vargs ++ Array.replicate (fn.ntmps - vargs.size) undef, defers := [] } w νc := by
    refine ⟨fun t => ?_, hB.mem, .refl _ _, rfl, ?_⟩
    · rw [hst]
      show VRel _ νc (tmOf (iAs con.ak x 0 (fun _ => .free)).1 t) _
      unfold tmOf
      by_cases ht : t < vargs.size
      · obtain ⟨y, v, h1, h2, h3⟩ := vs_get hv0 (i := t) (by simpa using ht)
        rw [List.getD_eq_getElem?_getD, h1]
        have h4 : (vargs ++ Array.replicate (fn.ntmps - vargs.size) undef).getD t undef = v := by
          rw [Array.getD_eq_getD_getElem?, Array.getElem?_append_left ht]
          have : vargs[t]? = some v := by simpa using h2
          rw [this]; rfl
        rw [h4]
        exact h3
      · have h1 : (iAs con.ak x 0 (fun _ => .free)).1[t]? = none := by
          rw [List.getElem?_eq_none]
          have := vs_len hv0
          simp at this
          omega
        rw [List.getD_eq_getElem?_getD, h1]
        have h4 : (vargs ++ Array.replicate (fn.ntmps - vargs.size) undef).getD t undef = undef := by
          rw [Array.getD_eq_getD_getElem?, Array.getElem?_append_right (by omega)]
          by_cases h5 : t - vargs.size < fn.ntmps - vargs.size
          · simp [h5]
          · rw [Array.getElem?_eq_none (by simp; omega)]; rfl
        rw [h4]
        exact undef_rel _ _
    · show (vargs ++ Array.replicate (fn.ntmps - vargs.size) undef).size = F.N
      rw [hN]
      simp
      omega
  -- the end
  rw [← hpRe]
  have hend : ∀ (k' : Nat) (e : Exit) (σ : St) (a : Act) (w' : World), kret (F.C k') con fn.results.toList (args0 con.ak x) (st0 con.ak x).hp e σ = some b → Holds A σ a w' →
      bodyPost F.P fn (fun e w' => ∃ v ν', e = .returned v ∧ VRel (inOs args con.nres (ptrs con.ak args) con.rk b nm hpR).2 ν' (resV con.nres (inOs args con.nres (ptrs con.ak args) con.rk b nm hpR).1) v ∧
        Mem base G w0 w' (inOs args con.nres (ptrs con.ak args) con.rk b nm hpR).2 ν' ∧ Ext hp ν (inOs args con.nres (ptrs con.ak args) con.rk b nm hpR).2 ν') e a w' := by
    intro k' e σ a w' hk hH
    obtain ⟨νF, hH⟩ := hH
    have core : (match resOf F.P σ fn.results.toList with
        | some vs => cnd ((ptrs con.ak (args0 con.ak x)).all (fun p => isBox (σ.hp p)) && Nat.beq vs.length con.nres) (exOs (args0 con.ak x) (st0 con.ak x).hp (ptrs con.ak (args0 con.ak x)) vs (ptrs con.ak (args0 con.ak x)) con.rk σ.hp) none
        | none => none) = some b → a.defers = [] ∧ ∃ v, (results fn a.tmps).run F.P w' = .ok v w' ∧ ∃ v_1 ν', Ending.returned v = .returned v_1 ∧ VRel (inOs args con.nres (ptrs con.ak args) con.rk b nm hpR).2 ν' (resV con.nres (inOs args con.nres (ptrs con.ak args) con.rk b nm hpR).1) v_1 ∧
        Mem base G w0 w' (inOs args con.nres (ptrs con.ak args) con.rk b nm hpR).2 ν' ∧ Ext hp ν (inOs args con.nres (ptrs con.ak args) con.rk b nm hpR).2 ν' := by
      intro hcore
      refine ⟨hH.defers, ?_⟩
      split at hcore
      case h_2 => cases hcore
      rename_i vs hvs
      cases hc : ((ptrs con.ak (args0 con.ak x)).all (fun p => isBox (σ.hp p)) && Nat.beq vs.length con.nres) with
      | false => rw [hc] at hcore; exact no_some hcore
      | true =>
        rw [hc] at hcore
        have hex : exOs (args0 con.ak x) (st0 con.ak x).hp (ptrs con.ak (args0 con.ak x)) vs (ptrs con.ak (args0 con.ak x)) con.rk σ.hp = some b := hcore
        rw [Bool.and_eq_true] at hc
        have hlen := Nat.eq_of_beq_eq_true hc.2
        obtain ⟨us, hus, hrun⟩ := results_run (P := F.P) hH hvs
        obtain ⟨Bc, hNc⟩ := hH.mem.nest
        let N : Fin := ⟨base, G, w0, w, w', hpR, ν, νF, νc, ptrs con.ak args, nm + OK.news con.rk, ptrs con.ak (args0 con.ak x), B, Bc, rels hp con.ak args, hands hp con.ak args⟩
        have hpairs := pair_args (hp := hp) (ν := ν) (hp0 := (iAs con.ak x 0 (fun _ => .free)).2.2) (ν0 := νc) con.ak x args vargs.toList 0 (fun _ => .free) hmA hargs hv0
        have hextF : ∀ q, (st0 con.ak x).hp q ≠ .free → νF q = νc q := fun q hq => (hH.ext.keep q hq).2
        have hbox0 : ∀ p0, p0 ∈ ptrs con.ak (args0 con.ak x) → ∃ p, p ∈ ptrs con.ak args ∧ True := fun _ _ => by
          cases hpp : ptrs con.ak args with
          | nil => rw [hpp] at hpairs; rename_i p0 hp0; cases hq : ptrs con.ak (iAs con.ak x 0 (fun _ => .free)).1 with
            | nil => rw [hargs0, hq] at hp0; cases hp0
            | cons _ _ => rw [hq] at hpairs; exact hpairs.elim
          | cons p _ => exact ⟨p, List.mem_cons_self, trivial⟩
        have hpairF : PairP νF ν (ptrs con.ak args) (ptrs con.ak (args0 con.ak x)) :=
          pair_sub hpairs (fun q hq => hextF q (ptr_name0 con.ak x 0 (fun _ => .free) q hq))
        have hNok : FinOK N := ⟨hmR, hboxR, hpairF.mem, hNBR, fun r hr g hg => ⟨hrelS r hr g hg, hm.mine r (hwrR r hr) g hg, blk_lt (hm.ent r) (hwrR r hr).lv g hg, hNB.sep r (hwrR r hr) g hg⟩,
          fun p h => (hands_iff con.ak args p).1 h⟩
        have hqs : ∀ q, q ∈ N.qs → q ∈ slA (args0 con.ak x) := fun q hq => ptr_slA con.ak (args0 con.ak x) q hq
        have hal : ∀ i j q, cellOf (args0 con.ak x) i j = .sl q → CRel hpR ν (cellOf args i j) (νF q) := by
          intro i j q hq
          obtain ⟨h1, h2⟩ := cell_both (hp0 := (iAs con.ak x 0 (fun _ => .free)).2.2) hv0 hargsR hq
          rw [hextF q h2]
          exact h1
        have hold : ∀ p p0, (p, p0) ∈ (ptrs con.ak args).zip (ptrs con.ak (args0 con.ak x)) → ∀ old0 t0 old t1, (st0 con.ak x).hp p0 = .box old0 t0 → hpR p = .box old t1 → OldRel N old0 old := by
          intro p p0 hpp old0 t0 old t1 hb0 hb1 j q hj
          have he := pair_zip hpairs p p0 hpp
          have h1 := hB.mem.ent p0
          have hb0' : (iAs con.ak x 0 (fun _ => .free)).2.2 p0 = .box old0 t0 := hb0
          rw [hb0'] at h1
          obtain ⟨g, vs0, hg, hheap, hcs⟩ := h1
          have h2 := hmR.ent p
          rw [hb1] at h2
          obtain ⟨g', vs1, hg', hheap', hcs'⟩ := h2
          rw [← he, hg] at hg'
          simp only [Value.pointer.injEq, Option.some.injEq, Addr.mk.injEq, and_true] at hg'
          subst hg'
          rw [hheap] at hheap'
          simp only [Option.some.injEq, Obj.cells.injEq, and_true] at hheap'
          obtain ⟨rfl, _⟩ := hheap'
          obtain ⟨u, hu, hur⟩ := hcs.get hj
          obtain ⟨hnf, hue, A', l', c', hus'⟩ := hur
          show CRel hpR ν (old.getD j .any) (νF q)
          rw [hextF q hnf, ← hue]
          exact cs_getD hcs' hu (by rw [hus']; rfl)
        -- the caller's memory, but for the boxes that were handed
        have hfr : ∀ m, lvE (deadOf (ptrs con.ak args) hpR m) → ∀ g, blk (ν m) = some g → w'.heap[g]? = w.heap[g]? := by
          intro m hlm g hg
          have hmr : m ∉ ptrs con.ak args := fun h => by rw [deadOf_in h] at hlm; exact hlm
          rw [deadOf_out hmr] at hlm
          have hlt := blk_lt (hmR.ent m) hlm g hg
          refine hH.mem.fr.block g hlt ?_
          rintro ⟨p, hp', hpg⟩
          rcases (hands_iff con.ak args p).1 hp' with hp' | hp'
          · exact hmR.sep p m (fun e => by subst e; exact hmr hp') (hboxR p hp') hlm g hpg hg
          · exact hrelS p hp' g hpg m hlm hg
        have hdead := deadOf_ext (ν := ν) (rem := ptrs con.ak args) (hp := hpR) (fun p hp' hh => by
          have := hboxR p hp'
          rw [hh] at this
          exact this)
        have hlv : ∀ m, lvE (deadOf (ptrs con.ak args) hpR m) → lvE (hpR m) ∧ m ∉ ptrs con.ak args := by
          intro m hlm
          have hmr : m ∉ ptrs con.ak args := fun h => by rw [deadOf_in h] at hlm; exact hlm
          rw [deadOf_out hmr] at hlm
          exact ⟨hlm, hmr⟩
        have hBf : ∀ b, B b → w'.heap[b]? = w.heap[b]? := fun b hb => by
          refine hH.mem.fr.block b (hNB.lt b hb) ?_
          rintro ⟨p, hp', hpg⟩
          exact hNB.sep p (hwrH p hp') b hpg hb
        have hnstC : NestOK base G w' (deadOf (ptrs con.ak args) hpR) ν N.B' := by
          refine ⟨fun n => ?_, fun n hwn g hg => ?_, fun b hb => ?_, fun b hb hlt => ?_⟩
          · by_cases hn : n ∈ ptrs con.ak args
            · rw [deadOf_in hn]; trivial
            · have h2 := (hNBR.rel n).frame (w' := w') (base' := base) (G' := G) (B' := N.B') (hp' := deadOf (ptrs con.ak args) hpR) (ν' := ν) rfl (fun q => hdead.1.keep _ q) (fun hl g hg => hfr n (by rw [deadOf_out hn]; exact hl) g hg) (fun b hb => ⟨.inl hb, hBf b hb⟩)
              rw [deadOf_out hn]
              exact h2
          · have h1 := hlv n hwn.lv
            have hwn' : wrE (hpR n) := by rw [deadOf_out h1.2] at hwn; exact hwn
            rintro (h2 | ⟨h2 | ⟨r, hr, hrg⟩, _⟩)
            · exact hNBR.sep n hwn' g hg h2
            · have := blk_lt (hmR.ent n) h1.1 g hg
              have h2 : w.heap.size ≤ g := h2
              omega
            · exact hrelS r hr g hrg n h1.1 hg
          · rcases hb with h1 | ⟨_, h1⟩
            · exact Nat.lt_of_lt_of_le (hNB.lt b h1) hH.mem.fr.size
            · exact hNc.lt b h1
          · rcases hb with h1 | ⟨h1, _⟩
            · exact hNB.old b h1 hlt
            · rcases h1 with h1 | ⟨r, hr, hrg⟩
              · have h2 := hm.fr.bs
                have h1 : w.heap.size ≤ b := h1
                omega
              · rcases hm.mine r (hwrR r hr) b hrg with h2 | h2
                · omega
                · exact .inr h2
        have hmemC : Mem base G w0 w' (deadOf (ptrs con.ak args) hpR) ν := by
          refine ⟨fun n => ?_, fun n m hne hwn hlm g hg => ?_, fun n hwn g hg => ?_, ?_, ⟨_, hnstC⟩⟩
          · by_cases hn : n ∈ ptrs con.ak args
            · rw [deadOf_in hn]; trivial
            · have h1 := hmR.ent n
              have h2 : EntRel base hpR ν w' (hpR n) (ν n) := h1.frame fun hl g hg => hfr n (by rw [deadOf_out hn]; exact hl) g hg
              rw [deadOf_out hn]
              exact h2.mono hdead.1
          · have h1 := hlv n hwn.lv
            have hwn' : wrE (hpR n) := by rw [deadOf_out h1.2] at hwn; exact hwn
            exact hmR.sep n m hne hwn' (hlv m hlm).1 g hg
          · have h1 := hlv n hwn.lv
            have hwn' : wrE (hpR n) := by rw [deadOf_out h1.2] at hwn; exact hwn
            exact hmR.mine n hwn' g hg
          · have h1 := hH.mem.fr
            refine ⟨h1.os.trans hm.fr.os, h1.tape.trans hm.fr.tape, h1.output.trans hm.fr.output, Nat.le_trans hm.fr.size h1.size, Nat.le_trans hm.fr.bs h1.size, fun k hk hg => ?_⟩
            refine (h1.block k (Nat.lt_of_lt_of_le hk hm.fr.bs) ?_).trans (hm.fr.block k hk hg)
            rintro ⟨p, hp', hpg⟩
            rcases hm.mine p (hwrH p hp') k hpg with h2 | h2
            · omega
            · exact hg h2
        have hE : EndI N (ptrs con.ak args) (ptrs con.ak (args0 con.ak x)) nm hpR ν σ.hp := by
          refine ⟨hmemC, .refl _ _, fun _ _ => rfl, fun _ h => h, fun n h1 h2 => by
            have h3 := freeN_some hfree n h1 h2
            rw [hRout n fun h4 => by have := hwrR n h4; rw [h3] at this; exact this]
            exact h3, hH.mem, fun q hq g hg hG m hlm hc => ?_, fun p hp' m hlm g hg hc => ?_, fun p hp' => .inr hp', fun p hp' => isBox_box (List.all_eq_true.1 hc.1 p hp'), hnstC, hNc⟩
          · have h1 := blk_lt (hmR.ent m) (hlv m hlm).1 g hc
            rcases hH.mem.mine q hq g hg with h2 | ⟨p, hp', hpg⟩
            · have h2 : w.heap.size ≤ g := h2
              omega
            · rcases (hands_iff con.ak args p).1 hp' with hp' | hp'
              · exact hG ⟨p, hp', hpg⟩
              · exact hrelS p hp' g hpg m (hlv m hlm).1 hc
          · have h1 := hlv m hlm
            exact hmR.sep p m (fun e => by subst e; exact h1.2 hp') (hboxR p hp') h1.1 g hg hc
        obtain ⟨ν', h1, h2, h3⟩ := EndI.all hNok hpairF (fun _ h => h) hndp hqs hal hold con.rk b vs us nm hpR ν σ.hp hE hus hex (Nat.le_refl _)
        rw [hlen] at h1 h2 h3
        refine ⟨_, hrun, _, ν', rfl, ?_, h1, hxR.trans h3⟩
        have hul : us.length = con.nres := by rw [← vs_len hus]; exact hlen
        have h1 : Mem base G w0 w' (inOs args con.nres (ptrs con.ak args) con.rk b nm hpR).2 ν' := h1
        have h2 : TsRel (inOs args con.nres (ptrs con.ak args) con.rk b nm hpR).2 ν' (inOs args con.nres (ptrs con.ak args) con.rk b nm hpR).1 us := h2
        have h3 : Ext hpR ν (inOs args con.nres (ptrs con.ak args) con.rk b nm hpR).2 ν' := h3
        generalize (inOs args con.nres (ptrs con.ak args) con.rk b nm hpR).2 = hpQ at h1 h2 h3 ⊢
        generalize hrs : (inOs args con.nres (ptrs con.ak args) con.rk b nm hpR).1 = rs at h2 ⊢
        have h2' : TsRel hpQ ν' rs us := h2
        match us, rs, h2', hul with
        | [], [], _, hul => rw [← hul]; exact ⟨#[], rfl, trivial⟩
        | [u], [(g, cs)], h2', hul => rw [← hul]; exact h2'.1
        | u :: u2 :: us, r :: r2 :: rs, h2', hul =>
          rw [← hul]
          exact ⟨_, rfl, h2'⟩
    cases e with
    | normal => exact core hk
    | ret => exact core hk
    | exit _ => exact no_some hk
    | goto _ => exact no_some hk
    | panic _ => exact no_some hk
    | outgrown => exact no_some hk
  refine calls_of_wp hf hb ?_
  have hd := hden k x b hfn
  exact den_sound (F := F) (A := A) hG rfl (hD A rfl) c (fun k => kret (F.C k) con fn.results.toList (args0 con.ak x) (st0 con.ak x).hp) _ k (hsites x A rfl rfl)
    (fun k' _ e σ a w' h1 h2 => hend k' e σ a w' h1 h2) k (Nat.le_refl _) (st0 con.ak x) _ w hd ⟨νc, hH0⟩
end Go.Sx
/- One operation among others: what it looks at, what it changes. -/
set_option linter.unusedVariables false
set_option linter.unusedSimpArgs false
namespace Go.Sx
def isRo : Ent → Bool
  | .ro _ _ _ => true
  | .nro _ _ _ => true
  | .gh => true
  | .gho _ _ => true
  | _ => false
/-- Who looks here finds all as it was. -/
def Sees (av : Av) (hp hp' : Hp) : Prop := ∀ n, hp n ≠ .free → (rdOk av n = true ∨ isRo (hp n) = true) → hp' n = hp n
def Grows (hp hp' : Hp) : Prop := ∀ n, hp n ≠ .free → hp' n = hp n
theorem Grows.sees {hp hp' : Hp} (h : Grows hp hp') (av : Av) : Sees av hp hp' := fun n hn _ => h n hn
theorem grows_upd {hp : Hp} {q : Nat} (hq : hp q = .free) (E : Ent) : Grows hp (upd hp q E) := fun n hn => upd_other _ _ fun e => by subst e; exact hn hq
theorem rd_none (n : Nat) : rdOk none n = true := rfl
theorem sees_none {hp hp' : Hp} (h : Sees none hp hp') : Grows hp hp' := fun n hn => h n hn (.inl rfl)
section
variable {P : Program} {av : Av} {hp hp' hp1 : Hp}
theorem readL_sees {ty : Ty} {x : SC} {l : List ty.T} (h : readL av hp ty x = some l) (hs : Sees av hp hp') : readL av hp' ty x = some l := by
  cases x with
  | sl n =>
    have key : hp' n = hp n := by
      unfold readL at h
      cases hh : hp n with
      | row t l0 e =>
        refine (hs n (by rw [hh]; simp) (.inl ?_)).trans hh
        cases hr : rdOk av n with
        | true => rfl
        | false => simp [hh, hr] at h
      | ro t l0 e => exact (hs n (by rw [hh]; simp) (.inr (by rw [hh]; rfl))).trans hh
      | ex t l0 e =>
        refine (hs n (by rw [hh]; simp) (.inl ?_)).trans hh
        cases hr : rdOk av n with
        | true => rfl
        | false => simp [hh, hr] at h
      | _ => simp [hh] at h
    unfold readL at h ⊢
    simp only [key]
    exact h
  | pj n sz i off =>
    have key : hp' n = hp n := by
      unfold readL at h
      cases hh : hp n with
      | nro t l0 e => exact (hs n (by rw [hh]; simp) (.inr (by rw [hh]; rfl))).trans hh
      | _ => simp [hh] at h
    unfold readL at h ⊢
    simp only [key]
    exact h
  | pg n sz i off =>
    have key : hp' n = hp n := by
      unfold readL at h
      cases hh : hp n with
      | gho t l0 => exact (hs n (by rw [hh]; simp) (.inr (by rw [hh]; rfl))).trans hh
      | _ => simp [hh] at h
    unfold readL at h ⊢
    simp only [key]
    exact h
  | _ => exact h
theorem lenA_sees {t : TypeId} {x : SV} {l : Int} (h : lenA P av hp t x = some l) (hs : Sees av hp hp') : lenA P av hp' t x = some l := by
  unfold lenA at h ⊢
  split at h
  · simp_all
  · simp_all
  · rename_i n
    split at h
    · rename_i el hu
      have key : hp' n = hp n := by
        cases hh : hp n with
        | row t l0 e =>
          refine (hs n (by rw [hh]; simp) (.inl ?_)).trans hh
          cases hr : rdOk av n with
          | true => rfl
          | false => simp [hh, hr] at h
        | ro t l0 e => exact (hs n (by rw [hh]; simp) (.inr (by rw [hh]; rfl))).trans hh
        | ex t l0 e =>
          refine (hs n (by rw [hh]; simp) (.inl ?_)).trans hh
          cases hr : rdOk av n with
          | true => rfl
          | false => simp [hh, hr] at h
        | nro t l0 e => exact (hs n (by rw [hh]; simp) (.inr (by rw [hh]; rfl))).trans hh
        | nrow gg t l0 e =>
          refine (hs n (by rw [hh]; simp) (.inl ?_)).trans hh
          cases hr : rdOk av n with
          | true => rfl
          | false => simp [hh, hr] at h
        | _ => simp [hh] at h
      simp only [hu, key]
      exact h
    · cases h
  · split at h
    · rename_i el hu
      split at h
      · rename_i ety hty
        split at h
        · rename_i l0 hl
          simp only [hu, hty, readL_sees hl hs]
          exact h
        · cases h
      · cases h
    · cases h
  · split at h
    · rename_i el hu
      split at h
      · rename_i ety hty
        split at h
        · rename_i l0 hl
          simp only [hu, hty, readL_sees hl hs]
          exact h
        · cases h
      · cases h
    · cases h
  · cases h
theorem loadA_sees {t : TypeId} {x : SV} {cs : List SB} {v : SV} (h : loadA P av t hp x = some (cs, v, hp1)) (hs : Sees av hp hp') : hp1 = hp ∧ loadA P av t hp' x = some (cs, v, hp') := by
  unfold loadA at h ⊢
  split at h
  · rename_i n off
    split at h
    · rename_i cs0 tt hh
      cases hr : rdOk av n with
      | false => simp [hr] at h
      | true =>
        have key := hs n (by rw [hh]; simp) (.inl hr)
        simp only [hr, cnd_true, key, hh] at h ⊢
        split at h <;> simp_all
    · cases h
  · rename_i n sz i off
    split at h
    · rename_i ty l e hh
      cases hr : rdOk av n with
      | false => simp [hr] at h
      | true =>
        have key := hs n (by rw [hh]; simp) (.inl hr)
        simp only [hr, key, hh] at h ⊢
        cases hb : (true && Nat.beq sz ty.size) with
        | false => rw [hb] at h; cases h
        | true =>
          rw [hb] at h
          simp only [cnd_true] at h ⊢
          split at h <;> simp_all
    · rename_i ty l e hh
      have key := hs n (by rw [hh]; simp) (.inr (by rw [hh]; rfl))
      simp only [key, hh] at h ⊢
      cases hb : (Nat.beq sz ty.size) with
      | false => rw [hb] at h; cases h
      | true =>
        rw [hb] at h
        simp only [cnd_true] at h ⊢
        split at h <;> simp_all
    · rename_i ty l e hh
      cases hr : rdOk av n with
      | false => simp [hr] at h
      | true =>
        have key := hs n (by rw [hh]; simp) (.inl hr)
        simp only [hr, key, hh] at h ⊢
        cases hb : (true && Nat.beq sz ty.size) with
        | false => rw [hb] at h; cases h
        | true =>
          rw [hb] at h
          simp only [cnd_true] at h ⊢
          split at h <;> simp_all
    · rename_i ty l e hh
      have key := hs n (by rw [hh]; simp) (.inr (by rw [hh]; rfl))
      simp only [key, hh] at h ⊢
      cases hb : (Nat.beq sz ty.size) with
      | false => rw [hb] at h; cases h
      | true =>
        rw [hb] at h
        simp only [cnd_true] at h ⊢
        split at h <;> simp_all
    · rename_i ty l e hh
      cases hr : rdOk av n with
      | false => simp [hr] at h
      | true =>
        have key := hs n (by rw [hh]; simp) (.inl hr)
        simp only [hr, key, hh] at h ⊢
        cases hb : (true && Nat.beq sz ty.size) with
        | false => rw [hb] at h; cases h
        | true =>
          rw [hb] at h
          simp only [cnd_true] at h ⊢
          split at h <;> simp_all
    · cases h
  · cases h
theorem opA_cls0 {op : Op} {e : Operand → SV} {nm : Nat} {cs : List SB} {v : SV} (hc : cls P op = 0) (h : opA P av op e nm hp = some (cs, v, hp1)) : hp1 = hp ∧ ∀ av' nm' hp', opA P av' op e nm' hp' = some (cs, v, hp') := by
  cases op
  case move x => simp only [opA, Option.some.injEq, Prod.mk.injEq] at h ⊢; obtain ⟨rfl, rfl, rfl⟩ := h; simp
  case assign x => simp only [opA, Option.some.injEq, Prod.mk.injEq] at h ⊢; obtain ⟨rfl, rfl, rfl⟩ := h; simp
  case pick => simp [opA] at h
  case build t ps =>
    simp only [opA] at h ⊢
    split at h
    · split at h
      · split at h
        · simp_all
        · cases h
      · cases h
    · cases h
  case nilCheck x =>
    simp only [opA] at h ⊢
    split at h
    · simp_all
    · cases h
  case binOp op t x y _ =>
    simp only [opA] at h ⊢
    split at h
    · simp_all
    · split at h
      · simp_all
      · simp_all
      · cases h
  case unOp =>
    simp only [opA] at h ⊢
    split at h
    · simp_all
    · cases h
  case extract x i =>
    simp only [opA] at h ⊢
    split at h
    · split at h
      · simp_all
      · cases h
    · cases h
  case field t x f =>
    simp only [opA] at h ⊢
    split at h
    · split at h
      · simp_all
      · cases h
    · cases h
  case fieldAddr t x f =>
    simp only [opA] at h ⊢
    split at h
    · split at h
      · split at h
        · simp_all
        · simp_all
        · cases h
      · cases h
    · cases h
  case index t x i =>
    simp only [opA] at h ⊢
    split at h
    · simp_all
    · cases h
  case slice t x lo hi mx =>
    cases mx with
    | some m => simp [opA] at h
    | none =>
      have hu : P.underlying t = some .string := by
        simp only [cls] at hc
        split at hc
        · assumption
        · cases hc
      simp only [opA, sliceA] at h ⊢
      split at h
      · split at h
        · simp_all
        · split at h
          · rename_i he2
            simp [sliceOf, hu] at he2
          · cases h
        · cases h
      · cases h
  case call c =>
    simp only [cls] at hc
    split at hc <;> simp_all
  case convert s d x =>
    simp only [cls] at hc
    split at hc <;> cases hc
  all_goals first | (simp [cls] at hc; done) | (simp [opA] at h; done)
end
end Go.Sx
