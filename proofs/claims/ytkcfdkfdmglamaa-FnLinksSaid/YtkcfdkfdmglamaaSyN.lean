/- A function's begin and end: from its walk to its contract. -/
import Derived.Test.YtkcfdkfdmglamaaSyM
set_option linter.unusedVariables false
set_option linter.unusedSimpArgs false
namespace Go.Sx
section
variable {P : Program} {base : Nat} {G : Nat → Prop} {w0 w : World} {hp : Hp} {ν : Nat → Value}
def boxE : Ent → Prop
  | .box _ _ => True
  | _ => False
theorem isBox_box {e : Ent} (h : isBox e = true) : wrE e := by cases e <;> simp_all [isBox, wrE]
theorem boxE.wr {e : Ent} (h : boxE e) : wrE e := by cases e <;> simp_all [boxE, wrE]
theorem wrE.lv {e : Ent} (h : wrE e) : lvE e := by cases e <;> simp_all [wrE, lvE]
/-- A new name for a block that none of the old ones has. -/
theorem Mem.add (h : Mem base G w0 w hp ν) {nm : Nat} (hn : hp nm = .free) {e : Ent} {v : Value} (he : EntRel base (upd hp nm e) (upd ν nm v) w e v) (hfree : e ≠ .free)
    (hsep : ∀ m, lvE (hp m) → ∀ g, blk v = some g → blk (ν m) ≠ some g) (hmine : wrE e → ∀ g, blk v = some g → base ≤ g ∨ G g) :
    Mem base G w0 w (upd hp nm e) (upd ν nm v) := by
  have hext := Ext.new (ν := ν) hn e v
  refine ⟨fun n => ?_, fun n m hne hwn hlm g hg => ?_, fun n hwn g hg => ?_, h.fr⟩
  · by_cases hnm : n = nm
    · subst hnm; rw [upd_same, upd_same]; exact he
    · rw [upd_other _ _ hnm, upd_other _ _ hnm]; exact (h.ent n).mono hext
  · by_cases hnn : n = nm
    · subst hnn
      rw [upd_same] at hg
      have hm : m ≠ n := fun e => hne e.symm
      rw [upd_other _ _ hm] at hlm ⊢
      exact hsep m hlm g hg
    · rw [upd_other _ _ hnn] at hwn hg
      by_cases hmm : m = nm
      · subst hmm
        rw [upd_same]
        intro hc
        exact hsep n hwn.lv g hc hg
      · rw [upd_other _ _ hmm] at hlm ⊢
        exact h.sep n m hne hwn hlm g hg
  · by_cases hnn : n = nm
    · subst hnn
      rw [upd_same] at hg hwn
      exact hmine hwn g hg
    · rw [upd_other _ _ hnn] at hwn hg
      exact h.mine n hwn g hg
/-- A name is not used any more. -/
theorem Mem.kill (h : Mem base G w0 w hp ν) (q : Nat) : Mem base G w0 w (upd hp q .dead) ν := by
  have hx : ∀ n, hp n ≠ .free → (upd hp q .dead) n ≠ .free := fun n hn => by
    by_cases hq : n = q
    · subst hq; rw [upd_same]; simp
    · rw [upd_other _ _ hq]; exact hn
  have hext : Ext hp ν (upd hp q .dead) ν := ⟨fun n hn => ⟨hx n hn, rfl⟩⟩
  refine ⟨fun n => ?_, fun n m hne hwn hlm g hg => ?_, fun n hwn g hg => ?_, h.fr⟩
  · by_cases hq : n = q
    · subst hq; rw [upd_same]; trivial
    · rw [upd_other _ _ hq]; exact (h.ent n).mono hext
  · have h1 : n ≠ q := fun e => by subst e; rw [upd_same] at hwn; exact hwn
    have h2 : m ≠ q := fun e => by subst e; rw [upd_same] at hlm; exact hlm
    rw [upd_other _ _ h1] at hwn
    rw [upd_other _ _ h2] at hlm
    exact h.sep n m hne hwn hlm g hg
  · have h1 : n ≠ q := fun e => by subst e; rw [upd_same] at hwn; exact hwn
    rw [upd_other _ _ h1] at hwn
    exact h.mine n hwn g hg
theorem Ext.kill (hp : Hp) (ν : Nat → Value) (q : Nat) : Ext hp ν (upd hp q .dead) ν := ⟨fun n hn => ⟨by
    by_cases hq : n = q
    · subst hq; rw [upd_same]; simp
    · rw [upd_other _ _ hq]; exact hn, rfl⟩⟩
/-! ### the begin -/
theorem memN_iff {n : Nat} {l : List Nat} : memN n l = true ↔ n ∈ l := by
  unfold memN
  rw [List.any_eq_true]
  constructor
  · rintro ⟨x, hx, hb⟩
    have := Nat.eq_of_beq_eq_true hb
    subst this
    exact hx
  · intro h
    exact ⟨n, h, Nat.beq_refl n⟩
/-- The boxes that a call is handed. -/
def G0 (ν : Nat → Value) (ps : List Nat) : Nat → Prop := fun g => ∃ p, p ∈ ps ∧ blk (ν p) = some g
structure Beg (w : World) (hp : Hp) (ν : Nat → Value) (G' : Nat → Prop) (H : List Nat) (nm : Nat) (hpc : Hp) (νc : Nat → Value) (done : List Nat) : Prop where
  mem : Mem w.heap.size G' w w hpc νc
  free : ∀ n, nm ≤ n → hpc n = .free
  link : ∀ i, lvE (hpc i) → ∃ n, νc i = ν n ∧ lvE (hp n) ∧ (wrE (hpc i) → n ∈ done ∧ wrE (hp n)) ∧ (¬ wrE (hpc i) → n ∉ H)
  sub : ∀ p, p ∈ done → p ∈ H
theorem iCs_one (k : CK) (x : k.T) (nm : Nat) (hp : Nat → Ent) : iCs [k] x nm hp = (match iC nm hp k x with | (a, nm, hp) => ([a], nm, hp)) := rfl
theorem iCs_cons (k k' : CK) (r : List CK) (x : CKs (k :: k' :: r)) (nm : Nat) (hp : Nat → Ent) : iCs (k :: k' :: r) x nm hp = (match iC nm hp k x.1 with
    | (a, nm, hp) => match iCs (k' :: r) x.2 nm hp with
      | (b, nm, hp) => (a :: b, nm, hp)) := rfl
theorem iAs_one (k : AK) (x : k.T) (nm : Nat) (hp : Nat → Ent) : iAs [k] x nm hp = (match iA k x nm hp with | (a, nm, hp) => ([a], nm, hp)) := rfl
theorem iAs_cons (k k' : AK) (r : List AK) (x : AKs (k :: k' :: r)) (nm : Nat) (hp : Nat → Ent) : iAs (k :: k' :: r) x nm hp = (match iA k x.1 nm hp with
    | (a, nm, hp) => match iAs (k' :: r) x.2 nm hp with
      | (b, nm, hp) => (a :: b, nm, hp)) := rfl
theorem mCs_cons (hp : Nat → Ent) (k k' : CK) (r : List CK) (x : SC) (y : List SC) : mCs hp (k :: k' :: r) (x :: y) = ((match mC hp k x, mCs hp (k' :: r) y with
    | some a, some b => some (a, b)
    | _, _ => none) : Option (k.T × CKs (k' :: r))) := rfl
theorem mAs_cons (hp : Nat → Ent) (k k' : AK) (r : List AK) (x : SV) (y : List SV) : mAs hp (k :: k' :: r) (x :: y) = ((match mA hp k x, mAs hp (k' :: r) y with
    | some a, some b => some (a, b)
    | _, _ => none) : Option (k.T × AKs (k' :: r))) := rfl
theorem no_some {α : Type} {p : Prop} {x : α} (h : (none : Option α) = some x) : p := nomatch h
theorem mC_int {k : IntKind} {sa : SC} {x : Int} (h : mC hp (.int k) sa = some x) : sa = .int k x := by
  cases sa with
  | int k' n =>
    have h2 : (cnd (keq k k') (some n) none : Option Int) = some x := h
    clear h
    cases hk : keq k k' with
    | false => rw [hk] at h2; exact no_some h2
    | true =>
      rw [hk] at h2
      have := keq_eq hk
      subst this
      have h3 : some n = some x := h2
      injection h3 with h3
      subst h3
      rfl
  | _ => exact no_some (α := Int) h
theorem mC_bool {sa : SC} {x : Bool} (h : mC hp .bool sa = some x) : ∃ s, sa = .bool s ∧ x = s.b := by
  cases sa with
  | bool s =>
    have h : some s.b = some x := h
    injection h with h
    exact ⟨s, rfl, h.symm⟩
  | _ => exact no_some (α := Bool) h
theorem mC_str {sa : SC} {x : ByteArray} (h : mC hp .str sa = some x) : sa = .str x := by
  cases sa with
  | str s =>
    have h : some s = some x := h
    injection h with h
    subst h
    rfl
  | _ => exact no_some (α := ByteArray) h
theorem mC_sl {t : Ty} {sa : SC} {x : List t.T} (h : mC hp (.sl t) sa = some x) : readL none hp t sa = some x := by
  cases sa <;> exact h
theorem mA_c {k : CK} {sa : SV} {x : k.T} (h : mA hp (.c k) sa = some x) : ∃ y, sa = .a false [y] ∧ mC hp k y = some x := by
  match sa with
  | .a false [y] => exact ⟨y, rfl, h⟩
  | .a false [] => exact no_some (α := k.T) h
  | .a false (_ :: _ :: _) => exact no_some (α := k.T) h
  | .a true _ => exact no_some (α := k.T) h
  | .any => exact no_some (α := k.T) h
  | .tup _ => exact no_some (α := k.T) h
theorem mA_agg {ks : List CK} {sa : SV} {x : CKs ks} (h : mA hp (.agg ks) sa = some x) : ∃ cs, sa = .a true cs ∧ mCs hp ks cs = some x := by
  match sa with
  | .a true cs => exact ⟨cs, rfl, h⟩
  | .a false _ => exact no_some (α := CKs ks) h
  | .any => exact no_some (α := CKs ks) h
  | .tup _ => exact no_some (α := CKs ks) h
theorem mA_ptr {ks : List CK} {t : TypeId} {sa : SV} {x : CKs ks} (h : mA hp (.ptr ks t) sa = some x) : ∃ n cs, sa = .a false [.ptr n 0] ∧ hp n = .box cs t ∧ mCs hp ks cs = some x := by
  match sa with
  | .a false [.ptr n 0] =>
    have h2 : (match hp n with
      | .box cs t' => cnd (Nat.beq t t') (mCs hp ks cs) none
      | _ => none) = some x := h
    clear h
    cases hb : hp n with
    | box cs t' =>
      rw [hb] at h2
      have h3 : cnd (Nat.beq t t') (mCs hp ks cs) none = some x := h2
      clear h2
      cases ht : Nat.beq t t' with
      | false => rw [ht] at h3; exact no_some (α := CKs ks) h3
      | true =>
        rw [ht] at h3
        have := Nat.eq_of_beq_eq_true ht
        subst this
        exact ⟨n, cs, rfl, hb, h3⟩
    | _ => rw [hb] at h2; exact no_some (α := CKs ks) h2
  | .a false [.ptr n (m + 1)] => exact no_some (α := CKs ks) h
  | .a false [] => exact no_some (α := CKs ks) h
  | .a false (x :: _ :: _) => cases x with
    | ptr n m => cases m <;> exact no_some (α := CKs ks) h
    | _ => exact no_some (α := CKs ks) h
  | .a true _ => exact no_some (α := CKs ks) h
  | .any => exact no_some (α := CKs ks) h
  | .tup _ => exact no_some (α := CKs ks) h
  | .a false [.any] | .a false [.bool _] | .a false [.int _ _] | .a false [.str _] | .a false [.nilp] | .a false [.sl _] | .a false [.nils] | .a false [.ep _ _ _ _] => exact no_some (α := CKs ks) h
/-- What is read, and where it lies. -/
theorem readL_ent {ty : Ty} {x : SC} {l : List ty.T} {v : Value} (h : readL none hp ty x = some l) (hx : CRel hp ν x v) (hm : Mem base G w0 w hp ν) :
    Reads w ty l v ∧ (l ≠ [] → ∃ n, x = .sl n ∧ v = ν n ∧ lvE (hp n) ∧ ¬ boxE (hp n)) := by
  refine ⟨readL_rel h hx hm, fun hl => ?_⟩
  unfold readL at h
  split at h
  · simp only [Option.some.injEq] at h
    exact absurd h.symm hl
  · rename_i n
    obtain ⟨_, hv, _⟩ := hx
    refine ⟨n, rfl, hv, ?_⟩
    split at h
    · rename_i t l' e' hen
      rw [hen]
      exact ⟨trivial, fun h => h⟩
    · rename_i t l' e' hen
      have h2 : Ent.ro t l' e' = .ro ty l e' := by
        split at h
        · rename_i heq _
          subst heq
          simp only [Option.some.injEq] at h
          subst h
          rfl
        · cases h
      rw [hen, h2]; exact ⟨hl, fun h => h⟩
    · rename_i t l' e' hen
      rw [hen]
      exact ⟨trivial, fun h => h⟩
    · cases h
  · cases h
theorem Beg.cell {G' : Nat → Prop} {H : List Nat} {nm : Nat} {hpc : Hp} {νc : Nat → Value} {done : List Nat} (hB : Beg w hp ν G' H nm hpc νc done) (hm : Mem base G w0 w hp ν) {k : CK} {x : k.T} {sa : SC} {v : Value} (h : mC hp k sa = some x) (hv : CRel hp ν sa v) (hro : ∀ n, sa = .sl n → ¬ boxE (hp n) → n ∉ H)
    {sc : SC} {nm' : Nat} {hpc' : Hp} (hq : iC nm hpc k x = (sc, nm', hpc')) :
    ∃ νc', Beg w hp ν G' H nm' hpc' νc' done ∧ CRel hpc' νc' sc v ∧ Ext hpc νc hpc' νc' ∧ nm ≤ nm' ∧ (∀ n, n < nm → hpc' n = hpc n) := by
  cases k with
  | int k =>
    have := mC_int h
    subst this
    have hq : (SC.int k x, nm, hpc) = (sc, nm', hpc') := hq
    simp only [Prod.mk.injEq] at hq
    obtain ⟨rfl, rfl, rfl⟩ := hq
    exact ⟨νc, hB, hv, .refl _ _, Nat.le_refl _, fun _ _ => rfl⟩
  | bool =>
    obtain ⟨s, rfl, hs⟩ := mC_bool h
    have hq : (SC.bool (.v x), nm, hpc) = (sc, nm', hpc') := hq
    simp only [Prod.mk.injEq] at hq
    obtain ⟨rfl, rfl, rfl⟩ := hq
    have hvv : v = .bool s.b := hv
    exact ⟨νc, hB, by rw [hvv, ← hs]; rfl, .refl _ _, Nat.le_refl _, fun _ _ => rfl⟩
  | str =>
    have := mC_str h
    subst this
    have hq : (SC.str x, nm, hpc) = (sc, nm', hpc') := hq
    simp only [Prod.mk.injEq] at hq
    obtain ⟨rfl, rfl, rfl⟩ := hq
    exact ⟨νc, hB, hv, .refl _ _, Nat.le_refl _, fun _ _ => rfl⟩
  | sl t =>
    have hq : (SC.sl nm, nm + 1, upd hpc nm (.ro t x 0)) = (sc, nm', hpc') := hq
    simp only [Prod.mk.injEq] at hq
    obtain ⟨rfl, rfl, rfl⟩ := hq
    obtain ⟨hr, hn⟩ := readL_ent (mC_sl h) hv hm
    have hfr := hB.free nm (Nat.le_refl _)
    obtain ⟨A, c, hvv, h1, h2, h3⟩ := hr.out
    have hmem := hB.mem.share hfr (ty := t) (l := x) (e' := 0) (v := v) ⟨A, c, hvv, h1, h2, h3⟩ (fun hl m hwm g hg hc => by
      obtain ⟨n, hsn, hvn, hln, hbn⟩ := hn hl
      obtain ⟨n', h4, h5, h6, h7⟩ := hB.link m hwm.lv
      have hne : n' ≠ n := fun e => by subst e; exact hro n' hsn hbn (hB.sub n' (h6 hwm).1)
      rw [h4] at hg
      rw [hvn] at hc
      exact hm.sep n' n hne (h6 hwm).2 hln g hg hc)
    refine ⟨upd νc nm v, ⟨hmem.1, fun n hn' => ?_, fun i hi => ?_, hB.sub⟩, ⟨by rw [upd_same]; simp, by rw [upd_same], A, _, c, hvv⟩, hmem.2, Nat.le_succ _, fun n hn' => upd_other _ _ (by omega)⟩
    · rw [upd_other _ _ (by omega)]
      exact hB.free n (by omega)
    · by_cases hin : i = nm
      · subst hin
        rw [upd_same] at hi ⊢
        rw [upd_same]
        obtain ⟨n, hsn, hvn, hln, hbn⟩ := hn hi
        exact ⟨n, hvn, hln, fun h => h.elim, fun _ => hro n hsn hbn⟩
      · rw [upd_other _ _ hin] at hi ⊢
        rw [upd_other _ _ hin]
        exact hB.link i hi
theorem slN_cons (x : SC) (r : List SC) : ∀ n, n ∈ slN r → n ∈ slN (x :: r) := by
  intro n hn
  cases x <;> first | exact hn | exact List.mem_cons_of_mem _ hn
theorem slN_head {x : SC} {n : Nat} (r : List SC) (h : x = .sl n) : n ∈ slN (x :: r) := by subst h; exact List.mem_cons_self
theorem Beg.cells {G' : Nat → Prop} {H : List Nat} {done : List Nat} (hm : Mem base G w0 w hp ν) : ∀ (ks : List CK) (x : CKs ks) (sas : List SC) (vs : List Value) (nm : Nat) (hpc : Hp) (νc : Nat → Value) (scs : List SC) (nm' : Nat) (hpc' : Hp), Beg w hp ν G' H nm hpc νc done → mCs hp ks sas = some x → CsRel hp ν sas vs → (∀ n, n ∈ slN sas → ¬ boxE (hp n) → n ∉ H) → iCs ks x nm hpc = (scs, nm', hpc') →
    ∃ νc', Beg w hp ν G' H nm' hpc' νc' done ∧ CsRel hpc' νc' scs vs ∧ Ext hpc νc hpc' νc' ∧ nm ≤ nm' ∧ (∀ n, n < nm → hpc' n = hpc n)
  | [], x, sas, vs, nm, hpc, νc, scs, nm', hpc', hB, h, hv, hro, hq => by
    have hq : (([] : List SC), nm, hpc) = (scs, nm', hpc') := hq
    simp only [Prod.mk.injEq] at hq
    obtain ⟨rfl, rfl, rfl⟩ := hq
    match sas, vs, hv with
    | [], [], _ => exact ⟨νc, hB, trivial, .refl _ _, Nat.le_refl _, fun _ _ => rfl⟩
    | _ :: _, _, _ => exact no_some (α := Unit) h
  | [k], x, sas, vs, nm, hpc, νc, scs, nm', hpc', hB, h, hv, hro, hq => by
    match sas, vs, hv with
    | [sa], [v], hv =>
      replace hq := (iCs_one k x nm hpc).symm.trans hq
      generalize hq1 : iC nm hpc k x = q at hq
      obtain ⟨a, b, c⟩ := q
      simp only [Prod.mk.injEq] at hq
      obtain ⟨rfl, rfl, rfl⟩ := hq
      obtain ⟨νc', h1, h2, h3⟩ := hB.cell hm (k := k) (x := x) h hv.1 (fun n he => hro n (slN_head [] he)) hq1
      exact ⟨νc', h1, ⟨h2, trivial⟩, h3⟩
    | [], _, _ => exact no_some (α := k.T) h
    | _ :: _ :: _, _, _ => exact no_some (α := k.T) h
    | [_], [], hv => exact hv.elim
    | [_], _ :: _ :: _, hv => exact hv.2.elim
  | k :: k' :: r, x, sas, vs, nm, hpc, νc, scs, nm', hpc', hB, h, hv, hro, hq => by
    match sas, vs, hv with
    | sa :: sar, v :: vr, hv =>
      rw [mCs_cons] at h
      split at h
      · rename_i a b ha hb
        have h : some (a, b) = some x := h
        injection h with h
        subst h
        replace hq : (match iC nm hpc k a with
          | (s, n, p) => match iCs (k' :: r) b n p with
            | (s', n', p') => (s :: s', n', p')) = (scs, nm', hpc') := hq
        generalize hq1 : iC nm hpc k a = q at hq
        obtain ⟨s1, n1, p1⟩ := q
        simp only [] at hq
        generalize hq2 : iCs (k' :: r) b n1 p1 = q at hq
        obtain ⟨s2, n2, p2⟩ := q
        simp only [Prod.mk.injEq] at hq
        obtain ⟨rfl, rfl, rfl⟩ := hq
        obtain ⟨νc1, h1, h2, h3, h4, h5⟩ := hB.cell hm (k := k) (x := a) ha hv.1 (fun n he => hro n (slN_head sar he)) hq1
        obtain ⟨νc2, g1, g2, g3, g4, g5⟩ := Beg.cells hm (k' :: r) b sar vr n1 p1 νc1 s2 n2 p2 h1 hb hv.2 (fun n hn => hro n (slN_cons sa sar n hn)) hq2
        exact ⟨νc2, g1, ⟨h2.mono g3, g2⟩, h3.trans g3, Nat.le_trans h4 g4, fun n hn => (g5 n (by omega)).trans (h5 n hn)⟩
      · cases h
    | [], _, _ => exact no_some (α := k.T × CKs (k' :: r)) h
    | _ :: _, [], hv => exact hv.elim
theorem mW_row {t : Ty} {e : TypeId} {sa : SC} {x : List t.T} (h : mW hp (.row t e) sa = some x) : ∃ n, sa = .sl n ∧ hp n = .row t x e := by
  cases sa with
  | sl n =>
    have h2 : (match hp n with
      | .row t' l e' => match t'.dec t with
        | some ⟨h⟩ => cnd (Nat.beq e e') (some (h ▸ l : List t.T)) none
        | none => none
      | _ => none) = some x := h
    clear h
    refine ⟨n, rfl, ?_⟩
    cases hr : hp n with
    | row t' l e' =>
      rw [hr] at h2
      have h3 : (match t'.dec t with
        | some ⟨h⟩ => cnd (Nat.beq e e') (some (h ▸ l : List t.T)) none
        | none => none) = some x := h2
      clear h2
      split at h3
      · rename_i heq _
        subst heq
        cases he : Nat.beq e e' with
        | false => rw [he] at h3; exact no_some (α := List t'.T) h3
        | true =>
          rw [he] at h3
          have := Nat.eq_of_beq_eq_true he
          subst this
          have h4 : some l = some x := h3
          injection h4 with h4
          subst h4
          rfl
      · exact no_some h3
    | _ => rw [hr] at h2; exact no_some (α := List t.T) h2
  | _ => exact no_some (α := List t.T) h
theorem mA_w {g : Bool} {ks : List WK} {sa : SV} {x : WKs ks} (h : mA hp (.w g ks) sa = some x) : ∃ cs, sa = .a g cs ∧ mWs hp ks cs = some x := by
  have key : ∀ g' cs, cnd (beqB g g') (mWs hp ks cs) none = some x → g = g' ∧ mWs hp ks cs = some x := fun g' cs h2 => by
    cases g <;> cases g' <;> first | exact ⟨rfl, h2⟩ | exact no_some (α := WKs ks) h2
  match sa with
  | .a false cs => obtain ⟨rfl, h2⟩ := key false cs h; exact ⟨cs, rfl, h2⟩
  | .a true cs => obtain ⟨rfl, h2⟩ := key true cs h; exact ⟨cs, rfl, h2⟩
  | .any => exact no_some (α := WKs ks) h
  | .tup _ => exact no_some (α := WKs ks) h
theorem iWs_one (k : WK) (x : k.T) (nm : Nat) (hp : Nat → Ent) : iWs [k] x nm hp = (match iW nm hp k x with | (a, nm, hp) => ([a], nm, hp)) := rfl
theorem mWs_cons (hp : Nat → Ent) (k k' : WK) (r : List WK) (x : SC) (y : List SC) : mWs hp (k :: k' :: r) (x :: y) = ((match mW hp k x, mWs hp (k' :: r) y with
    | some a, some b => some (a, b)
    | _, _ => none) : Option (k.T × WKs (k' :: r))) := rfl
theorem Beg.wcell {G' : Nat → Prop} {H : List Nat} {nm : Nat} {hpc : Hp} {νc : Nat → Value} {done : List Nat} (hB : Beg w hp ν G' H nm hpc νc done) (hm : Mem base G w0 w hp ν) {k : WK} {x : k.T} {sa : SC} {v : Value} (h : mW hp k sa = some x) (hv : CRel hp ν sa v)
    (hro : ∀ n, n ∈ rdW [k] [sa] → n ∉ H) (hG : ∀ p, p ∈ rowsW [k] [sa] → p ∉ done ∧ p ∈ H ∧ ∀ g, blk (ν p) = some g → G' g) {sc : SC} {nm' : Nat} {hpc' : Hp} (hq : iW nm hpc k x = (sc, nm', hpc')) :
    ∃ νc', Beg w hp ν G' H nm' hpc' νc' (rowsW [k] [sa] ++ done) ∧ CRel hpc' νc' sc v ∧ Ext hpc νc hpc' νc' ∧ nm ≤ nm' := by
  cases k with
  | c k =>
    have hr : rowsW [WK.c k] [sa] = [] := by cases sa <;> rfl
    rw [hr]
    obtain ⟨νc', h1, h2, h3, h4, _⟩ := hB.cell hm (k := k) (x := x) h hv (fun n he _ => hro n (by subst he; exact List.mem_cons_self)) hq
    exact ⟨νc', h1, h2, h3, h4⟩
  | row t e =>
    obtain ⟨n, rfl, hrow⟩ := mW_row h
    have hq : (SC.sl nm, nm + 1, upd hpc nm (.row t x e)) = (sc, nm', hpc') := hq
    simp only [Prod.mk.injEq] at hq
    obtain ⟨rfl, rfl, rfl⟩ := hq
    have hr : rowsW [WK.row t e] [SC.sl n] = [n] := rfl
    have hGn := hG n (by rw [hr]; exact List.mem_cons_self)
    obtain ⟨hnf, hvv, hsl⟩ := hv
    have hfr := hB.free nm (Nat.le_refl _)
    have hent := hm.ent n
    rw [hrow] at hent
    have hent : w.ownsRow 0 e t.size (ν n) x.length (t.flat x) := hent
    have hadd := hB.mem.add hfr (e := .row t x e) (v := v) (by rw [hvv]; exact hent) (by simp) (fun m hlm g hg hc => by
      rw [hvv] at hg
      obtain ⟨n', e1, e2, e3, e4⟩ := hB.link m hlm
      rw [e1] at hc
      have hne : n ≠ n' := fun e => by
        subst e
        by_cases hb : wrE (hpc m)
        · exact hGn.1 (e3 hb).1
        · exact e4 hb hGn.2.1
      exact hm.sep n n' hne (by rw [hrow]; trivial) e2 g hg hc) (fun _ g hg => .inr (hGn.2.2 g (by rw [← hvv]; exact hg)))
    have hext := Ext.new (ν := νc) hfr (.row t x e) v
    refine ⟨upd νc nm v, ⟨hadd, fun m hm' => ?_, fun i hi => ?_, fun p hp' => ?_⟩, ⟨by rw [upd_same]; simp, by rw [upd_same], hsl⟩, hext, Nat.le_succ _⟩
    · rw [upd_other _ _ (by omega)]
      exact hB.free m (by omega)
    · by_cases hin : i = nm
      · subst hin
        rw [upd_same, upd_same]
        exact ⟨n, hvv, by rw [hrow]; trivial, fun _ => ⟨by rw [hr]; exact List.mem_cons_self, by rw [hrow]; trivial⟩, fun hh => absurd trivial hh⟩
      · rw [upd_other _ _ hin] at hi ⊢
        rw [upd_other _ _ hin]
        obtain ⟨n', e1, e2, e3, e4⟩ := hB.link i hi
        exact ⟨n', e1, e2, fun hb => ⟨by rw [hr]; exact List.mem_cons_of_mem _ (e3 hb).1, (e3 hb).2⟩, e4⟩
    · rw [hr] at hp'
      rcases List.mem_append.1 hp' with hp' | hp'
      · rw [List.mem_singleton] at hp'; subst hp'; exact hGn.2.1
      · exact hB.sub p hp'
theorem rowsW_cons (k : WK) (r : List WK) (x : SC) (y : List SC) : rowsW (k :: r) (x :: y) = rowsW [k] [x] ++ rowsW r y := by
  cases k with
  | row t e => cases x <;> rfl
  | c k => rfl
theorem rdW_cons (k : WK) (r : List WK) (x : SC) (y : List SC) : rdW (k :: r) (x :: y) = rdW [k] [x] ++ rdW r y := by
  cases k with
  | c k => cases x <;> rfl
  | row t e => rfl
theorem nodup_app {l m : List Nat} (h : nodupN (l ++ m) = true) : nodupN m = true ∧ ∀ p, p ∈ l → p ∉ m := by
  induction l with
  | nil => exact ⟨h, fun p hp => by cases hp⟩
  | cons x l ih =>
    simp only [List.cons_append, nodupN, Bool.and_eq_true, Bool.not_eq_true'] at h
    obtain ⟨h1, h2⟩ := ih h.2
    refine ⟨h1, fun p hp hm => ?_⟩
    cases hp with
    | head =>
      have : memN x (l ++ m) = true := memN_iff.2 (List.mem_append_right _ hm)
      rw [this] at h
      cases h.1
    | tail _ hp => exact h2 p hp hm
theorem nodup_left {l m : List Nat} (h : nodupN (l ++ m) = true) : nodupN l = true := by
  induction l with
  | nil => rfl
  | cons x l ih =>
    simp only [List.cons_append, nodupN, Bool.and_eq_true, Bool.not_eq_true'] at h ⊢
    refine ⟨?_, ih h.2⟩
    cases hx : memN x l with
    | false => rfl
    | true =>
      have : memN x (l ++ m) = true := memN_iff.2 (List.mem_append_left _ (memN_iff.1 hx))
      rw [this] at h
      cases h.1
theorem Beg.wcells {G' : Nat → Prop} {H : List Nat} (hm : Mem base G w0 w hp ν) : ∀ (ks : List WK) (x : WKs ks) (sas : List SC) (vs : List Value) (nm : Nat) (hpc : Hp) (νc : Nat → Value) (done : List Nat) (scs : List SC) (nm' : Nat) (hpc' : Hp), Beg w hp ν G' H nm hpc νc done → mWs hp ks sas = some x → CsRel hp ν sas vs →
    (∀ n, n ∈ rdW ks sas → n ∉ H) → nodupN (rowsW ks sas) = true → (∀ p, p ∈ rowsW ks sas → p ∉ done ∧ p ∈ H ∧ ∀ g, blk (ν p) = some g → G' g) → iWs ks x nm hpc = (scs, nm', hpc') →
    ∃ νc' done', Beg w hp ν G' H nm' hpc' νc' done' ∧ CsRel hpc' νc' scs vs ∧ Ext hpc νc hpc' νc' ∧ nm ≤ nm' ∧ (∀ p, p ∈ done' → p ∈ rowsW ks sas ∨ p ∈ done)
  | [], x, sas, vs, nm, hpc, νc, done, scs, nm', hpc', hB, h, hv, hro, hnd, hG, hq => by
    have hq : (([] : List SC), nm, hpc) = (scs, nm', hpc') := hq
    simp only [Prod.mk.injEq] at hq
    obtain ⟨rfl, rfl, rfl⟩ := hq
    match sas, vs, hv with
    | [], [], _ => exact ⟨νc, done, hB, trivial, .refl _ _, Nat.le_refl _, fun _ h => .inr h⟩
    | _ :: _, _, _ => exact no_some (α := Unit) h
  | [k], x, sas, vs, nm, hpc, νc, done, scs, nm', hpc', hB, h, hv, hro, hnd, hG, hq => by
    match sas, vs, hv with
    | [sa], [v], hv =>
      replace hq := (iWs_one k x nm hpc).symm.trans hq
      generalize hq1 : iW nm hpc k x = q at hq
      obtain ⟨a, b, c⟩ := q
      simp only [Prod.mk.injEq] at hq
      obtain ⟨rfl, rfl, rfl⟩ := hq
      obtain ⟨νc', h1, h2, h3, h4⟩ := hB.wcell hm (k := k) (x := x) h hv.1 hro hG hq1
      exact ⟨νc', _, h1, ⟨h2, trivial⟩, h3, h4, fun p hp' => List.mem_append.1 hp'⟩
    | [], _, _ => exact no_some (α := k.T) h
    | _ :: _ :: _, _, _ => exact no_some (α := k.T) h
    | [_], [], hv => exact hv.elim
    | [_], _ :: _ :: _, hv => exact hv.2.elim
  | k :: k' :: r, x, sas, vs, nm, hpc, νc, done, scs, nm', hpc', hB, h, hv, hro, hnd, hG, hq => by
    match sas, vs, hv with
    | sa :: sar, v :: vr, hv =>
      rw [mWs_cons] at h
      split at h
      · rename_i a b ha hb
        have h : some (a, b) = some x := h
        injection h with h
        subst h
        rw [rowsW_cons] at hnd hG
        rw [rdW_cons] at hro
        obtain ⟨hnd1, hnd2⟩ := nodup_app hnd
        replace hq : (match iW nm hpc k a with
          | (s, n, p) => match iWs (k' :: r) b n p with
            | (s', n', p') => (s :: s', n', p')) = (scs, nm', hpc') := hq
        generalize hq1 : iW nm hpc k a = q at hq
        obtain ⟨s1, n1, p1⟩ := q
        simp only [] at hq
        generalize hq2 : iWs (k' :: r) b n1 p1 = q at hq
        obtain ⟨s2, n2, p2⟩ := q
        simp only [Prod.mk.injEq] at hq
        obtain ⟨rfl, rfl, rfl⟩ := hq
        obtain ⟨νc1, h1, h2, h3, h4⟩ := hB.wcell hm (k := k) (x := a) ha hv.1 (fun n hn => hro n (List.mem_append_left _ hn)) (fun p hp => hG p (List.mem_append_left _ hp)) hq1
        obtain ⟨νc2, done2, g1, g2, g3, g4, g5⟩ := Beg.wcells hm (k' :: r) b sar vr n1 p1 νc1 _ s2 n2 p2 h1 hb hv.2 (fun n hn => hro n (List.mem_append_right _ hn)) hnd1 (fun p hp => ⟨fun hin => by
          rcases List.mem_append.1 hin with hin | hin
          · exact hnd2 p hin hp
          · exact (hG p (List.mem_append_right _ hp)).1 hin, (hG p (List.mem_append_right _ hp)).2⟩) hq2
        refine ⟨νc2, done2, g1, ⟨h2.mono g3, g2⟩, h3.trans g3, Nat.le_trans h4 g4, fun p hp' => ?_⟩
        rw [rowsW_cons]
        rcases g5 p hp' with h6 | h6
        · exact .inl (List.mem_append_right _ h6)
        · rcases List.mem_append.1 h6 with h6 | h6
          · exact .inl (List.mem_append_left _ h6)
          · exact .inr h6
      · cases h
    | [], _, _ => exact no_some (α := k.T × WKs (k' :: r)) h
    | _ :: _, [], hv => exact hv.elim
theorem Beg.arg {G' : Nat → Prop} {H : List Nat} {nm : Nat} {hpc : Hp} {νc : Nat → Value} {done : List Nat} (hB : Beg w hp ν G' H nm hpc νc done) (hm : Mem base G w0 w hp ν) {k : AK} {x : k.T} {sa : SV} {v : Value} (h : mA hp k sa = some x) (hv : VRel hp ν sa v)
    (hro : ∀ n, n ∈ rdsOf [k] [sa] → n ∉ H) (hbx : noP [k] = true ∨ ∀ p, p ∈ H → boxE (hp p)) (hnd : nodupN (ptrs [k] [sa]) = true) (hG : ∀ p, p ∈ ptrs [k] [sa] → p ∉ done ∧ p ∈ H ∧ ∀ g, blk (ν p) = some g → G' g) {sv : SV} {nm' : Nat} {hpc' : Hp} (hq : iA k x nm hpc = (sv, nm', hpc')) :
    ∃ νc' done', Beg w hp ν G' H nm' hpc' νc' done' ∧ VRel hpc' νc' sv v ∧ Ext hpc νc hpc' νc' ∧ nm ≤ nm' ∧ (∀ p, p ∈ done' → p ∈ ptrs [k] [sa] ∨ p ∈ done) := by
  cases k with
  | c k =>
    obtain ⟨y, rfl, hy⟩ := mA_c h
    have hq : (match iC nm hpc k x with | (a, nm, hp) => (one a, nm, hp)) = (sv, nm', hpc') := hq
    generalize hq1 : iC nm hpc k x = q at hq
    obtain ⟨s1, n1, p1⟩ := q
    simp only [Prod.mk.injEq] at hq
    obtain ⟨rfl, rfl, rfl⟩ := hq
    obtain ⟨z, hz, hc⟩ := hv
    injection hz with hz _
    subst hz
    obtain ⟨νc', h1, h2, h3, h4, h5⟩ := hB.cell hm (k := k) (x := x) hy hc (fun n he _ => hro n (by subst he; exact List.mem_cons_self)) hq1
    exact ⟨νc', _, h1, ⟨_, rfl, h2⟩, h3, h4, fun _ h => .inr h⟩
  | agg ks =>
    obtain ⟨cs, rfl, hy⟩ := mA_agg h
    have hq : (match iCs ks x nm hpc with | (a, nm, hp) => (SV.a true a, nm, hp)) = (sv, nm', hpc') := hq
    generalize hq1 : iCs ks x nm hpc = q at hq
    obtain ⟨s1, n1, p1⟩ := q
    simp only [Prod.mk.injEq] at hq
    obtain ⟨rfl, rfl, rfl⟩ := hq
    obtain ⟨vs, rfl, hc⟩ := hv
    obtain ⟨νc', h1, h2, h3, h4, h5⟩ := Beg.cells hm ks x cs vs.toList nm hpc νc _ _ _ hB hy hc (fun n hn _ => hro n (by
      show n ∈ slN cs ++ []
      rw [List.append_nil]; exact hn)) hq1
    exact ⟨νc', _, h1, ⟨_, rfl, h2⟩, h3, h4, fun _ h => .inr h⟩
  | w g ks =>
    obtain ⟨cs, rfl, hy⟩ := mA_w h
    have hq : (match iWs ks x nm hpc with | (a, nm, hp) => (SV.a g a, nm, hp)) = (sv, nm', hpc') := hq
    generalize hq1 : iWs ks x nm hpc = q at hq
    obtain ⟨s1, n1, p1⟩ := q
    simp only [Prod.mk.injEq] at hq
    obtain ⟨rfl, rfl, rfl⟩ := hq
    have hpe : ptrs [AK.w g ks] [SV.a g cs] = rowsW ks cs := by
      show rowsW ks cs ++ [] = _
      rw [List.append_nil]
    have hre : rdsOf [AK.w g ks] [SV.a g cs] = rdW ks cs := by
      show rdW ks cs ++ [] = _
      rw [List.append_nil]
    rw [hpe] at hnd hG ⊢
    rw [hre] at hro
    cases g with
    | true =>
      obtain ⟨vs, rfl, hc⟩ := hv
      obtain ⟨νc', done', h1, h2, h3, h4, h5⟩ := Beg.wcells hm ks x cs vs.toList nm hpc νc done _ _ _ hB hy hc hro hnd hG hq1
      exact ⟨νc', done', h1, ⟨_, rfl, h2⟩, h3, h4, h5⟩
    | false =>
      obtain ⟨y, rfl, hc⟩ := hv
      obtain ⟨νc', done', h1, h2, h3, h4, h5⟩ := Beg.wcells hm ks x [y] [v] nm hpc νc done _ _ _ hB hy ⟨hc, trivial⟩ hro hnd hG hq1
      refine ⟨νc', done', h1, ?_, h3, h4, h5⟩
      match s1, h2 with
      | [z], h2 => exact ⟨z, rfl, h2.1⟩
      | [], h2 => exact h2.elim
      | _ :: _ :: _, h2 => exact h2.2.elim
  | ptr ks t =>
    obtain ⟨n, cs, rfl, hbox, hy⟩ := mA_ptr h
    have hq : (match iCs ks x (nm + 1) hpc with | (cs, nm', hp) => (one (.ptr nm 0), nm', upd hp nm (.box cs t))) = (sv, nm', hpc') := hq
    generalize hq1 : iCs ks x (nm + 1) hpc = q at hq
    obtain ⟨s1, n1, p1⟩ := q
    simp only [Prod.mk.injEq] at hq
    obtain ⟨rfl, rfl, rfl⟩ := hq
    obtain ⟨hnf, g, hg, hvv⟩ := hv.ptr
    have hent := hm.ent n
    rw [hbox] at hent
    obtain ⟨g', vs, hg', hheap, hcs⟩ := hent
    rw [hg] at hg'
    simp only [Value.pointer.injEq, Option.some.injEq, Addr.mk.injEq, and_true] at hg'
    subst hg'
    have hps : ptrs [.ptr ks t] [.a false [.ptr n 0]] = [n] := rfl
    have hGn := hG n (by rw [hps]; exact List.mem_cons_self)
    have hB' : Beg w hp ν G' H (nm + 1) hpc νc done := ⟨hB.mem, fun m hm' => hB.free m (by omega), hB.link, hB.sub⟩
    have hbx : ∀ p, p ∈ H → boxE (hp p) := hbx.resolve_left (by intro h; cases h)
    obtain ⟨νc1, h1, h2, h3, h4, h5⟩ := Beg.cells hm ks x cs vs.toList (nm + 1) hpc νc s1 n1 p1 hB' hy hcs (fun n _ hnb hin => hnb (hbx n hin)) hq1
    have hslot : p1 nm = .free := by rw [h5 nm (by omega)]; exact hB.free nm (Nat.le_refl _)
    have hext := Ext.new (ν := νc1) hslot (.box s1 t) (.pointer (some ⟨g, 0, none⟩))
    have hadd := h1.mem.add hslot (e := .box s1 t) (v := .pointer (some ⟨g, 0, none⟩)) ⟨g, vs, rfl, hheap, h2.mono hext⟩ (by simp) (fun m hlm g' hg' hc => by
      simp only [blk, Option.some.injEq] at hg'
      subst hg'
      obtain ⟨n', e1, e2, e3, e4⟩ := h1.link m hlm
      rw [e1] at hc
      have hne : n ≠ n' := fun e => by
        subst e
        by_cases hb : wrE (p1 m)
        · exact hGn.1 (e3 hb).1
        · exact e4 hb hGn.2.1
      exact hm.sep n n' hne (by rw [hbox]; trivial) e2 g (by rw [hg]; rfl) hc) (fun _ g' hg' => by
      simp only [blk, Option.some.injEq] at hg'
      subst hg'
      exact .inr (hGn.2.2 g (by rw [hg]; rfl)))
    refine ⟨upd νc1 nm (.pointer (some ⟨g, 0, none⟩)), ptrs [.ptr ks t] [.a false [.ptr n 0]] ++ done, ⟨hadd, fun m hm' => ?_, fun i hi => ?_, fun p hp' => ?_⟩, ⟨_, rfl, by rw [upd_same]; simp, g, by rw [upd_same], hvv⟩, h3.trans hext, by omega, fun p hp' => List.mem_append.1 hp'⟩
    · rw [upd_other _ _ (by omega)]
      exact h1.free m hm'
    · by_cases hin : i = nm
      · subst hin
        rw [upd_same, upd_same]
        exact ⟨n, hg.symm, by rw [hbox]; trivial, fun _ => ⟨by rw [hps]; exact List.mem_cons_self, by rw [hbox]; trivial⟩, fun hh => absurd trivial hh⟩
      · rw [upd_other _ _ hin] at hi ⊢
        rw [upd_other _ _ hin]
        obtain ⟨n', e1, e2, e3, e4⟩ := h1.link i hi
        exact ⟨n', e1, e2, fun hb => ⟨by rw [hps]; exact List.mem_cons_of_mem _ (e3 hb).1, (e3 hb).2⟩, e4⟩
    · rw [hps] at hp'
      rcases List.mem_append.1 hp' with hp' | hp'
      · rw [List.mem_singleton] at hp'; subst hp'; exact hGn.2.1
      · exact h1.sub p hp'
theorem ptrs_cons (k : AK) (r : List AK) (x : SV) (y : List SV) : ptrs (k :: r) (x :: y) = ptrs [k] [x] ++ ptrs r y := by
  cases k with
  | ptr ks t =>
    match x with
    | .a false [.ptr n 0] => rfl
    | .a false [.ptr n (m + 1)] => rfl
    | .a false [] => rfl
    | .a false [.any] | .a false [.bool _] | .a false [.int _ _] | .a false [.str _] | .a false [.nilp] | .a false [.sl _] | .a false [.nils] | .a false [.ep _ _ _ _] => rfl
    | .a false (x :: _ :: _) => cases x with
      | ptr n m => cases m <;> rfl
      | _ => rfl
    | .a true _ => rfl
    | .any => rfl
    | .tup _ => rfl
  | w g ks =>
    match x with
    | .a g' cs =>
      show rowsW ks cs ++ ptrs r y = (rowsW ks cs ++ []) ++ ptrs r y
      rw [List.append_nil]
    | .any => rfl
    | .tup _ => rfl
  | _ => rfl
theorem rdsOf_cons (k : AK) (r : List AK) (x : SV) (y : List SV) : rdsOf (k :: r) (x :: y) = rdsOf [k] [x] ++ rdsOf r y := by
  cases k with
  | ptr ks t => cases x <;> rfl
  | w g ks =>
    match x with
    | .a g' cs =>
      show rdW ks cs ++ rdsOf r y = (rdW ks cs ++ []) ++ rdsOf r y
      rw [List.append_nil]
    | .any => rfl
    | .tup _ => rfl
  | c k =>
    match x with
    | .a g' cs =>
      show slN cs ++ rdsOf r y = (slN cs ++ []) ++ rdsOf r y
      rw [List.append_nil]
    | .any => rfl
    | .tup _ => rfl
  | agg ks =>
    match x with
    | .a g' cs =>
      show slN cs ++ rdsOf r y = (slN cs ++ []) ++ rdsOf r y
      rw [List.append_nil]
    | .any => rfl
    | .tup _ => rfl
theorem noP_cons {k : AK} {r : List AK} (h : noP (k :: r) = true) : noP [k] = true ∧ noP r = true := by
  cases k with
  | ptr ks t => cases h
  | _ => exact ⟨rfl, h⟩
theorem Beg.args {G' : Nat → Prop} {H : List Nat} (hm : Mem base G w0 w hp ν) : ∀ (ks : List AK) (x : AKs ks) (sas : List SV) (vs : List Value) (nm : Nat) (hpc : Hp) (νc : Nat → Value) (done : List Nat) (svs : List SV) (nm' : Nat) (hpc' : Hp), Beg w hp ν G' H nm hpc νc done → mAs hp ks sas = some x → VsRel hp ν sas vs →
    (∀ n, n ∈ rdsOf ks sas → n ∉ H) → (noP ks = true ∨ ∀ p, p ∈ H → boxE (hp p)) → nodupN (ptrs ks sas) = true → (∀ p, p ∈ ptrs ks sas → p ∉ done ∧ p ∈ H ∧ ∀ g, blk (ν p) = some g → G' g) → iAs ks x nm hpc = (svs, nm', hpc') →
    ∃ νc' done', Beg w hp ν G' H nm' hpc' νc' done' ∧ VsRel hpc' νc' svs vs ∧ Ext hpc νc hpc' νc' ∧ nm ≤ nm'
  | [], x, sas, vs, nm, hpc, νc, done, svs, nm', hpc', hB, h, hv, _, _, _, _, hq => by
    have hq : (([] : List SV), nm, hpc) = (svs, nm', hpc') := hq
    simp only [Prod.mk.injEq] at hq
    obtain ⟨rfl, rfl, rfl⟩ := hq
    match sas, vs, hv with
    | [], [], _ => exact ⟨νc, done, hB, trivial, .refl _ _, Nat.le_refl _⟩
    | _ :: _, _, _ => exact no_some (α := Unit) h
  | [k], x, sas, vs, nm, hpc, νc, done, svs, nm', hpc', hB, h, hv, hro, hbx, hnd, hG, hq => by
    match sas, vs, hv with
    | [sa], [v], hv =>
      replace hq := (iAs_one k x nm hpc).symm.trans hq
      generalize hq1 : iA k x nm hpc = q at hq
      obtain ⟨a, b, c⟩ := q
      simp only [Prod.mk.injEq] at hq
      obtain ⟨rfl, rfl, rfl⟩ := hq
      obtain ⟨νc', done', h1, h2, h3, h4, _⟩ := hB.arg hm (k := k) (x := x) h hv.1 hro hbx hnd hG hq1
      exact ⟨νc', done', h1, ⟨h2, trivial⟩, h3, h4⟩
    | [], _, _ => exact no_some (α := k.T) h
    | _ :: _ :: _, _, _ => exact no_some (α := k.T) h
    | [_], [], hv => exact hv.elim
    | [_], _ :: _ :: _, hv => exact hv.2.elim
  | k :: k' :: r, x, sas, vs, nm, hpc, νc, done, svs, nm', hpc', hB, h, hv, hro, hbx, hnd, hG, hq => by
    match sas, vs, hv with
    | sa :: sar, v :: vr, hv =>
      rw [mAs_cons] at h
      split at h
      · rename_i a b ha hb
        have h : some (a, b) = some x := h
        injection h with h
        subst h
        rw [ptrs_cons] at hnd hG
        rw [rdsOf_cons] at hro
        obtain ⟨hnd1, hnd2⟩ := nodup_app hnd
        have hnd3 := nodup_left hnd
        replace hq : (match iA k a nm hpc with
          | (s, n, p) => match iAs (k' :: r) b n p with
            | (s', n', p') => (s :: s', n', p')) = (svs, nm', hpc') := hq
        generalize hq1 : iA k a nm hpc = q at hq
        obtain ⟨s1, n1, p1⟩ := q
        simp only [] at hq
        generalize hq2 : iAs (k' :: r) b n1 p1 = q at hq
        obtain ⟨s2, n2, p2⟩ := q
        simp only [Prod.mk.injEq] at hq
        obtain ⟨rfl, rfl, rfl⟩ := hq
        obtain ⟨νc1, done1, h1, h2, h3, h4, h5⟩ := hB.arg hm (k := k) (x := a) ha hv.1 (fun n hn => hro n (List.mem_append_left _ hn)) (hbx.imp (fun h => (noP_cons h).1) id) hnd3 (fun p hp => hG p (List.mem_append_left _ hp)) hq1
        obtain ⟨νc2, done2, g1, g2, g3, g4⟩ := Beg.args hm (k' :: r) b sar vr n1 p1 νc1 done1 s2 n2 p2 h1 hb hv.2 (fun n hn => hro n (List.mem_append_right _ hn)) (hbx.imp (fun h => (noP_cons h).2) id) hnd1 (fun p hp => ⟨fun hin => by
          rcases h5 p hin with hin | hin
          · exact hnd2 p hin hp
          · exact (hG p (List.mem_append_right _ hp)).1 hin, (hG p (List.mem_append_right _ hp)).2⟩) hq2
        exact ⟨νc2, done2, g1, ⟨h2.mono g3, g2⟩, h3.trans g3, Nat.le_trans h4 g4⟩
      · cases h
    | [], _, _ => exact no_some (α := k.T × AKs (k' :: r)) h
    | _ :: _, [], hv => exact hv.elim
end
end Go.Sx
