/- A law's parameters, opened: a contract that tells true for all good values is the law's row. -/
import Derived.Test.YtkcfdkfdmglamaaSyZb
import Derived.Deep.Slices
import Derived.ChangeArms
import Derived.ChangeShapes
import Derived.ChangeMaps5
import Derived.ChangeOld
import Derived.Below
import Derived.Carry
set_option linter.unusedVariables false
set_option linter.unusedSimpArgs false
namespace Go.Sx
open Go.ChangeShapes Go.WideShapes Go.Deep Go.RowKit

/-! ### good values -/
def Ty.good : (t : Ty) → t.T → Prop
  | .int k, (n : Int) => (Lit.int k n).wf = true
  | .bool, _ => True
  | .str, (s : ByteArray) => s.size ≤ maxLen
  | .pair a b, (p : a.T × b.T) => a.good p.1 ∧ b.good p.2
def CK.good : (k : CK) → k.T → Prop
  | .int k, (n : Int) => (Lit.int k n).wf = true
  | .bool, _ => True
  | .str, (s : ByteArray) => s.size ≤ maxLen
  | .sl t, (l : List t.T) => l.length ≤ maxLen ∧ ∀ x ∈ l, t.good x
def CKs.good : (ks : List CK) → CKs ks → Prop
  | [], _ => True
  | [k], x => CK.good k x
  | k :: k' :: r, (x : k.T × CKs (k' :: r)) => CK.good k x.1 ∧ CKs.good (k' :: r) x.2
def AK.good : (k : AK) → k.T → Prop
  | .c k, x => CK.good k x
  | .agg ks, x => CKs.good ks x
  | .ptr ks _, x => CKs.good ks x
  | .w _ _, _ => True
def AKs.good : (ks : List AK) → AKs ks → Prop
  | [], _ => True
  | [k], x => AK.good k x
  | k :: k' :: r, (x : k.T × AKs (k' :: r)) => AK.good k x.1 ∧ AKs.good (k' :: r) x.2

/-! ### types, with their places -/
def tyFs (f : TypeId → Option Ty) (c : TypeId → Nat) : Nat → List Field → Option Ty
  | _, [] => none
  | off, [x] => match f x.type with
    | some a => cnd (Nat.beq x.offset off && Nat.beq (c x.type) a.size) (some a) none
    | none => none
  | off, x :: y :: r => match f x.type, tyFs f c (off + c x.type) (y :: r) with
    | some a, some b => cnd (Nat.beq x.offset off && Nat.beq (c x.type) a.size) (some (.pair a b)) none
    | _, _ => none
def tyO (P : Program) : Nat → TypeId → Option Ty
  | 0, _ => none
  | d + 1, t => match P.underlying t with
    | some (.int k) => some (.int k)
    | some .bool => some .bool
    | some .string => some .str
    | some (.struct fs) => match tyFs (tyO P d) P.cellsOf 0 fs.toList with
      | some ty => cnd (Nat.beq (P.cellsOf t) ty.size) (some ty) none
      | none => none
    | _ => none
def ckFs (f : TypeId → Option (List CK)) (c : TypeId → Nat) : Nat → List Field → Option (List CK)
  | _, [] => some []
  | off, x :: r => match f x.type, ckFs f c (off + c x.type) r with
    | some a, some b => cnd (Nat.beq x.offset off && Nat.beq (c x.type) a.length) (some (a ++ b)) none
    | _, _ => none
def ckO (P : Program) : Nat → TypeId → Option (List CK)
  | 0, _ => none
  | d + 1, t => match P.underlying t with
    | some (.int k) => some [.int k]
    | some .bool => some [.bool]
    | some .string => some [.str]
    | some (.slice e) => match tyO P d e with
      | some ty => cnd (Nat.beq (P.cellsOf e) ty.size) (some [.sl ty]) none
      | none => none
    | some (.struct fs) => match ckFs (ckO P d) P.cellsOf 0 fs.toList with
      | some ks => cnd (Nat.beq (P.cellsOf t) ks.length) (some ks) none
      | none => none
    | _ => none
def akO (P : Program) (t : TypeId) : Option AK :=
  match P.underlying t with
  | some (.struct _) => match ckO P 6 t with
    | some ks => some (.agg ks)
    | none => none
  | some (.int k) => some (.c (.int k))
  | some .bool => some (.c .bool)
  | some .string => some (.c .str)
  | some (.slice e) => match tyO P 6 e with
    | some ty => cnd (Nat.beq (P.cellsOf e) ty.size) (some (.c (.sl ty))) none
    | none => none
  | _ => none
def aksO (P : Program) : List TypeId → Option (List AK)
  | [] => some []
  | t :: r => match akO P t, aksO P r with
    | some k, some ks => some (k :: ks)
    | _, _ => none

/-! ### what cells say -/
def SlR (w : World) (ty : Ty) (l : List ty.T) (v : Value) : Prop :=
  ∃ A c, v = .slice A l.length c ∧ l.length ≤ c ∧ l.length ≤ maxLen ∧ (l ≠ [] → ∃ a, A = some a ∧ ∀ j u, (ty.flat l)[j]? = some u → w.cell? (a.add j) = some u)
def CG (w : World) : (k : CK) → k.T → Value → Prop
  | .int k, (n : Int), v => v = .int k n
  | .bool, (b : Bool), v => v = .bool b
  | .str, (s : ByteArray), v => v = .string s
  | .sl t, (l : List t.T), v => SlR w t l v
def CsG (w : World) : (ks : List CK) → CKs ks → List Value → Prop
  | [], _, [] => True
  | [k], x, [v] => CG w k x v
  | k :: k' :: r, (x : k.T × CKs (k' :: r)), v :: vs => CG w k x.1 v ∧ CsG w (k' :: r) x.2 vs
  | _, _, _ => False
def AG (w : World) : (k : AK) → k.T → Value → Prop
  | .c k, x, v => CG w k x v
  | .agg ks, x, v => ∃ vs, v = .agg vs ∧ CsG w ks x vs.toList
  | .ptr _ _, _, _ => False
  | .w _ _, _, _ => False
def AsG (w : World) : (ks : List AK) → AKs ks → List Value → Prop
  | [], _, [] => True
  | [k], x, [v] => AG w k x v
  | k :: k' :: r, (x : k.T × AKs (k' :: r)), v :: vs => AG w k x.1 v ∧ AsG w (k' :: r) x.2 vs
  | _, _, _ => False

section
variable {H : Type} {enc : TypeId × Value → H} {P : Program} {w : World} {base : Nat} {spare : Nat → Bool} {held : Bool}
/-! ### cells of a type -/
def TyOk (enc : TypeId × Value → H) (P : Program) (w : World) (base : Nat) (spare : Nat → Bool) (held : Bool) (f : TypeId → Option Ty) : Prop :=
  ∀ t ty, f t = some ty → ∀ fuel cs x, DataW.trod enc P w base spare held fuel t cs = some x → ∃ a : ty.T, cs = ty.cells a ∧ ty.good a
theorem beq_and {a b c d : Nat} (h : (Nat.beq a b && Nat.beq c d) = true) : a = b ∧ c = d := by
  rw [Bool.and_eq_true] at h
  exact ⟨Nat.eq_of_beq_eq_true h.1, Nat.eq_of_beq_eq_true h.2⟩
theorem cnd_some {α : Type} {b : Bool} {x y : α} (h : cnd b (some x) none = some y) : b = true ∧ x = y := by
  cases b with
  | true => exact ⟨rfl, Option.some.inj h⟩
  | false => exact no_some h
theorem take_cells {α : Type} {cs : List α} {off n : Nat} (h : cs.length = off + n) : (cs.drop off).take n = cs.drop off :=
  List.take_of_length_le (by rw [List.length_drop]; omega)
theorem tyFs_trod {f : TypeId → Option Ty} (hf : TyOk enc P w base spare held f) : ∀ (fs : List Field) (off : Nat) (ty : Ty), tyFs f P.cellsOf off fs = some ty → ∀ (cs : List Value) (n : Nat), cs.length = off + ty.size →
    (∀ (i : Nat) (fl : Field), fs[i]? = some fl → ∃ y, DataW.trod enc P w base spare held n fl.type ((cs.drop fl.offset).take (P.cellsOf fl.type)) = some y) → ∃ a : ty.T, cs.drop off = ty.cells a ∧ ty.good a
  | [], off, ty, h, cs, n, hl, hi => no_some h
  | [x], off, ty, h, cs, n, hl, hi => by
    have h : (match f x.type with
      | some a => cnd (Nat.beq x.offset off && Nat.beq (P.cellsOf x.type) a.size) (some a) none
      | none => none) = some ty := h
    split at h
    · rename_i a ha
      obtain ⟨hb, rfl⟩ := cnd_some h
      obtain ⟨h1, h2⟩ := beq_and hb
      obtain ⟨y, hy⟩ := hi 0 x rfl
      rw [h1, h2, take_cells hl] at hy
      exact hf _ _ ha _ _ _ hy
    · exact no_some h
  | x :: y :: r, off, ty, h, cs, n, hl, hi => by
    have h : (match f x.type, tyFs f P.cellsOf (off + P.cellsOf x.type) (y :: r) with
      | some a, some b => cnd (Nat.beq x.offset off && Nat.beq (P.cellsOf x.type) a.size) (some (Ty.pair a b)) none
      | _, _ => none) = some ty := h
    split at h
    · rename_i a b ha hb
      obtain ⟨hb', rfl⟩ := cnd_some h
      obtain ⟨h1, h2⟩ := beq_and hb'
      have hl' : cs.length = off + P.cellsOf x.type + b.size := by rw [hl, h2]; simp only [Ty.size]; omega
      obtain ⟨z, hz⟩ := hi 0 x rfl
      rw [h1] at hz
      obtain ⟨p, hp, hg⟩ := hf _ _ ha _ _ _ hz
      obtain ⟨q, hq, hg'⟩ := tyFs_trod hf (y :: r) _ b hb cs n hl' (fun i fl hfl => hi (i + 1) fl hfl)
      refine ⟨(p, q), ?_, hg, hg'⟩
      show cs.drop off = a.cells p ++ b.cells q
      rw [← hp, ← hq, ← List.drop_drop, List.take_append_drop]
    · exact no_some h
theorem tyO_trod : ∀ d, TyOk enc P w base spare held (tyO P d)
  | 0, t, ty, h, fuel, cs, x, hx => no_some h
  | d + 1, t, ty, h, fuel, cs, x, hx => by
    unfold tyO at h
    split at h
    · rename_i k hk
      obtain rfl := Option.some.inj h
      obtain ⟨n, rfl, _, hw⟩ := DataW.trod_int hk hx
      exact ⟨n, rfl, hw⟩
    · rename_i hk
      obtain rfl := Option.some.inj h
      obtain ⟨n, rfl, _⟩ := DataW.trod_bool hk hx
      exact ⟨n, rfl, trivial⟩
    · rename_i hk
      obtain rfl := Option.some.inj h
      obtain ⟨n, rfl, _, hs⟩ := DataW.trod_string hk hx
      exact ⟨n, rfl, hs⟩
    · rename_i fs hk
      split at h
      · rename_i ty' hty
        obtain ⟨hb, rfl⟩ := cnd_some h
        have hsz := Nat.eq_of_beq_eq_true hb
        obtain ⟨xs, n, _, _, hl, hxl, hi⟩ := DataW.trod_struct hk hx
        have := tyFs_trod (tyO_trod d) fs.toList 0 ty' hty cs n (by rw [hl, hsz]; omega) (fun i fl hfl => by
          have hfl' : fs[i]? = some fl := by simpa using hfl
          have h1 := hi i fl hfl'
          have hil : i < xs.length := by
            have := (Array.getElem?_eq_some_iff.1 hfl').1
            omega
          exact ⟨xs[i], by rw [h1]; exact List.getElem?_eq_getElem hil⟩)
        simpa using this
      · exact no_some h
    · exact no_some h
instance (ty : Ty) : Inhabited ty.T := ⟨ty.zero⟩
theorem tyO_slice {t e : TypeId} {d fuel : Nat} {ty : Ty} {cs : List Value} {x : DataW H × List MemPlace} (ht : P.underlying t = some (.slice e)) (hty : tyO P d e = some ty) (hc : P.cellsOf e = ty.size)
    (h : DataW.trod enc P w base spare held fuel t cs = some x) : ∃ (l : List ty.T) (v : Value), cs = [v] ∧ SlR w ty l v ∧ l.length ≤ maxLen ∧ ∀ x ∈ l, ty.good x := by
  rcases open_slice ht h with ⟨rfl, _⟩ | ⟨a, len, cap, m, n, D, Pl, rfl, _, hl, hm, hmm, _, hi⟩
  · exact ⟨[], _, rfl, ⟨none, 0, rfl, Nat.le_refl _, Nat.zero_le _, fun h => absurd rfl h⟩, Nat.zero_le _, fun x hx => by cases hx⟩
  · have hml : len ≤ m := by rw [hmm]; split <;> omega
    obtain ⟨V, hV⟩ := choose_lt (n := len) (p := fun i (v : ty.T) => ty.good v ∧ ∃ cs', w.cells? base (a.add (i * P.cellsOf e)) (P.cellsOf e) = some cs' ∧ cs' = ty.cells v) (fun i hlt => by
      obtain ⟨cs', h1, h2⟩ := hi i (by omega)
      obtain ⟨v, hk, hg⟩ := tyO_trod d e ty hty _ _ _ h2
      exact ⟨v, hg, cs', h1, hk⟩)
    have hlen : ((List.range len).map V).length = len := by simp
    have hle : len ≤ maxLen := by omega
    refine ⟨(List.range len).map V, _, rfl, ⟨some a, cap, by rw [hlen], by rw [hlen]; exact hl, by rw [hlen]; exact hle, fun _ => ⟨a, rfl, fun j u hj => ?_⟩⟩, by rw [hlen]; exact hle, fun x hx => ?_⟩
    · have hjl : j < ((List.range len).map V).length * ty.size := by
        have := (List.getElem?_eq_some_iff.1 hj).1
        rw [Ty.flat_len] at this; exact this
      have hpos : 0 < ty.size := by
        rcases Nat.eq_zero_or_pos ty.size with h0 | h0
        · rw [h0] at hjl; omega
        · exact h0
      have hq : j / ty.size < ((List.range len).map V).length := Nat.div_lt_of_lt_mul (by rw [Nat.mul_comm]; exact hjl)
      have hr : j % ty.size < ty.size := Nat.mod_lt _ hpos
      have hj2 : j / ty.size * ty.size + j % ty.size = j := Nat.div_add_mod' j ty.size
      rw [← hj2, Ty.flat_get ty _ _ _ hq hr] at hj
      have hVq : ((List.range len).map V)[j / ty.size] = V (j / ty.size) := by simp
      rw [hVq] at hj
      obtain ⟨_, cs', hcs, rfl⟩ := hV (j / ty.size) (by rw [hlen] at hq; exact hq)
      obtain ⟨_, _, hat⟩ := World.cells?_some hcs
      have := hat (j % ty.size) (by rw [hc]; exact hr)
      rw [hj, hc] at this
      have e : (a.add (j / ty.size * ty.size)).add (j % ty.size) = a.add j := by rw [add_add, hj2]
      rw [e] at this
      exact this
    · obtain ⟨j, hj, rfl⟩ := List.mem_map.1 hx
      exact (hV j (List.mem_range.1 hj)).1
/-! ### cells of a parameter -/
theorem CsG.one {k : CK} {x : k.T} {v : Value} (h : CG w k x v) : CsG w [k] x [v] := h
theorem CsG.cons' {k : CK} {x : k.T} {v : Value} (h : CG w k x v) (hg : CK.good k x) : ∀ {r : List CK} {y : CKs r} {vs : List Value}, CsG w r y vs → CKs.good r y → ∃ z : CKs (k :: r), CsG w (k :: r) z (v :: vs) ∧ CKs.good (k :: r) z
  | [], y, [], _, _ => ⟨x, h, hg⟩
  | [], y, _ :: _, h', _ => h'.elim
  | k' :: r, y, vs, h', hg' => ⟨(x, y), ⟨h, h'⟩, hg, hg'⟩
theorem CsG.app : ∀ {r r' : List CK} {y : CKs r} {y' : CKs r'} {vs vs' : List Value}, CsG w r y vs → CKs.good r y → CsG w r' y' vs' → CKs.good r' y' → ∃ z : CKs (r ++ r'), CsG w (r ++ r') z (vs ++ vs') ∧ CKs.good (r ++ r') z
  | [], r', y, y', [], vs', _, _, h', hg' => ⟨y', h', hg'⟩
  | [], r', y, y', _ :: _, vs', h, _, _, _ => h.elim
  | [k], r', y, y', [v], vs', h, hg, h', hg' => CsG.cons' (k := k) (x := y) h hg h' hg'
  | [k], r', y, y', [], vs', h, _, _, _ => h.elim
  | [k], r', y, y', _ :: _ :: _, vs', h, _, _, _ => h.elim
  | k :: k' :: r, r', y, y', v :: vs, vs', h, hg, h', hg' => by
    obtain ⟨z, h1, h2⟩ := CsG.app (r := k' :: r) h.2 hg.2 h' hg'
    exact CsG.cons' (k := k) h.1 hg.1 h1 h2
  | k :: k' :: r, r', y, y', [], vs', h, _, _, _ => h.elim
theorem CsG.len : ∀ {r : List CK} {y : CKs r} {vs : List Value}, CsG w r y vs → vs.length = r.length
  | [], y, [], _ => rfl
  | [], y, _ :: _, h => h.elim
  | [k], y, [v], _ => rfl
  | [k], y, [], h => h.elim
  | [k], y, _ :: _ :: _, h => h.elim
  | k :: k' :: r, y, v :: vs, h => by rw [List.length_cons, CsG.len h.2]; rfl
  | k :: k' :: r, y, [], h => h.elim
def CkOk (enc : TypeId × Value → H) (P : Program) (w : World) (base : Nat) (spare : Nat → Bool) (held : Bool) (f : TypeId → Option (List CK)) : Prop :=
  ∀ t ks, f t = some ks → ∀ fuel cs x, DataW.trod enc P w base spare held fuel t cs = some x → ∃ a : CKs ks, CsG w ks a cs ∧ CKs.good ks a
theorem ckFs_trod {f : TypeId → Option (List CK)} (hf : CkOk enc P w base spare held f) : ∀ (fs : List Field) (off : Nat) (ks : List CK), ckFs f P.cellsOf off fs = some ks → ∀ (cs : List Value) (n : Nat), cs.length = off + ks.length →
    (∀ (i : Nat) (fl : Field), fs[i]? = some fl → ∃ y, DataW.trod enc P w base spare held n fl.type ((cs.drop fl.offset).take (P.cellsOf fl.type)) = some y) → ∃ a : CKs ks, CsG w ks a (cs.drop off) ∧ CKs.good ks a
  | [], off, ks, h, cs, n, hl, hi => by
    have h : some [] = some ks := h
    obtain rfl := Option.some.inj h
    have : cs.drop off = [] := List.drop_eq_nil_of_le (by rw [hl]; simp)
    rw [this]
    exact ⟨(), trivial, trivial⟩
  | x :: r, off, ks, h, cs, n, hl, hi => by
    unfold ckFs at h
    split at h
    · rename_i a b ha hb
      obtain ⟨hb', rfl⟩ := cnd_some h
      obtain ⟨h1, h2⟩ := beq_and hb'
      rw [List.length_append] at hl
      obtain ⟨z, hz⟩ := hi 0 x rfl
      rw [h1] at hz
      obtain ⟨p, hp, hg⟩ := hf _ _ ha _ _ _ hz
      obtain ⟨q, hq, hg'⟩ := ckFs_trod hf r _ b hb cs n (by omega) (fun i fl hfl => hi (i + 1) fl hfl)
      obtain ⟨z, h3, h4⟩ := hp.app hg hq hg'
      rw [← List.drop_drop, List.take_append_drop] at h3
      exact ⟨z, h3, h4⟩
    · exact no_some h
theorem ckO_trod : ∀ d, CkOk enc P w base spare held (ckO P d)
  | 0, t, ty, h, fuel, cs, x, hx => no_some h
  | d + 1, t, ty, h, fuel, cs, x, hx => by
    unfold ckO at h
    split at h
    · rename_i k hk
      obtain rfl := Option.some.inj h
      obtain ⟨n, rfl, _, hw⟩ := DataW.trod_int hk hx
      exact ⟨n, rfl, hw⟩
    · rename_i hk
      obtain rfl := Option.some.inj h
      obtain ⟨n, rfl, _⟩ := DataW.trod_bool hk hx
      exact ⟨n, rfl, trivial⟩
    · rename_i hk
      obtain rfl := Option.some.inj h
      obtain ⟨n, rfl, _, hs⟩ := DataW.trod_string hk hx
      exact ⟨n, rfl, hs⟩
    · rename_i e hk
      split at h
      · rename_i ty' hty
        obtain ⟨hb, rfl⟩ := cnd_some h
        obtain ⟨l, v, rfl, h1, h2, h3⟩ := tyO_slice hk hty (Nat.eq_of_beq_eq_true hb) hx
        exact ⟨l, h1, h2, h3⟩
      · exact no_some h
    · rename_i fs hk
      split at h
      · rename_i ty' hty
        obtain ⟨hb, rfl⟩ := cnd_some h
        have hsz := Nat.eq_of_beq_eq_true hb
        obtain ⟨xs, n, _, _, hl, hxl, hi⟩ := DataW.trod_struct hk hx
        have := ckFs_trod (ckO_trod d) fs.toList 0 ty' hty cs n (by rw [hl, hsz]; omega) (fun i fl hfl => by
          have hfl' : fs[i]? = some fl := by simpa using hfl
          have h1 := hi i fl hfl'
          have hil : i < xs.length := by
            have := (Array.getElem?_eq_some_iff.1 hfl').1
            omega
          exact ⟨xs[i], by rw [h1]; exact List.getElem?_eq_getElem hil⟩)
        simpa using this
      · exact no_some h
    · exact no_some h
/-! ### parameters -/
theorem param_open {t : TypeId} {k : AK} {r : Reach} {b0 : Nat} {v : Value} {d : DataW H} {ps : List MemPlace} (hk : akO P t = some k) (hv : Value.okWide P w r b0 t v) (h : DataW.Trod enc P w base spare held t v d ps) :
    ∃ x : k.T, AG w k x v ∧ AK.good k x := by
  obtain ⟨fuel, hf⟩ := h
  unfold akO at hk
  split at hk
  · rename_i fs ht
    split at hk
    · rename_i ks hks
      obtain rfl := Option.some.inj hk
      obtain ⟨cs, rfl, _⟩ := okWide_struct ht hv
      obtain ⟨a, h1, h2⟩ := ckO_trod 6 t ks hks _ _ _ hf
      exact ⟨a, ⟨cs, rfl, by simpa [Value.cells] using h1⟩, h2⟩
    · exact no_some hk
  · rename_i ik ht
    obtain rfl := Option.some.inj hk
    obtain ⟨n, rfl⟩ := okWide_int ht hv
    obtain ⟨m, hm, _, hw⟩ := DataW.trod_int ht hf
    simp [Value.cells] at hm
    subst hm
    exact ⟨n, rfl, hw⟩
  · rename_i ht
    obtain rfl := Option.some.inj hk
    obtain ⟨n, rfl⟩ := okWide_bool ht hv
    exact ⟨n, rfl, trivial⟩
  · rename_i ht
    obtain rfl := Option.some.inj hk
    obtain ⟨n, rfl⟩ := okWide_string ht hv
    obtain ⟨m, hm, _, hw⟩ := DataW.trod_string ht hf
    simp [Value.cells] at hm
    subst hm
    exact ⟨n, rfl, hw⟩
  · rename_i e ht
    split at hk
    · rename_i ty hty
      obtain ⟨hb, rfl⟩ := cnd_some hk
      obtain ⟨A, len, cap, rfl⟩ := okWide_slice ht hv
      obtain ⟨l, u, hu, h1, h2⟩ := tyO_slice ht hty (Nat.eq_of_beq_eq_true hb) hf
      simp [Value.cells] at hu
      subst hu
      exact ⟨l, h1, h2⟩
    · exact no_some hk
  · exact no_some hk
theorem params_open {r : Reach} {b0 : Nat} : ∀ (ts : List TypeId) (ks : List AK) (args : List Value) (ds : List (DataW H)) (ps : List MemPlace), aksO P ts = some ks → DataW.TrodAll enc P w base spare held ts args ds ps →
    (∀ (j : Nat) t v, ts[j]? = some t → args[j]? = some v → Value.okWide P w r b0 t v) → ∃ x : AKs ks, AsG w ks x args ∧ AKs.good ks x
  | [], ks, args, ds, ps, hk, hA, hv => by
    have hk : some [] = some ks := hk
    obtain rfl := Option.some.inj hk
    obtain ⟨rfl, _, _⟩ := trodAll_nil hA
    exact ⟨(), trivial, trivial⟩
  | t :: r, ks, args, ds, ps, hk, hA, hv => by
    unfold aksO at hk
    split at hk
    · rename_i k ks' h1 h2
      obtain rfl := Option.some.inj hk
      obtain ⟨v, vs, d, ds', p, q, rfl, rfl, rfl, hd, hrest⟩ := trodAll_cons hA
      obtain ⟨x, h3, h4⟩ := param_open h1 (hv 0 t v rfl rfl) hd
      obtain ⟨y, h5, h6⟩ := params_open r ks' vs ds' q h2 hrest (fun j t' v' h h' => hv (j + 1) t' v' h h')
      cases ks' with
      | nil =>
        cases vs with
        | nil => exact ⟨x, h3, h4⟩
        | cons _ _ => exact h5.elim
      | cons k' ks'' => exact ⟨(x, y), ⟨h3, h5⟩, h4, h6⟩
    · exact no_some hk
end
/-! ### a law's begin: only what is read is known -/
structure RdMem (w : World) (nm : Nat) (hp : Hp) (ν : Nat → Value) : Prop where
  mem : Mem w.heap.size (fun _ => False) w w hp ν
  free : ∀ n, nm ≤ n → hp n = .free
  rd : ∀ n, ¬ wrE (hp n)
theorem fr_refl (w : World) : Fr w.heap.size (fun _ => False) w w := ⟨rfl, rfl, rfl, Nat.le_refl _, Nat.le_refl _, fun _ _ _ => rfl⟩
theorem rd0 (w : World) : RdMem w 0 (fun _ => .free) (fun _ => .nilFunc) :=
  ⟨⟨fun _ => trivial, fun _ _ _ h => h.elim, fun _ h => h.elim, fr_refl w⟩, fun _ _ => rfl, fun _ h => h⟩
theorem dec_self : ∀ t : Ty, ∃ h : t = t, t.dec t = some ⟨h⟩
  | .int k => by cases k <;> exact ⟨rfl, rfl⟩
  | .bool => ⟨rfl, rfl⟩
  | .str => ⟨rfl, rfl⟩
  | .pair a b => by
    obtain ⟨h1, e1⟩ := dec_self a
    obtain ⟨h2, e2⟩ := dec_self b
    refine ⟨rfl, ?_⟩
    unfold Ty.dec
    rw [e1, e2]
theorem keq_self (k : IntKind) : keq k k = true := by cases k <;> rfl
theorem RdMem.cell {w : World} {nm : Nat} {hp : Hp} {ν : Nat → Value} (hR : RdMem w nm hp ν) {k : CK} {x : k.T} {v : Value} (h : CG w k x v) {sc : SC} {nm' : Nat} {hp' : Hp} (hq : iC nm hp k x = (sc, nm', hp')) :
    ∃ ν', RdMem w nm' hp' ν' ∧ CRel hp' ν' sc v ∧ Ext hp ν hp' ν' ∧ Grows hp hp' ∧ mC hp' k sc = some x := by
  cases k with
  | int k =>
    have hq : (SC.int k x, nm, hp) = (sc, nm', hp') := hq
    simp only [Prod.mk.injEq] at hq
    obtain ⟨rfl, rfl, rfl⟩ := hq
    refine ⟨ν, hR, h, .refl _ _, fun _ _ => rfl, ?_⟩
    show cnd (keq k k) (some x) none = some x
    rw [keq_self]; rfl
  | bool =>
    have hq : (SC.bool (.v x), nm, hp) = (sc, nm', hp') := hq
    simp only [Prod.mk.injEq] at hq
    obtain ⟨rfl, rfl, rfl⟩ := hq
    exact ⟨ν, hR, h, .refl _ _, fun _ _ => rfl, rfl⟩
  | str =>
    have hq : (SC.str x, nm, hp) = (sc, nm', hp') := hq
    simp only [Prod.mk.injEq] at hq
    obtain ⟨rfl, rfl, rfl⟩ := hq
    exact ⟨ν, hR, h, .refl _ _, fun _ _ => rfl, rfl⟩
  | sl t =>
    have hq : (SC.sl nm, nm + 1, upd hp nm (.ro t x 0)) = (sc, nm', hp') := hq
    simp only [Prod.mk.injEq] at hq
    obtain ⟨rfl, rfl, rfl⟩ := hq
    have hfr := hR.free nm (Nat.le_refl _)
    have h' : SlR w t x v := h
    obtain ⟨hm, hx⟩ := hR.mem.share hfr (ty := t) (l := x) (e' := 0) (v := v) h' (fun _ m hwm => absurd hwm (hR.rd m))
    obtain ⟨A, c, hvv, _⟩ := h'
    refine ⟨upd ν nm v, ⟨hm, fun n hn => ?_, fun n hn => ?_⟩, ⟨by rw [upd_same]; simp, by rw [upd_same], A, _, c, hvv⟩, hx, fun n hn => ?_, ?_⟩
    · rw [upd_other _ _ (by omega)]; exact hR.free n (by omega)
    · by_cases e : n = nm
      · subst e; rw [upd_same] at hn; exact hn
      · rw [upd_other _ _ e] at hn; exact hR.rd n hn
    · rw [upd_other]
      intro e; subst e; exact hn hfr
    · show readL none _ t (.sl nm) = some x
      unfold readL
      simp only []
      rw [upd_same]
      simp only []
      obtain ⟨he, hd⟩ := dec_self t
      rw [hd]
      rfl
theorem RdMem.cells {w : World} : ∀ (ks : List CK) (x : CKs ks) (vs : List Value) (nm : Nat) (hp : Hp) (ν : Nat → Value) (scs : List SC) (nm' : Nat) (hp' : Hp), RdMem w nm hp ν → CsG w ks x vs → iCs ks x nm hp = (scs, nm', hp') →
    ∃ ν', RdMem w nm' hp' ν' ∧ CsRel hp' ν' scs vs ∧ Ext hp ν hp' ν' ∧ Grows hp hp' ∧ mCs hp' ks scs = some x
  | [], x, [], nm, hp, ν, scs, nm', hp', hR, _, hq => by
    have hq : (([] : List SC), nm, hp) = (scs, nm', hp') := hq
    simp only [Prod.mk.injEq] at hq
    obtain ⟨rfl, rfl, rfl⟩ := hq
    exact ⟨ν, hR, trivial, .refl _ _, fun _ _ => rfl, rfl⟩
  | [], x, _ :: _, nm, hp, ν, scs, nm', hp', hR, h, hq => h.elim
  | [k], x, [v], nm, hp, ν, scs, nm', hp', hR, h, hq => by
    replace hq := (iCs_one k x nm hp).symm.trans hq
    generalize hq1 : iC nm hp k x = q at hq
    obtain ⟨a, b, c⟩ := q
    simp only [Prod.mk.injEq] at hq
    obtain ⟨rfl, rfl, rfl⟩ := hq
    obtain ⟨ν', h1, h2, h3, h4, h5⟩ := hR.cell (k := k) (x := x) h hq1
    exact ⟨ν', h1, ⟨h2, trivial⟩, h3, h4, h5⟩
  | [k], x, [], nm, hp, ν, scs, nm', hp', hR, h, hq => h.elim
  | [k], x, _ :: _ :: _, nm, hp, ν, scs, nm', hp', hR, h, hq => h.elim
  | k :: k' :: r, x, [], nm, hp, ν, scs, nm', hp', hR, h, hq => h.elim
  | k :: k' :: r, x, v :: vs, nm, hp, ν, scs, nm', hp', hR, h, hq => by
    replace hq := (iCs_cons k k' r x nm hp).symm.trans hq
    generalize hq1 : iC nm hp k x.1 = q at hq
    obtain ⟨s1, n1, p1⟩ := q
    simp only [] at hq
    generalize hq2 : iCs (k' :: r) x.2 n1 p1 = q at hq
    obtain ⟨s2, n2, p2⟩ := q
    simp only [Prod.mk.injEq] at hq
    obtain ⟨rfl, rfl, rfl⟩ := hq
    obtain ⟨ν1, h1, h2, h3, h4, h5⟩ := hR.cell (k := k) (x := x.1) h.1 hq1
    obtain ⟨ν2, g1, g2, g3, g4, g5⟩ := RdMem.cells (k' :: r) x.2 vs n1 p1 ν1 s2 n2 p2 h1 h.2 hq2
    refine ⟨ν2, g1, ⟨h2.mono g3, g2⟩, h3.trans g3, fun n hn => (g4 n (h3.keep n hn).1).trans (h4 n hn), ?_⟩
    rw [mCs_cons, mC_grow k h5 g4, g5]
    rfl
theorem RdMem.arg {w : World} {nm : Nat} {hp : Hp} {ν : Nat → Value} (hR : RdMem w nm hp ν) {k : AK} {x : k.T} {v : Value} (h : AG w k x v) {sv : SV} {nm' : Nat} {hp' : Hp} (hq : iA k x nm hp = (sv, nm', hp')) :
    ∃ ν', RdMem w nm' hp' ν' ∧ VRel hp' ν' sv v ∧ Ext hp ν hp' ν' ∧ Grows hp hp' ∧ mA hp' k sv = some x ∧ ∀ rs rv, ptrs (k :: rs) (sv :: rv) = ptrs rs rv := by
  cases k with
  | c k =>
    have hq : (match iC nm hp k x with | (a, nm, hp) => (one a, nm, hp)) = (sv, nm', hp') := hq
    generalize hq1 : iC nm hp k x = q at hq
    obtain ⟨s1, n1, p1⟩ := q
    simp only [Prod.mk.injEq] at hq
    obtain ⟨rfl, rfl, rfl⟩ := hq
    obtain ⟨ν', h1, h2, h3, h4, h5⟩ := hR.cell (k := k) (x := x) h hq1
    exact ⟨ν', h1, ⟨_, rfl, h2⟩, h3, h4, h5, fun _ _ => rfl⟩
  | agg ks =>
    have hq : (match iCs ks x nm hp with | (a, nm, hp) => (SV.a true a, nm, hp)) = (sv, nm', hp') := hq
    generalize hq1 : iCs ks x nm hp = q at hq
    obtain ⟨s1, n1, p1⟩ := q
    simp only [Prod.mk.injEq] at hq
    obtain ⟨rfl, rfl, rfl⟩ := hq
    obtain ⟨vs, rfl, hc⟩ := h
    obtain ⟨ν', h1, h2, h3, h4, h5⟩ := RdMem.cells ks x vs.toList nm hp ν _ _ _ hR hc hq1
    exact ⟨ν', h1, ⟨_, rfl, h2⟩, h3, h4, h5, fun _ _ => rfl⟩
  | ptr ks t => exact h.elim
  | w g ks => exact h.elim
theorem asG_noW {w : World} : ∀ (ks : List AK) (x : AKs ks) (vs : List Value), AsG w ks x vs → noW ks = true
  | [], _, _, _ => rfl
  | [k], x, [v], h => by
    have h : AG w k x v := h
    cases k with
    | w g ks => exact h.elim
    | _ => rfl
  | [k], x, [], h => h.elim
  | [k], x, _ :: _ :: _, h => h.elim
  | k :: k' :: r, x, [], h => h.elim
  | k :: k' :: r, x, v :: vs, h => by
    have h1 : AG w k x.1 v := h.1
    have h2 := asG_noW (k' :: r) x.2 vs h.2
    cases k with
    | w g ks => exact h1.elim
    | _ => exact h2
theorem apN_nil {ks : List AK} {svs : List SV} (h : ptrs ks svs = []) (hw : noW ks = true) : apN ks svs = true := by
  unfold apN
  rw [h, hw, Bool.true_or, Bool.and_true]
  show ((rdsOf ks svs).all fun n => !(memN n [])) = true
  rw [List.all_eq_true]
  intro n _
  rfl
theorem RdMem.args {w : World} : ∀ (ks : List AK) (x : AKs ks) (vs : List Value) (nm : Nat) (hp : Hp) (ν : Nat → Value) (svs : List SV) (nm' : Nat) (hp' : Hp), RdMem w nm hp ν → AsG w ks x vs → iAs ks x nm hp = (svs, nm', hp') →
    ∃ ν', RdMem w nm' hp' ν' ∧ VsRel hp' ν' svs vs ∧ Ext hp ν hp' ν' ∧ Grows hp hp' ∧ mAs hp' ks svs = some x ∧ ptrs ks svs = []
  | [], x, [], nm, hp, ν, scs, nm', hp', hR, _, hq => by
    have hq : (([] : List SV), nm, hp) = (scs, nm', hp') := hq
    simp only [Prod.mk.injEq] at hq
    obtain ⟨rfl, rfl, rfl⟩ := hq
    exact ⟨ν, hR, trivial, .refl _ _, fun _ _ => rfl, rfl, rfl⟩
  | [], x, _ :: _, nm, hp, ν, scs, nm', hp', hR, h, hq => h.elim
  | [k], x, [v], nm, hp, ν, scs, nm', hp', hR, h, hq => by
    replace hq := (iAs_one k x nm hp).symm.trans hq
    generalize hq1 : iA k x nm hp = q at hq
    obtain ⟨a, b, c⟩ := q
    simp only [Prod.mk.injEq] at hq
    obtain ⟨rfl, rfl, rfl⟩ := hq
    obtain ⟨ν', h1, h2, h3, h4, h5, h6⟩ := hR.arg (k := k) (x := x) h hq1
    exact ⟨ν', h1, ⟨h2, trivial⟩, h3, h4, h5, (h6 [] []).trans rfl⟩
  | [k], x, [], nm, hp, ν, scs, nm', hp', hR, h, hq => h.elim
  | [k], x, _ :: _ :: _, nm, hp, ν, scs, nm', hp', hR, h, hq => h.elim
  | k :: k' :: r, x, [], nm, hp, ν, scs, nm', hp', hR, h, hq => h.elim
  | k :: k' :: r, x, v :: vs, nm, hp, ν, scs, nm', hp', hR, h, hq => by
    replace hq := (iAs_cons k k' r x nm hp).symm.trans hq
    generalize hq1 : iA k x.1 nm hp = q at hq
    obtain ⟨s1, n1, p1⟩ := q
    simp only [] at hq
    generalize hq2 : iAs (k' :: r) x.2 n1 p1 = q at hq
    obtain ⟨s2, n2, p2⟩ := q
    simp only [Prod.mk.injEq] at hq
    obtain ⟨rfl, rfl, rfl⟩ := hq
    obtain ⟨ν1, h1, h2, h3, h4, h5, h6⟩ := hR.arg (k := k) (x := x.1) h.1 hq1
    obtain ⟨ν2, g1, g2, g3, g4, g5, g6⟩ := RdMem.args (k' :: r) x.2 vs n1 p1 ν1 s2 n2 p2 h1 h.2 hq2
    refine ⟨ν2, g1, ⟨h2.mono g3, g2⟩, h3.trans g3, fun n hn => (g4 n (h3.keep n hn).1).trans (h4 n hn), ?_, ?_⟩
    · rw [mAs_cons, mA_grow g4 k h5, g5]
      rfl
    · rw [h6, g6]
/-! ### the law's call -/
theorem law_calls {H : Type} {enc : TypeId × Value → H} {P : Program} {f : FuncId} {ks : List AK} {fn : Nat → AKs ks → Option (OKs [.v false [.bool]])} (hok : CtrOK P f ⟨ks, 1, [.v false [.bool]], fn⟩) {ts : List TypeId} (hk : aksO P ts = some ks)
    (pure : ∀ x : AKs ks, AKs.good ks x → ∃ k, fn k x = some true) {W : World} {base b0 : Nat} {r : Reach} {spare : Nat → Bool} {held : Bool} {args : Array Value} {ds : List (DataW H)} {ps : List MemPlace}
    (hA : DataW.TrodAll enc P W base spare held ts args.toList ds ps) (hv : ∀ (j : Nat) t v, ts[j]? = some t → args.toList[j]? = some v → Value.okWide P W r b0 t v) :
    Calls P f args W fun e w' => e = .returned (.bool true) ∧ Below W.heap.size W w' := by
  obtain ⟨x, h1, h2⟩ := params_open ts ks args.toList ds ps hk hA hv
  obtain ⟨k, hf⟩ := pure x h2
  generalize hq : iAs ks x 0 (fun _ => .free) = q
  obtain ⟨svs, nm, hp⟩ := q
  obtain ⟨ν, g1, g2, g3, g4, g5, g6⟩ := RdMem.args ks x args.toList 0 _ _ svs nm hp (rd0 W) h1 hq
  refine (hok.2 k x true hf W.heap.size (fun _ => False) W W hp ν svs args nm g1.mem g2 g5 (apN_nil g6 (asG_noW ks x args.toList h1)) rfl).mono ?_
  rintro e w' ⟨v, ν', rfl, hv', hm, _⟩
  refine ⟨?_, hm.fr.os, hm.fr.tape, hm.fr.output, hm.fr.size, fun k hk => hm.fr.block k hk (fun h => h)⟩
  rw [g6] at hv'
  obtain ⟨y, hy, hc⟩ := hv'
  injection hy with hy _
  subst hy
  have hc : v = .bool true := hc
  rw [hc]
/-- Behind the call the arguments read as they did. -/
theorem args_keep {H : Type} {enc : TypeId × Value → H} {P : Program} (hl : laidOutB P = true) {W W' : World} (hb : Below W.heap.size W W') : ∀ (ts : List TypeId) (args : List Value) (ds : List (DataW H)) (ps : List MemPlace),
    ts.all (fun t => P.readableRec t && decide (t < P.types.size)) = true → DataW.TrodAll enc P W 0 (fun _ => true) true ts args ds ps → DataW.TrodAll enc P W' 0 (fun b => decide (b < W.heap.size)) true ts args ds ps
  | [], args, ds, ps, _, hA => by
    obtain ⟨rfl, rfl, rfl⟩ := trodAll_nil hA
    exact trodAll_mk0
  | t :: r, args, ds, ps, ht, hA => by
    obtain ⟨v, vs, d, ds', p, q, rfl, rfl, rfl, hd, hrest⟩ := trodAll_cons hA
    rw [List.all_cons, Bool.and_eq_true, Bool.and_eq_true] at ht
    have hlt : ∀ x ∈ p, x.block < W.heap.size := by
      obtain ⟨m, hm⟩ := hd
      exact DataW.trod_lt m _ _ _ hm
    exact ⟨p, q, Below.trod hl ht.1.1 (of_decide_eq_true ht.1.2) hd hb hlt, args_keep hl hb r vs ds' q ht.2 hrest, rfl⟩
end Go.Sx
