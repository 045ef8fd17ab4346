/- What a symbolic state says of a machine's frame and memory, and how memory may change under it. -/
import Derived.Test.YtkcfdkfdmglamaaSyA
import Derived.DataElems
import Derived.Laws.OwnMore
import Derived.Laws.MakeOwn
import Derived.Deep.Draws
set_option linter.unusedVariables false
set_option linter.unusedSimpArgs false
namespace Go.Sx
open Go.RowKit (wrap64)

abbrev Hp := Nat → Ent
def CRel (hp : Hp) (ν : Nat → Value) : SC → Value → Prop
  | .any, v => v.oneCell' = true
  | .bool s, v => v = .bool s.b
  | .int k n, v => v = .int k n
  | .str s, v => v = .string s
  | .ptr n off, v => hp n ≠ .free ∧ ∃ g, ν n = .pointer (some ⟨g, 0, none⟩) ∧ v = .pointer (some ⟨g, off, none⟩)
  | .nilp, v => v = .pointer none
  | .sl n, v => hp n ≠ .free ∧ v = ν n ∧ ∃ A l c, v = .slice A l c
  | .nils, v => v = .slice none 0 0
  | .ep n sz i off, v => hp n ≠ .free ∧ ∃ A l c, ν n = .slice (some A) l c ∧ v = .pointer (some (A.add (i.toNat * sz + off))) ∧ 0 ≤ i ∧ i < (l : Int)
def CsRel (hp : Hp) (ν : Nat → Value) : List SC → List Value → Prop
  | [], [] => True
  | x :: xs, v :: vs => CRel hp ν x v ∧ CsRel hp ν xs vs
  | _, _ => False
def ARel (hp : Hp) (ν : Nat → Value) : Bool → List SC → Value → Prop
  | true, cs, v => ∃ vs, v = .agg vs ∧ CsRel hp ν cs vs.toList
  | false, cs, v => ∃ x, cs = [x] ∧ CRel hp ν x v
def TsRel (hp : Hp) (ν : Nat → Value) : List (Bool × List SC) → List Value → Prop
  | [], [] => True
  | x :: xs, v :: vs => ARel hp ν x.1 x.2 v ∧ TsRel hp ν xs vs
  | _, _ => False
def VRel (hp : Hp) (ν : Nat → Value) : SV → Value → Prop
  | .any, _ => True
  | .a g cs, v => ARel hp ν g cs v
  | .tup xs, v => ∃ vs, v = .tuple vs ∧ TsRel hp ν xs vs.toList
def Ty.flat (t : Ty) (l : List t.T) : List Value := l.flatMap t.cells
def EntRel (base : Nat) (hp : Hp) (ν : Nat → Value) (w : World) : Ent → Value → Prop
  | .free, _ => True
  | .dead, _ => True
  | .box cs t, v => ∃ g vs, v = .pointer (some ⟨g, 0, none⟩) ∧ w.heap[g]? = some (.cells vs t (0, 0)) ∧ CsRel hp ν cs vs.toList
  | .row ty l e, v => w.ownsRow 0 e ty.size v l.length (ty.flat l)
  | .ex ty l e, v => (v = .slice none 0 0 ∧ l = []) ∨ ∃ g off c vs e' fz, v = .slice (some ⟨g, off, none⟩) l.length c ∧ l.length ≤ c ∧ l.length ≤ maxLen ∧ w.heap[g]? = some (.cells vs e' fz) ∧ off + l.length * ty.size ≤ vs.size ∧ (fz.2 ≤ fz.1 ∨ vs.size ≤ fz.1) ∧ ∀ j u, (ty.flat l)[j]? = some u → vs[off + j]? = some u
  | .ro ty l e, v => ∃ A c, v = .slice A l.length c ∧ l.length ≤ c ∧ l.length ≤ maxLen ∧ (l ≠ [] → ∃ a, A = some a ∧ ∀ j u, (ty.flat l)[j]? = some u → w.cell? (a.add j) = some u)
def blk : Value → Option Nat
  | .pointer (some a) => some a.block
  | .slice (some a) _ _ => some a.block
  | _ => none
def wrE : Ent → Prop
  | .box _ _ => True
  | .row _ _ _ => True
  | .ex _ _ _ => True
  | _ => False
def lvE : Ent → Prop
  | .box _ _ => True
  | .row _ _ _ => True
  | .ex _ _ _ => True
  | .ro _ l _ => l ≠ []
  | _ => False
structure Fr (base : Nat) (G : Nat → Prop) (w0 w : World) : Prop where
  os : w.os = w0.os
  tape : w.tape = w0.tape
  output : w.output = w0.output
  size : w0.heap.size ≤ w.heap.size
  bs : base ≤ w.heap.size
  block : ∀ k, k < base → ¬ G k → w.heap[k]? = w0.heap[k]?
structure Mem (base : Nat) (G : Nat → Prop) (w0 w : World) (hp : Hp) (ν : Nat → Value) : Prop where
  ent : ∀ n, EntRel base hp ν w (hp n) (ν n)
  sep : ∀ n m, n ≠ m → wrE (hp n) → lvE (hp m) → ∀ g, blk (ν n) = some g → blk (ν m) ≠ some g
  mine : ∀ n, wrE (hp n) → ∀ g, blk (ν n) = some g → base ≤ g ∨ G g
  fr : Fr base G w0 w
/-- What is known stays known. -/
structure Ext (hp : Hp) (ν : Nat → Value) (hp' : Hp) (ν' : Nat → Value) : Prop where
  keep : ∀ n, hp n ≠ .free → hp' n ≠ .free ∧ ν' n = ν n
theorem Ext.refl (hp : Hp) (ν : Nat → Value) : Ext hp ν hp ν := ⟨fun _ h => ⟨h, rfl⟩⟩
theorem Ext.trans {hp hp' hp'' : Hp} {ν ν' ν'' : Nat → Value} (h : Ext hp ν hp' ν') (k : Ext hp' ν' hp'' ν'') : Ext hp ν hp'' ν'' :=
  ⟨fun n hn => ⟨(k.keep n (h.keep n hn).1).1, (k.keep n (h.keep n hn).1).2.trans (h.keep n hn).2⟩⟩
section
variable {hp hp' : Hp} {ν ν' : Nat → Value}
theorem CRel.mono (h : Ext hp ν hp' ν') {x : SC} {v : Value} (hx : CRel hp ν x v) : CRel hp' ν' x v := by
  cases x with
  | ptr n off =>
    obtain ⟨h0, g, h1, h2⟩ := hx
    exact ⟨(h.keep n h0).1, g, (h.keep n h0).2.trans h1, h2⟩
  | sl n =>
    obtain ⟨h0, h1, h2⟩ := hx
    exact ⟨(h.keep n h0).1, h1.trans (h.keep n h0).2.symm, h2⟩
  | ep n sz i off =>
    obtain ⟨h0, A, l, c, h1, h2⟩ := hx
    exact ⟨(h.keep n h0).1, A, l, c, (h.keep n h0).2.trans h1, h2⟩
  | _ => exact hx
theorem CsRel.mono (h : Ext hp ν hp' ν') : ∀ {xs : List SC} {vs : List Value}, CsRel hp ν xs vs → CsRel hp' ν' xs vs
  | [], [], _ => trivial
  | _ :: _, _ :: _, hx => ⟨hx.1.mono h, CsRel.mono h hx.2⟩
  | [], _ :: _, hx => hx.elim
  | _ :: _, [], hx => hx.elim
theorem ARel.mono (h : Ext hp ν hp' ν') {g : Bool} {cs : List SC} {v : Value} (hx : ARel hp ν g cs v) : ARel hp' ν' g cs v := by
  cases g with
  | true => obtain ⟨vs, h1, h2⟩ := hx; exact ⟨vs, h1, h2.mono h⟩
  | false => obtain ⟨x, h1, h2⟩ := hx; exact ⟨x, h1, h2.mono h⟩
theorem TsRel.mono (h : Ext hp ν hp' ν') : ∀ {xs : List (Bool × List SC)} {vs : List Value}, TsRel hp ν xs vs → TsRel hp' ν' xs vs
  | [], [], _ => trivial
  | _ :: _, _ :: _, hx => ⟨hx.1.mono h, TsRel.mono h hx.2⟩
  | [], _ :: _, hx => hx.elim
  | _ :: _, [], hx => hx.elim
theorem VRel.mono (h : Ext hp ν hp' ν') {x : SV} {v : Value} (hx : VRel hp ν x v) : VRel hp' ν' x v := by
  cases x with
  | any => trivial
  | a g cs => exact ARel.mono h hx
  | tup xs => obtain ⟨vs, h1, h2⟩ := hx; exact ⟨vs, h1, h2.mono h⟩
theorem EntRel.mono {base : Nat} {w : World} (h : Ext hp ν hp' ν') {x : Ent} {v : Value} (hx : EntRel base hp ν w x v) : EntRel base hp' ν' w x v := by
  cases x with
  | box cs t => obtain ⟨g, vs, h1, h2, h3⟩ := hx; exact ⟨g, vs, h1, h2, h3.mono h⟩
  | _ => exact hx
theorem CRel.cell {x : SC} {v : Value} (h : CRel hp ν x v) : v.oneCell' = true := by
  cases x with
  | any => exact h
  | ptr n off => obtain ⟨_, g, _, rfl⟩ := h; rfl
  | sl n => obtain ⟨_, _, A, l, c, rfl⟩ := h; rfl
  | ep n sz i off => obtain ⟨_, A, l, c, _, rfl, _⟩ := h; rfl
  | _ => cases h; rfl
theorem CsRel.len : ∀ {xs : List SC} {vs : List Value}, CsRel hp ν xs vs → xs.length = vs.length
  | [], [], _ => rfl
  | _ :: _, _ :: _, h => by simp [CsRel.len h.2]
  | [], _ :: _, h => h.elim
  | _ :: _, [], h => h.elim
theorem CsRel.cells : ∀ {xs : List SC} {vs : List Value}, CsRel hp ν xs vs → ∀ v ∈ vs, v.oneCell' = true
  | [], [], _, v, hv => by cases hv
  | _ :: _, _ :: _, h, v, hv => by
    cases hv with
    | head => exact h.1.cell
    | tail _ hv => exact CsRel.cells h.2 v hv
  | [], _ :: _, h, _, _ => h.elim
  | _ :: _, [], h, _, _ => h.elim
theorem CsRel.append : ∀ {xs : List SC} {vs : List Value} {ys : List SC} {us : List Value}, CsRel hp ν xs vs → CsRel hp ν ys us → CsRel hp ν (xs ++ ys) (vs ++ us)
  | [], [], _, _, _, h => h
  | _ :: _, _ :: _, _, _, h, k => ⟨h.1, CsRel.append h.2 k⟩
  | [], _ :: _, _, _, h, _ => h.elim
  | _ :: _, [], _, _, h, _ => h.elim
theorem CsRel.take : ∀ {xs : List SC} {vs : List Value} (n : Nat), CsRel hp ν xs vs → CsRel hp ν (xs.take n) (vs.take n)
  | _, _, 0, _ => by simp [CsRel]
  | [], [], _ + 1, _ => trivial
  | _ :: _, _ :: _, n + 1, h => ⟨h.1, CsRel.take n h.2⟩
  | [], _ :: _, _ + 1, h => h.elim
  | _ :: _, [], _ + 1, h => h.elim
theorem CsRel.drop : ∀ {xs : List SC} {vs : List Value} (n : Nat), CsRel hp ν xs vs → CsRel hp ν (xs.drop n) (vs.drop n)
  | _, _, 0, h => by simpa using h
  | [], [], _ + 1, _ => trivial
  | _ :: _, _ :: _, n + 1, h => CsRel.drop n h.2
  | [], _ :: _, _ + 1, h => h.elim
  | _ :: _, [], _ + 1, h => h.elim
theorem CsRel.get : ∀ {xs : List SC} {vs : List Value} {i : Nat} {x : SC}, CsRel hp ν xs vs → xs[i]? = some x → ∃ v, vs[i]? = some v ∧ CRel hp ν x v
  | [], _, i, x, _, h => by simp at h
  | y :: ys, v :: vs, 0, x, h, hx => ⟨v, by simp, by simp at hx; subst hx; exact h.1⟩
  | y :: ys, v :: vs, i + 1, x, h, hx => by
    obtain ⟨u, h1, h2⟩ := CsRel.get (i := i) h.2 (by simpa using hx)
    exact ⟨u, by simpa using h1, h2⟩
  | _ :: _, [], _, _, h, _ => h.elim
theorem TsRel.get : ∀ {xs : List (Bool × List SC)} {vs : List Value} {i : Nat} {x : Bool × List SC}, TsRel hp ν xs vs → xs[i]? = some x → ∃ v, vs[i]? = some v ∧ ARel hp ν x.1 x.2 v
  | [], _, i, x, _, h => by simp at h
  | y :: ys, v :: vs, 0, x, h, hx => ⟨v, by simp, by simp at hx; subst hx; exact h.1⟩
  | y :: ys, v :: vs, i + 1, x, h, hx => by
    obtain ⟨u, h1, h2⟩ := TsRel.get (i := i) h.2 (by simpa using hx)
    exact ⟨u, by simpa using h1, h2⟩
  | _ :: _, [], _, _, h, _ => h.elim
/-- A value's cells. -/
theorem ARel.cells {g : Bool} {cs : List SC} {v : Value} (h : ARel hp ν g cs v) : CsRel hp ν cs v.cells.toList := by
  cases g with
  | true => obtain ⟨vs, rfl, h2⟩ := h; exact h2
  | false =>
    obtain ⟨x, rfl, h2⟩ := h
    have hc := h2.cell
    have : v.cells = #[v] := by cases v <;> first | rfl | simp [Value.oneCell'] at hc
    rw [this]
    exact ⟨h2, trivial⟩
theorem Ty.sc_rel : ∀ (t : Ty) (x : t.T), CsRel hp ν (t.sc x) (t.cells x)
  | .int k, n => ⟨rfl, trivial⟩
  | .bool, b => ⟨rfl, trivial⟩
  | .str, s => ⟨rfl, trivial⟩
  | .pair a b, p => CsRel.append (Ty.sc_rel a p.1) (Ty.sc_rel b p.2)
theorem Ty.of_rel : ∀ (t : Ty) {xs : List SC} {vs : List Value} {x : t.T} {r : List SC}, t.of xs = some (x, r) → CsRel hp ν xs vs → ∃ us, vs = t.cells x ++ us ∧ CsRel hp ν r us
  | .int k, xs, vs, x, r, h, hr => by
    match xs, vs, hr with
    | .int k' n :: xs, v :: vs, hr =>
      simp only [Ty.of] at h
      cases hk : keq k k' with
      | false => rw [hk] at h; simp at h
      | true =>
        rw [hk] at h
        simp only [cnd_true, Option.some.injEq, Prod.mk.injEq] at h
        obtain ⟨rfl, rfl⟩ := h
        have := keq_eq hk
        subst this
        exact ⟨vs, by rw [hr.1]; rfl, hr.2⟩
    | [], _, _ => simp [Ty.of] at h
    | .any :: _, _, _ | .bool _ :: _, _, _ | .str _ :: _, _, _ | .ptr _ _ :: _, _, _ | .nilp :: _, _, _ | .sl _ :: _, _, _ | .nils :: _, _, _ | .ep _ _ _ _ :: _, _, _ => simp [Ty.of] at h
  | .bool, xs, vs, x, r, h, hr => by
    match xs, vs, hr with
    | .bool s :: xs, v :: vs, hr =>
      simp only [Ty.of, Option.some.injEq, Prod.mk.injEq] at h
      obtain ⟨rfl, rfl⟩ := h
      exact ⟨vs, by rw [hr.1]; rfl, hr.2⟩
    | [], _, _ => simp [Ty.of] at h
    | .any :: _, _, _ | .int _ _ :: _, _, _ | .str _ :: _, _, _ | .ptr _ _ :: _, _, _ | .nilp :: _, _, _ | .sl _ :: _, _, _ | .nils :: _, _, _ | .ep _ _ _ _ :: _, _, _ => simp [Ty.of] at h
  | .str, xs, vs, x, r, h, hr => by
    match xs, vs, hr with
    | .str s :: xs, v :: vs, hr =>
      simp only [Ty.of, Option.some.injEq, Prod.mk.injEq] at h
      obtain ⟨rfl, rfl⟩ := h
      exact ⟨vs, by rw [hr.1]; rfl, hr.2⟩
    | [], _, _ => simp [Ty.of] at h
    | .any :: _, _, _ | .int _ _ :: _, _, _ | .bool _ :: _, _, _ | .ptr _ _ :: _, _, _ | .nilp :: _, _, _ | .sl _ :: _, _, _ | .nils :: _, _, _ | .ep _ _ _ _ :: _, _, _ => simp [Ty.of] at h
  | .pair a b, xs, vs, x, r, h, hr => by
    simp only [Ty.of] at h
    split at h
    · rename_i y r1 h1
      split at h
      · rename_i z r2 h2
        simp only [Option.some.injEq, Prod.mk.injEq] at h
        obtain ⟨rfl, rfl⟩ := h
        obtain ⟨us, rfl, hu⟩ := Ty.of_rel a h1 hr
        obtain ⟨us', rfl, hu'⟩ := Ty.of_rel b h2 hu
        exact ⟨us', by simp [Ty.cells], hu'⟩
      · simp at h
    · simp at h
end
theorem Ty.cells_len : ∀ (t : Ty) (x : t.T), (t.cells x).length = t.size
  | .int _, _ => rfl
  | .bool, _ => rfl
  | .str, _ => rfl
  | .pair a b, p => by simp [Ty.cells, Ty.size, Ty.cells_len a p.1, Ty.cells_len b p.2]
theorem Ty.size_pos : ∀ t : Ty, 0 < t.size
  | .int _ => Nat.one_pos
  | .bool => Nat.one_pos
  | .str => Nat.one_pos
  | .pair a b => by have := Ty.size_pos a; simp [Ty.size]; omega
theorem Ty.flat_len (t : Ty) (l : List t.T) : (t.flat l).length = l.length * t.size := by
  induction l with
  | nil => simp [Ty.flat]
  | cons x l ih => simp only [Ty.flat, List.flatMap_cons, List.length_append, Ty.cells_len, List.length_cons] at ih ⊢; rw [ih, Nat.add_mul]; omega
theorem Ty.flat_append (t : Ty) (l m : List t.T) : t.flat (l ++ m) = t.flat l ++ t.flat m := by simp [Ty.flat]
theorem Ty.flat_at (t : Ty) (l : List t.T) (i : Nat) (h : i < l.length) : ((t.flat l).drop (i * t.size)).take t.size = t.cells l[i] := by
  induction l generalizing i with
  | nil => simp at h
  | cons x l ih =>
    have hx : t.flat (x :: l) = t.cells x ++ t.flat l := by simp [Ty.flat]
    rw [hx]
    cases i with
    | zero => simp [← Ty.cells_len t x]
    | succ i =>
      have e : (i + 1) * t.size = (t.cells x).length + i * t.size := by rw [Ty.cells_len, Nat.add_mul]; omega
      rw [e, ← List.drop_drop, List.drop_left]
      simpa using ih i (by simpa using h)
theorem Ty.flat_get (t : Ty) (l : List t.T) (i j : Nat) (h : i < l.length) (hj : j < t.size) : (t.flat l)[i * t.size + j]? = (t.cells l[i])[j]? := by
  rw [← Ty.flat_at t l i h, List.getElem?_take, if_pos hj, List.getElem?_drop]
theorem Ty.cells_one : ∀ (t : Ty) (x : t.T), ∀ v ∈ t.cells x, v.oneCell' = true := fun t x => (Ty.sc_rel (hp := fun _ => .free) (ν := fun _ => .nilFunc) t x).cells
theorem Ty.flat_one (t : Ty) (l : List t.T) : ∀ v ∈ t.flat l, v.oneCell' = true := by
  intro v hv
  obtain ⟨x, _, hx⟩ := List.mem_flatMap.1 hv
  exact Ty.cells_one t x v hx

/-! ### how memory changes -/
theorem upd_same {α : Type} (f : Nat → α) (n : Nat) (x : α) : upd f n x n = x := by simp [upd]
theorem upd_other {α : Type} (f : Nat → α) {n k : Nat} (x : α) (h : k ≠ n) : upd f n x k = f k := by
  have : Nat.beq k n = false := by
    cases hb : Nat.beq k n with
    | false => rfl
    | true => exact absurd (Nat.eq_of_beq_eq_true hb) h
  simp [upd, this]
theorem blk_lt {base : Nat} {hp : Hp} {ν : Nat → Value} {w : World} {e : Ent} {v : Value} (h : EntRel base hp ν w e v) (hl : lvE e) : ∀ g, blk v = some g → g < w.heap.size := by
  intro g hg
  cases e with
  | free => exact hl.elim
  | dead => exact hl.elim
  | box cs t =>
    obtain ⟨g', vs, rfl, h2, _⟩ := h
    simp [blk] at hg
    subst hg
    exact (Array.getElem?_eq_some_iff.1 h2).1
  | row ty l e =>
    rcases h.2 with ⟨rfl, _⟩ | ⟨g', cap, cur, rfl, _, h2, _⟩
    · simp [blk] at hg
    · simp [blk] at hg
      subst hg
      exact (Array.getElem?_eq_some_iff.1 h2).1
  | ex ty l e =>
    rcases h with ⟨rfl, _⟩ | ⟨g', off, c, vs, e', fz, rfl, _, _, h2, _⟩
    · simp [blk] at hg
    · simp [blk] at hg
      subst hg
      exact (Array.getElem?_eq_some_iff.1 h2).1
  | ro ty l e =>
    obtain ⟨A, c, rfl, _, _, h3⟩ := h
    obtain ⟨a, rfl, h4⟩ := h3 hl
    simp [blk] at hg
    subst hg
    have h0 : 0 < (ty.flat l).length := by rw [Ty.flat_len]; exact Nat.mul_pos (List.length_pos_iff.2 hl) (Ty.size_pos ty)
    have := World.block_lt_of_cell? w _ (h4 0 _ (List.getElem?_eq_getElem h0))
    simpa [Addr.add] using this
theorem add_block (a : Addr) (n : Nat) : (a.add n).block = a.block := by unfold Addr.add; split <;> rfl
/-- What an entry says hangs on its own block alone. -/
theorem EntRel.frame {base : Nat} {hp : Hp} {ν : Nat → Value} {w w' : World} {e : Ent} {v : Value} (h : EntRel base hp ν w e v)
    (hf : lvE e → ∀ g, blk v = some g → w'.heap[g]? = w.heap[g]?) : EntRel base hp ν w' e v := by
  cases e with
  | free => trivial
  | dead => trivial
  | box cs t =>
    obtain ⟨g', vs, rfl, h2, h3⟩ := h
    exact ⟨g', vs, rfl, (hf trivial g' rfl).trans h2, h3⟩
  | row ty l e =>
    refine ⟨h.1, ?_⟩
    rcases h.2 with h2 | ⟨g', cap, cur, rfl, hb, h2, h3⟩
    · exact .inl h2
    · exact .inr ⟨g', cap, cur, rfl, hb, (hf trivial g' rfl).trans h2, h3⟩
  | ex ty l e =>
    rcases h with h | ⟨g', off, c, vs, e', fz, rfl, h1, h2, h3, h4⟩
    · exact .inl h
    · exact .inr ⟨g', off, c, vs, e', fz, rfl, h1, h2, (hf trivial g' rfl).trans h3, h4⟩
  | ro ty l e =>
    obtain ⟨A, c, rfl, h1, h2, h3⟩ := h
    refine ⟨A, c, rfl, h1, h2, fun hl => ?_⟩
    obtain ⟨a, rfl, h4⟩ := h3 hl
    refine ⟨a, rfl, fun j u hu => ?_⟩
    rw [World.cell?_of_block (w := w) (by rw [add_block]; exact hf hl a.block rfl)]
    exact h4 j u hu
section
variable {base : Nat} {G : Nat → Prop} {w0 w w' : World} {hp : Hp} {ν : Nat → Value}
/-- A fresh name: something new that lies in no old entry's block. -/
theorem Mem.new (h : Mem base G w0 w hp ν) {nm : Nat} (hn : hp nm = .free) {e : Ent} {v : Value}
    (hos : w'.os = w.os) (htape : w'.tape = w.tape) (hout : w'.output = w.output) (hsz : w.heap.size ≤ w'.heap.size) (hblock : ∀ k, k < w.heap.size → w'.heap[k]? = w.heap[k]?)
    (hsep : ∀ g, blk v = some g → w.heap.size ≤ g) (he : EntRel base (upd hp nm e) (upd ν nm v) w' e v) (hfree : e ≠ .free) :
    Mem base G w0 w' (upd hp nm e) (upd ν nm v) ∧ Ext hp ν (upd hp nm e) (upd ν nm v) := by
  have hext : Ext hp ν (upd hp nm e) (upd ν nm v) := ⟨fun n hne => by
    have : n ≠ nm := fun e => by subst e; exact hne hn
    rw [upd_other _ _ this, upd_other _ _ this]; exact ⟨hne, rfl⟩⟩
  refine ⟨⟨fun n => ?_, fun n m hne hwn hlm g hg => ?_, fun n hwn g hg => ?_, ?_⟩, hext⟩
  · by_cases hnm : n = nm
    · subst hnm; rw [upd_same, upd_same]; exact he
    · rw [upd_other _ _ hnm, upd_other _ _ hnm]
      exact ((h.ent n).frame fun hl g hg => hblock g (blk_lt (h.ent n) hl g hg)).mono hext
  · by_cases hnn : n = nm
    · subst hnn
      rw [upd_same] at hg
      have hm : m ≠ n := fun e => hne e.symm
      rw [upd_other _ _ hm] at hlm ⊢
      intro hc
      have := blk_lt (h.ent m) hlm g hc
      have := hsep g hg
      omega
    · rw [upd_other _ _ hnn] at hwn hg
      by_cases hmm : m = nm
      · subst hmm
        rw [upd_same]
        intro hc
        have := hsep g hc
        have := blk_lt (h.ent n) (by cases hh : hp n <;> simp_all [wrE, lvE]) g hg
        omega
      · rw [upd_other _ _ hmm] at hlm ⊢
        exact h.sep n m hne hwn hlm g hg
  · by_cases hnn : n = nm
    · subst hnn
      rw [upd_same] at hg
      have := hsep g hg
      have := h.fr.bs
      exact .inl (by omega)
    · rw [upd_other _ _ hnn] at hwn hg
      exact h.mine n hwn g hg
  · exact ⟨hos.trans h.fr.os, htape.trans h.fr.tape, hout.trans h.fr.output, Nat.le_trans h.fr.size hsz, Nat.le_trans h.fr.bs hsz,
      fun k hk hg => (hblock k (by have := h.fr.bs; omega)).trans (h.fr.block k hk hg)⟩
/-- An entry of one's own is written: its block alone changes. -/
theorem Mem.put (h : Mem base G w0 w hp ν) {n : Nat} {e : Ent} {g : Nat} (hw : wrE (hp n)) (hg : blk (ν n) = some g)
    (hos : w'.os = w.os) (htape : w'.tape = w.tape) (hout : w'.output = w.output) (hsz : w.heap.size ≤ w'.heap.size) (hblock : ∀ k, k < w.heap.size → k ≠ g → w'.heap[k]? = w.heap[k]?)
    (he : EntRel base (upd hp n e) ν w' e (ν n)) (hfree : wrE e) :
    Mem base G w0 w' (upd hp n e) ν ∧ Ext hp ν (upd hp n e) ν := by
  have hext : Ext hp ν (upd hp n e) ν := ⟨fun m hm => by
    by_cases hmn : m = n
    · subst hmn; rw [upd_same]; exact ⟨by cases e <;> simp_all [wrE], rfl⟩
    · rw [upd_other _ _ hmn]; exact ⟨hm, rfl⟩⟩
  have hln : lvE (hp n) := by cases hh : hp n <;> simp_all [wrE, lvE]
  refine ⟨⟨fun m => ?_, fun m m' hne hwm hlm g' hg' => ?_, fun m hwm g' hg' => ?_, ?_⟩, hext⟩
  · by_cases hmn : m = n
    · subst hmn; rw [upd_same]; exact he
    · rw [upd_other _ _ hmn]
      refine ((h.ent m).frame fun hl g' hg' => hblock g' (blk_lt (h.ent m) hl g' hg') fun e => ?_).mono hext
      subst e
      exact h.sep n m (fun e => hmn e.symm) hw hl _ hg hg'
  · have hw' : wrE (hp m) := by
      by_cases hmn : m = n
      · subst hmn; exact hw
      · rw [upd_other _ _ hmn] at hwm; exact hwm
    have hl' : lvE (hp m') := by
      by_cases hmn : m' = n
      · subst hmn; exact hln
      · rw [upd_other _ _ hmn] at hlm; exact hlm
    exact h.sep m m' hne hw' hl' g' hg'
  · have hw' : wrE (hp m) := by
      by_cases hmn : m = n
      · subst hmn; exact hw
      · rw [upd_other _ _ hmn] at hwm; exact hwm
    exact h.mine m hw' g' hg'
  · refine ⟨hos.trans h.fr.os, htape.trans h.fr.tape, hout.trans h.fr.output, Nat.le_trans h.fr.size hsz, Nat.le_trans h.fr.bs hsz, fun k hk hG => ?_⟩
    refine (hblock k (by have := h.fr.bs; omega) fun e => ?_).trans (h.fr.block k hk hG)
    subst e
    rcases h.mine n hw k hg with h1 | h1
    · omega
    · exact hG h1
/-- A row is used up, another stands for it: in the old block or in a new one. -/
theorem Mem.turn (h : Mem base G w0 w hp ν) {n nm : Nat} (hn : hp nm = .free) {ty : Ty} {l : List ty.T} {e' : TypeId} (hw : hp n = .row ty l e') {e : Ent} {v : Value}
    (hgr : w.grownBy w' (ν n).ownBlock) (hsep : ∀ g, blk v = some g → w.heap.size ≤ g ∨ blk (ν n) = some g) (he : EntRel base (upd (upd hp n .dead) nm e) (upd ν nm v) w' e v) (hfree : e ≠ .free) :
    Mem base G w0 w' (upd (upd hp n .dead) nm e) (upd ν nm v) ∧ Ext hp ν (upd (upd hp n .dead) nm e) (upd ν nm v) := by
  have hnn : n ≠ nm := fun e => by subst e; rw [hn] at hw; cases hw
  have hob : ∀ g, (ν n).ownBlock = some g ↔ blk (ν n) = some g := by
    intro g
    have := h.ent n
    rw [hw] at this
    rcases this.2 with ⟨h1, _⟩ | ⟨g', cap, cur, h1, _⟩ <;> rw [h1] <;> simp [Value.ownBlock, blk]
  have hext : Ext hp ν (upd (upd hp n .dead) nm e) (upd ν nm v) := ⟨fun m hm => by
    have h1 : m ≠ nm := fun e => by subst e; exact hm hn
    rw [upd_other _ _ h1, upd_other _ _ h1]
    by_cases h2 : m = n
    · subst h2; rw [upd_same]; exact ⟨by simp, rfl⟩
    · rw [upd_other _ _ h2]; exact ⟨hm, rfl⟩⟩
  have hwn : wrE (hp n) := by rw [hw]; trivial
  have hblock : ∀ k, k < w.heap.size → blk (ν n) ≠ some k → w'.heap[k]? = w.heap[k]? := fun k hk hb => hgr.block k hk fun e => hb ((hob k).1 e.symm)
  refine ⟨⟨fun m => ?_, fun m m' hne hwm hlm g hg => ?_, fun m hwm g hg => ?_, ?_⟩, hext⟩
  · by_cases hm : m = nm
    · subst hm; rw [upd_same, upd_same]; exact he
    · rw [upd_other _ _ hm, upd_other _ _ hm]
      by_cases hm2 : m = n
      · subst hm2; rw [upd_same]; trivial
      · rw [upd_other _ _ hm2]
        refine ((h.ent m).frame fun hl g hg => hblock g (blk_lt (h.ent m) hl g hg) fun hc => ?_).mono hext
        exact h.sep n m (fun e => hm2 e.symm) hwn hl _ hc hg
  · by_cases hm : m = nm
    · subst hm
      rw [upd_same] at hg
      have hm' : m' ≠ m := fun e => hne e.symm
      rw [upd_other _ _ hm'] at hlm ⊢
      have hm2 : m' ≠ n := fun e => by subst e; rw [upd_same] at hlm; exact hlm.elim
      rw [upd_other _ _ hm2] at hlm
      intro hc
      rcases hsep g hg with h1 | h1
      · have := blk_lt (h.ent m') hlm g hc; omega
      · exact h.sep n m' (fun e => hm2 e.symm) hwn hlm g h1 hc
    · rw [upd_other _ _ hm] at hwm hg
      have hm2 : m ≠ n := fun e => by subst e; rw [upd_same] at hwm; exact hwm.elim
      rw [upd_other _ _ hm2] at hwm
      by_cases hm' : m' = nm
      · subst hm'
        rw [upd_same]
        intro hc
        rcases hsep g hc with h1 | h1
        · have := blk_lt (h.ent m) (by cases hh : hp m <;> simp_all [wrE, lvE]) g hg; omega
        · exact h.sep m n hm2 hwm (by rw [hw]; trivial) g hg h1
      · rw [upd_other _ _ hm'] at hlm ⊢
        have hm3 : m' ≠ n := fun e => by subst e; rw [upd_same] at hlm; exact hlm.elim
        rw [upd_other _ _ hm3] at hlm
        exact h.sep m m' hne hwm hlm g hg
  · by_cases hm : m = nm
    · subst hm
      rw [upd_same] at hg
      rcases hsep g hg with h1 | h1
      · have := h.fr.bs; exact .inl (by omega)
      · exact h.mine n hwn g h1
    · rw [upd_other _ _ hm] at hwm hg
      have hm2 : m ≠ n := fun e => by subst e; rw [upd_same] at hwm; exact hwm.elim
      rw [upd_other _ _ hm2] at hwm
      exact h.mine m hwm g hg
  · refine ⟨hgr.os.trans h.fr.os, hgr.tape.trans h.fr.tape, hgr.output.trans h.fr.output, Nat.le_trans h.fr.size hgr.size, Nat.le_trans h.fr.bs hgr.size, fun k hk hG => ?_⟩
    refine (hblock k (by have := h.fr.bs; omega) fun hc => ?_).trans (h.fr.block k hk hG)
    rcases h.mine n hwn k hc with h1 | h1
    · omega
    · exact hG h1
/-- Draws change nothing. -/
theorem Mem.drawn (h : Mem base G w0 w hp ν) (d : Nat) : Mem base G w0 { w with drawn := d } hp ν := by
  refine ⟨fun n => (h.ent n).frame fun _ _ _ => rfl, h.sep, h.mine, ⟨h.fr.os, h.fr.tape, h.fr.output, h.fr.size, h.fr.bs, h.fr.block⟩⟩
end
end Go.Sx
