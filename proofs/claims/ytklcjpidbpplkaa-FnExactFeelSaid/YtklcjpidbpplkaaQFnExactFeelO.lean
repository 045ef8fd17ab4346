/- What a typed value of memory is, told once for every type: a slice, a struct, a text and a number open to the value that the printed contracts take. -/
import Derived.Deep.Slices
import Derived.ChangeSame
import Derived.ChangeArms
import Derived.ChangeShapes
import Derived.Test.YtklcjpidbpplkaaQFnExactFeelW
set_option linter.unusedVariables false
set_option linter.unusedSimpArgs false
namespace Go.Proofs.Ytklcjpidbpplkaa.Opn
open Go.RowKit Go.Proofs.YtklcjpidbpplkaaW.PrintWords Go.ChangeShapes Go.WideShapes Go.Deep

/-- Cells of type t that can be read are of this kind, and what they say is good. -/
structure Opens {α : Type} (P : Program) (t : TypeId) (k : Kd α) (G : α → Prop) : Prop where
  out : ∀ {H : Type} {enc : TypeId × Value → H} {w : World} {base : Nat} {spare : Nat → Bool} {held : Bool} {fuel : Nat} {cs : List Value} {x : DataW H × List MemPlace},
    DataW.trod enc P w base spare held fuel t cs = some x → ∃ a, k.K w a cs ∧ G a
theorem opens_int {P : Program} {t : TypeId} {k : IntKind} (ht : P.underlying t = some (.int k)) : Opens P t (Kd.int k) (fun n => (Lit.int k n).wf = true) := by
  constructor
  intro H enc w base spare held fuel cs x h
  obtain ⟨n, rfl, _, hw⟩ := DataW.trod_int ht h
  exact ⟨n, rfl, hw⟩
theorem opens_bool {P : Program} {t : TypeId} (ht : P.underlying t = some .bool) : Opens P t Kd.bool (fun _ => True) := by
  constructor
  intro H enc w base spare held fuel cs x h
  obtain ⟨n, rfl, _⟩ := DataW.trod_bool ht h
  exact ⟨n, rfl, trivial⟩
theorem opens_string {P : Program} {t : TypeId} (ht : P.underlying t = some .string) : Opens P t Kd.string (fun s => s.size ≤ maxLen) := by
  constructor
  intro H enc w base spare held fuel cs x h
  obtain ⟨n, rfl, _, hs⟩ := DataW.trod_string ht h
  exact ⟨n, rfl, hs⟩
theorem opens_slice {α : Type} [Inhabited α] {P : Program} {t e : TypeId} {d : Kd α} {G : α → Prop} (ht : P.underlying t = some (.slice e)) (hc : P.cellsOf e = d.sz) (hd : Opens P e d G) :
    Opens P t (Kd.slice e d) (fun xs => xs.length ≤ maxLen ∧ ∀ x ∈ xs, G x) := by
  constructor
  intro H enc w base spare held fuel cs x h
  rcases open_slice ht h with ⟨rfl, _⟩ | ⟨a, len, cap, m, n, D, Pl, rfl, _, hl, hm, hmm, _, hi⟩
  · exact ⟨[], ⟨none, 0, rfl, Nat.le_refl _, rfl, by simp, fun hp => absurd hp (by simp)⟩, by simp, by simp⟩
  · have hml : len ≤ m := by rw [hmm]; split <;> omega
    obtain ⟨V, hV⟩ := choose_lt (n := len) (p := fun i (v : α) => G v ∧ ∃ cs', w.cells? base (a.add (i * P.cellsOf e)) (P.cellsOf e) = some cs' ∧ d.K w v cs') (fun i hlt => by
      obtain ⟨cs', h1, h2⟩ := hi i (by omega)
      obtain ⟨v, hk, hg⟩ := hd.out h2
      exact ⟨v, hg, cs', h1, hk⟩)
    have hlen : ((List.range len).map V).length = len := by simp
    refine ⟨(List.range len).map V, ⟨some a, cap, by rw [hlen], by rw [hlen]; exact hl, hlen.trans hlen.symm, ?_, fun _ => ⟨a, rfl, fun j p hj => ?_⟩⟩, ?_, ?_⟩
    · rw [hlen]; unfold maxLen at hm; omega
    · have hjl : j < len := by
        have := (List.getElem?_eq_some_iff.1 hj).1
        rw [hlen] at this; exact this
      have hp : p = V j := by
        rw [List.getElem?_map, List.getElem?_range hjl] at hj
        exact (Option.some.inj hj).symm
      subst hp
      obtain ⟨_, cs', hcs, hk⟩ := hV j hjl
      obtain ⟨_, hcl, hat⟩ := World.cells?_some hcs
      refine ⟨cs', hcl.trans hc, hk, fun i u hu => ?_⟩
      have hil : i < P.cellsOf e := by
        have := (List.getElem?_eq_some_iff.1 hu).1
        omega
      rw [← hc, ← Go.Deep.add_add, hat i hil, hu]
    · rw [hlen]; omega
    · intro x hx
      obtain ⟨j, hj, rfl⟩ := List.mem_map.1 hx
      exact (hV j (List.mem_range.1 hj)).1
/-- The fields of a struct from an offset on. -/
structure OpensF {α : Type} (P : Program) (off : Nat) (fs : List Field) (k : Kd α) (G : α → Prop) : Prop where
  out : ∀ {H : Type} {enc : TypeId × Value → H} {w : World} {base : Nat} {spare : Nat → Bool} {held : Bool} {fuel : Nat} {cs : List Value},
    cs.length = off + k.sz → (∀ (i : Nat) (f : Field), fs[i]? = some f → ∃ y, DataW.trod enc P w base spare held fuel f.type ((cs.drop f.offset).take (P.cellsOf f.type)) = some y) → ∃ a, k.K w a (cs.drop off) ∧ G a
theorem opensF_one {α : Type} {P : Program} {off : Nat} {f : Field} {k : Kd α} {G : α → Prop} (ho : f.offset = off) (hc : P.cellsOf f.type = k.sz) (hd : Opens P f.type k G) : OpensF P off [f] k G := by
  constructor
  intro H enc w base spare held fuel cs hl h
  obtain ⟨y, hy⟩ := h 0 f rfl
  obtain ⟨a, hk, hg⟩ := hd.out hy
  refine ⟨a, ?_, hg⟩
  rw [ho, List.take_of_length_le (by rw [List.length_drop, hl, hc]; omega)] at hk
  exact hk
theorem opensF_cons {α β : Type} {P : Program} {off : Nat} {f : Field} {fs : List Field} {k : Kd α} {k' : Kd β} {G : α → Prop} {G' : β → Prop} (ho : f.offset = off) (hc : P.cellsOf f.type = k.sz) (hd : Opens P f.type k G)
    (hr : OpensF P (off + k.sz) fs k' G') : OpensF P off (f :: fs) (Kd.pair k k') (fun x => G x.1 ∧ G' x.2) := by
  constructor
  intro H enc w base spare held fuel cs hl h
  obtain ⟨y, hy⟩ := h 0 f rfl
  obtain ⟨a, hk, hg⟩ := hd.out hy
  obtain ⟨b, hk', hg'⟩ := hr.out (by rw [hl]; exact (Nat.add_assoc _ _ _).symm) (fun i f' hf => h (i + 1) f' hf)
  refine ⟨(a, b), ⟨(cs.drop off).take k.sz, cs.drop (off + k.sz), ?_, ?_, hk'⟩, hg, hg'⟩
  · rw [← List.drop_drop, List.take_append_drop]
  · rw [ho, hc] at hk
    exact hk
theorem opens_struct {α β : Type} {P : Program} {t : TypeId} {fs : List Field} {k : Kd α} {G : α → Prop} (f : β → α) (g : α → β) (hfg : ∀ a, f (g a) = a) (ht : P.underlying t = some (.struct fs.toArray)) (hc : P.cellsOf t = k.sz) (hF : OpensF P 0 fs k G) :
    Opens P t (Kd.iso k f) (fun x => G (f x)) := by
  constructor
  intro H enc w base spare held fuel cs x h
  obtain ⟨xs, n, _, _, hl, hxl, hi⟩ := DataW.trod_struct ht h
  obtain ⟨a, hk, hg⟩ := hF.out (w := w) (by rw [hl, hc]; exact (Nat.zero_add _).symm) (fun i f' hf => by
    have hf' : fs.toArray[i]? = some f' := by simpa using hf
    have h1 := hi i f' hf'
    have hil : i < xs.length := by
      have := (Array.getElem?_eq_some_iff.1 hf').1
      omega
    exact ⟨xs[i], by rw [h1]; exact List.getElem?_eq_getElem hil⟩)
  refine ⟨g a, ?_, ?_⟩
  · show k.K w (f (g a)) cs
    rw [hfg]
    exact hk
  · show G (f (g a))
    rw [hfg]
    exact hg
/-- A struct that is handed on by value, as the fields in line. -/
theorem opens_fields {α : Type} {P : Program} {t : TypeId} {fs : List Field} {k : Kd α} {G : α → Prop} (ht : P.underlying t = some (.struct fs.toArray)) (hc : P.cellsOf t = k.sz) (hF : OpensF P 0 fs k G) : Opens P t k G := by
  have h := opens_struct (α := α) (β := α) id id (fun _ => rfl) ht hc hF
  exact ⟨fun hx => h.out hx⟩
/-- A parameter that is a struct: its value, opened. -/
theorem param_struct {α : Type} {P : Program} {t : TypeId} {fs : Array Field} {k : Kd α} {G : α → Prop} {H : Type} {enc : TypeId × Value → H} {w : World} {r : Reach} {base b0 : Nat} {spare : Nat → Bool} {held : Bool} {v : Value} {d : DataW H} {ps : List MemPlace}
    (ht : P.underlying t = some (.struct fs)) (hk : Opens P t k G) (hv : Value.okWide P w r b0 t v) (h : DataW.Trod enc P w base spare held t v d ps) : ∃ (a : α) (cs : Array Value), v = .agg cs ∧ k.K w a cs.toList ∧ G a := by
  obtain ⟨cs, rfl, _⟩ := okWide_struct ht hv
  obtain ⟨fuel, hf⟩ := h
  obtain ⟨a, ha, hg⟩ := hk.out hf
  exact ⟨a, cs, rfl, by simpa [Value.cells] using ha, hg⟩
theorem param_slice {α : Type} {P : Program} {t e : TypeId} {d' : Kd α} {G : List α → Prop} {H : Type} {enc : TypeId × Value → H} {w : World} {r : Reach} {base b0 : Nat} {spare : Nat → Bool} {held : Bool} {v : Value} {d : DataW H} {ps : List MemPlace}
    (ht : P.underlying t = some (.slice e)) (hk : Opens P t (Kd.slice e d') G) (hv : Value.okWide P w r b0 t v) (h : DataW.Trod enc P w base spare held t v d ps) :
    ∃ (xs : List α) (A : Option Addr) (c : Nat), v = .slice A xs.length c ∧ xs.length ≤ c ∧ d'.C w A xs.length xs ∧ G xs := by
  obtain ⟨A, len, cap, rfl⟩ := okWide_slice ht hv
  obtain ⟨fuel, hf⟩ := h
  obtain ⟨xs, ⟨A', c, hcs, hl, hC⟩, hg⟩ := hk.out hf
  simp [Value.cells] at hcs
  obtain ⟨rfl, rfl, rfl⟩ := hcs
  exact ⟨xs, A, cap, rfl, hl, hC, hg⟩
theorem trod_lt {P : Program} {H : Type} {enc : TypeId × Value → H} {w : World} {base : Nat} {spare : Nat → Bool} {held : Bool} {t : TypeId} {v : Value} {d : DataW H} {ps : List MemPlace} (h : DataW.Trod enc P w base spare held t v d ps) : ∀ x ∈ ps, x.block < w.heap.size := by
  obtain ⟨m, hm⟩ := h
  exact DataW.trod_lt m _ _ _ hm
end Go.Proofs.Ytklcjpidbpplkaa.Opn
