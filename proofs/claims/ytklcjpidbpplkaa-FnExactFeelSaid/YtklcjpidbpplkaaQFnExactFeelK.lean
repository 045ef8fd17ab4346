/- Short words for steps that stand often in the contracts below: each proves what its place asks, out of the facts at hand. -/
import Derived.Test.YtklcjpidbpplkaaQFnExactFeelW
set_option linter.unusedVariables false
set_option linter.unusedSimpArgs false
namespace Go.Proofs.Ytklcjpidbpplkaa.KW
open Go.RowKit Go.Proofs.YtklcjpidbpplkaaW.PrintWords Go.Proofs.YtklcjpidbpplkaaW.PrintLast Go.Proofs.YtklcjpidbpplkaaW.PrintMore
theorem bw {P : Prop} (h : P := by repeat (first | (with_reducible first | exact HB.out | apply below_alloc | apply pw_below_drewN | apply below_drew1) | (refine below_set ?_ (Aside0.out (by assumption))) | exact HB.out)) : P := h
theorem kw {P : Prop} (h : P := by repeat (first | (with_reducible first | refine blk_drewN ?_ _ | refine blk_drew ?_ | refine blk_alloc ?_ _ | exact Aside0.out (by assumption)) | refine blk_far ?_ (Aside0.out (by assumption)) _ | exact Aside0.out (by assumption))) : P := h
theorem bfar {w : World} {g : Nat} {t : TypeId} {cs : Array Value} {p : Addr} {u : Value} (hp : g ≠ p.block) (h : w.heap[g]? = some (.cells cs t (0, 0))) : (w.setCell p u).heap[g]? = some (.cells cs t (0, 0)) := blk_far h hp u
theorem kput {w : World} {g : Nat} {o o' : Obj} (h1 : w.heap[g]? = some o) (h2 : o = o') : w.heap[g]? = some o' := h2 ▸ h1
theorem kp {P : Prop} (h : P := by
  apply kput
  case h1 => repeat (first | (with_reducible first | apply blk_drewN | apply blk_drew | apply blk_alloc | apply blk_set | exact Aside0.out (by assumption)) | (apply bfar; exact Aside0.out (by assumption)) | exact Aside0.out (by assumption))
  case h2 => rfl) : P := h
theorem lw {P : Prop} (h : P := by rw [hg]; exact below_size bw) : P := h
theorem nl {P : Prop} (h : P := by
  rw [hg]; apply Nat.ne_of_lt; apply blk_lt
  repeat (first | (with_reducible first | apply blk_drewN | apply blk_drew | apply blk_alloc | exact Aside0.out (by assumption)) | (apply bfar; exact Aside0.out (by assumption)) | exact Aside0.out (by assumption))) : P := h
theorem ng {P : Prop} (h : P := by
  rw [hg]; apply Nat.ne_of_gt; apply blk_lt
  repeat (first | (with_reducible first | apply blk_drewN | apply blk_drew | apply blk_alloc | exact Aside0.out (by assumption)) | (apply bfar; exact Aside0.out (by assumption)) | exact Aside0.out (by assumption))) : P := h
theorem sw {P : Prop} (h : P := by (try simp only [List.map_toArray, List.map_cons, List.map_nil]); first | done | rfl | (simp only [List.length_drop, List.length_take]; rfl)) : P := h
theorem hw {P : Prop} (h : P := by repeat (first | (with_reducible first | exact HK.out | apply KeepBut.set_ | apply keep_drewN | apply keep_drew | apply keep_alloc) | refine keep_far ?_ (Aside0.out (by assumption)) _ | exact HK.out)) : P := h
theorem rw_ {P : Prop} (h : P := by (with_reducible repeat (first | apply Kd.R_alloc | apply Kd.R_drewN | apply Kd.R_drew)); (first | exact Aside0.out (by with_reducible assumption) | exact Aside0.out (by assumption))) : P := h
theorem vs {P : Prop} (h : P := by first | rfl | (simp; done) | (simp [*]; done)) : P := h
theorem va {P : Prop} (h : P := by first | (with_reducible assumption) | assumption) : P := h
theorem dw {P : Prop} (h : P := by repeat (first | exact Drawn0.refl _ | apply Drawn0.step)) : P := h
theorem ow {P : Prop} (h : P := by first | omega | exact Nat.le_refl _) : P := h
theorem hj {P : Prop} (h : P := by have := HK1.out; omega) : P := h
theorem bc2 {w : World} {g : Nat} {t : TypeId} {v0 v1 : Value} (h : Aside0 (w.heap[g]? = some (.cells #[v0, v1] t (0, 0)))) : w.cell? ⟨g, 0, none⟩ = some v0 ∧ w.cell? ⟨g, 1, none⟩ = some v1 :=
  ⟨(blk_cell h.out 0).trans rfl, (blk_cell h.out 1).trans rfl⟩
theorem bf2 {w : World} {g : Nat} {t : TypeId} {cs : Array Value} (h : Aside0 (w.heap[g]? = some (.cells cs t (0, 0)))) : w.frozen? ⟨g, 0, none⟩ = false ∧ w.frozen? ⟨g, 1, none⟩ = false :=
  ⟨blk_frozen h.out 0, blk_frozen h.out 1⟩
end Go.Proofs.Ytklcjpidbpplkaa.KW
