/- Short words for steps that stand often in the contracts below: each proves what its place asks, out of the facts at hand. -/
import Derived.Test.YtieddilnccjabaaQFnGuardsW
set_option linter.unusedVariables false
set_option linter.unusedSimpArgs false
namespace Go.Proofs.Ytieddilnccjabaa.KW
open Go.RowKit Go.Proofs.YtieddilnccjabaaW.PrintWords Go.Proofs.YtieddilnccjabaaW.PrintLast Go.Proofs.YtieddilnccjabaaW.PrintMore
theorem hw {P : Prop} (h : P := by repeat (first | (with_reducible first | exact HK.out | apply KeepBut.set_ | apply keep_drewN | apply keep_drew | apply keep_alloc) | refine keep_far ?_ (Aside0.out (by assumption)) _ | exact HK.out)) : P := h
end Go.Proofs.Ytieddilnccjabaa.KW
