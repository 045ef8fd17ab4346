/- For all arguments (there are none) the program's MenuNew returns what the reference's returns. Conditions: none. -/
import Derived.Test.YtieddilnccjabaaPFnExactMenuNewx
import Derived.Test.YtieddilnccjabaaWMore
set_option linter.unusedVariables false
set_option linter.unusedSimpArgs false
namespace Go.Proofs.Ytieddilnccjabaa.Pure
open Go.RowKit Go.Proofs.Ytieddilnccjabaa.PFnExactMenuNew Go.Proofs.YtieddilnccjabaaW.PrintWords Go.Proofs.YtieddilnccjabaaW.PrintLast Go.Proofs.YtieddilnccjabaaW.PrintMore
theorem FnExactMenuNew : laws_FnExactMenuNew.Pure := by
  unfold laws_FnExactMenuNew.Pure laws_FnExactMenuNew.f spec_MenuNew.f impl_MenuNew.f laws_eqMenu.f
  simp

end Go.Proofs.Ytieddilnccjabaa.Pure
