/- For all arguments (there are none) the program's PumpNew returns what the reference's returns. Conditions: none. -/
import Derived.Test.YtieddilnccjabaaPFnExactPumpNewx
import Derived.Test.YtieddilnccjabaaWMore
set_option linter.unusedVariables false
set_option linter.unusedSimpArgs false
namespace Go.Proofs.Ytieddilnccjabaa.Pure
open Go.RowKit Go.Proofs.Ytieddilnccjabaa.PFnExactPumpNew Go.Proofs.YtieddilnccjabaaW.PrintWords Go.Proofs.YtieddilnccjabaaW.PrintLast Go.Proofs.YtieddilnccjabaaW.PrintMore
theorem FnExactPumpNew : laws_FnExactPumpNew.Pure := by
  unfold laws_FnExactPumpNew.Pure
  rfl

end Go.Proofs.Ytieddilnccjabaa.Pure
