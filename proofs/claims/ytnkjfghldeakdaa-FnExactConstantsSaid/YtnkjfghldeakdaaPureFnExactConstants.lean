/- Proved here: the law FnExactConstants, over numbers and lists: for all arguments it returns true; no condition. -/
import Derived.Test.YtnkjfghldeakdaaPFnExactConstantsx1
namespace Go.Proofs.Ytnkjfghldeakdaa.Pure
open Go.RowKit Go.Proofs.Ytnkjfghldeakdaa.PFnExactConstants Go.Proofs.YtnkjfghldeakdaaW.PrintWords Go.Proofs.YtnkjfghldeakdaaW.PrintLast
set_option linter.unusedVariables false
set_option linter.unusedSimpArgs false

/-! #### FnExactConstants -/
theorem FnExactConstants : laws_FnExactConstants.Pure := rfl

end Go.Proofs.Ytnkjfghldeakdaa.Pure
