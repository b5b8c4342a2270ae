/- The law on the constants answers true; no condition. -/
import Derived.Test.YtcafjnbdpdflmaaPFnExactConstantsx1
import Derived.Test.YtcafjnbdpdflmaaPl
set_option linter.unusedVariables false
set_option linter.unusedSimpArgs false
namespace Go.Proofs.Ytcafjnbdpdflmaa.Pure
open Go.RowKit Go.Proofs.Ytcafjnbdpdflmaa.PFnExactConstants Go.Proofs.YtcafjnbdpdflmaaW.PrintWords Go.Proofs.YtcafjnbdpdflmaaW.PrintLast Go.Proofs.YtcafjnbdpdflmaaW.PrintMore Go.Proofs.Ytcafjnbdpdflmaa.Pl

theorem FnExactConstants : laws_FnExactConstants.Pure := rfl

end Go.Proofs.Ytcafjnbdpdflmaa.Pure
