/- FnExactConstants: what the printed functions come to, for every input. -/
import Derived.Test.YtloclknnilphdaaPFnExactConstantsx1
import Derived.Test.YtloclknnilphdaaBase
set_option linter.unusedVariables false
set_option linter.unusedSimpArgs false
namespace Go.Proofs.Ytloclknnilphdaa.Pure.ExactConstantsW
open Go.RowKit Go.Proofs.Ytloclknnilphdaa.PFnExactConstants Go.Proofs.YtloclknnilphdaaW.PrintWords Go.Proofs.YtloclknnilphdaaW.PrintLast Go.Proofs.YtloclknnilphdaaW.PrintMore Go.Proofs.Ytloclknnilphdaa.Base
end Go.Proofs.Ytloclknnilphdaa.Pure.ExactConstantsW
namespace Go.Proofs.Ytloclknnilphdaa.Pure
open Go.RowKit Go.Proofs.Ytloclknnilphdaa.PFnExactConstants Go.Proofs.YtloclknnilphdaaW.PrintWords Go.Proofs.YtloclknnilphdaaW.PrintLast Go.Proofs.YtloclknnilphdaaW.PrintMore Go.Proofs.Ytloclknnilphdaa.Base Go.Proofs.Ytloclknnilphdaa.Pure.ExactConstantsW
theorem FnExactConstants : laws_FnExactConstants.Pure := rfl
end Go.Proofs.Ytloclknnilphdaa.Pure
