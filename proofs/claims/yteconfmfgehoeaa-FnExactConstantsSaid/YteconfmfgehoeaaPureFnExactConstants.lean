/- The pure statement of FnExactConstants: at every argument the law answers true. No condition. -/
import Derived.Test.YteconfmfgehoeaaMFnExactConstantsx1
import Derived.Test.YteconfmfgehoeaaLib1
import Derived.Test.YteconfmfgehoeaaLib2
set_option linter.unusedVariables false
set_option linter.unusedSimpArgs false
namespace Go.Proofs.Yteconfmfgehoeaa.Pure
open Go.RowKit Go.Proofs.Yteconfmfgehoeaa.MFnExactConstants Go.Proofs.YteconfmfgehoeaaW.PrintWords Go.Proofs.YteconfmfgehoeaaW.PrintLast Go.Proofs.YteconfmfgehoeaaW.PrintMore Go.Proofs.YteconfmfgehoeaaLib


theorem FnExactConstants : laws_FnExactConstants.f = some true := rfl

end Go.Proofs.Yteconfmfgehoeaa.Pure
