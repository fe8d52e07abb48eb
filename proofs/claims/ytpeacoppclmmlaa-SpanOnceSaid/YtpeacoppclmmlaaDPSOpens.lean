/- How the laws' arguments read (printed by grow.py). -/
import Derived.Test.YtpeacoppclmmlaaDOpen
import Derived.Test.YtpeacoppclmmlaaDPSx0
namespace Go.Proofs.Ytpeacoppclmmlaa.PS
open Go.RowKit Go.Proofs.YtpeacoppclmmlaaW.PrintWords Go.Proofs.YtpeacoppclmmlaaW.PrintLast Go.Proofs.YtpeacoppclmmlaaW.PrintMore Go.Proofs.Ytpeacoppclmmlaa.Open
set_option linter.unusedVariables false
end Go.Proofs.Ytpeacoppclmmlaa.PS
