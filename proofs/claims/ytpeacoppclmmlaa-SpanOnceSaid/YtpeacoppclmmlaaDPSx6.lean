-- PRINTED by gprint.py (a session's own driver over the kit's print): not trusted; Lean checks it.
import Derived.Test.YtpeacoppclmmlaaDPSx0
import Derived.Test.YtpeacoppclmmlaaDPSx5
namespace Go.Proofs.Ytpeacoppclmmlaa.PS
open Go.RowKit Go.Proofs.YtpeacoppclmmlaaW.PrintWords Go.Proofs.YtpeacoppclmmlaaW.PrintLast Go.Proofs.YtpeacoppclmmlaaW.PrintMore
attribute [local go_sem] max2_int min2_int max_two min_two max_three min_three max_four min_four   -- for this text's walks alone
set_option linter.unusedVariables false
set_option linter.unusedSimpArgs false

/-! ### grapevineref08_edges: function 85 -/
/-! ### grapevineref08_At: function 35 -/
/-! ### grapevineref08_told: function 86 -/
end Go.Proofs.Ytpeacoppclmmlaa.PS
