-- PRINTED by gprint.py (a session's own driver over the kit's print): not trusted; Lean checks it.
import Derived.Test.YtpeacoppclmmlaaDPSx0
import Derived.Test.YtpeacoppclmmlaaDPSx2
import Derived.Test.YtpeacoppclmmlaaDPSx3
import Derived.Test.YtpeacoppclmmlaaDPSx4
import Derived.Test.YtpeacoppclmmlaaDPSx5
import Derived.Test.YtpeacoppclmmlaaDPSx7
import Derived.Test.YtpeacoppclmmlaaDPSx8
namespace Go.Proofs.Ytpeacoppclmmlaa.PS
open Go.RowKit Go.Proofs.YtpeacoppclmmlaaW.PrintWords Go.Proofs.YtpeacoppclmmlaaW.PrintLast Go.Proofs.YtpeacoppclmmlaaW.PrintMore
attribute [local go_sem] max2_int min2_int max_two min_two max_three min_three max_four min_four   -- for this text's walks alone
set_option linter.unusedVariables false
set_option linter.unusedSimpArgs false

/-! ### grapevinelaw08_SpanTicks: function 6 -/
/-! ### span_Gaps: function 32 -/
/-! ### grapevineref08_ranged: function 62 -/
/-! ### grapevineref08_Gaps: function 33 -/
/-! ### grapevinelaw08_SpanGaps: function 7 -/
/-! ### span_Count: function 36 -/
end Go.Proofs.Ytpeacoppclmmlaa.PS
