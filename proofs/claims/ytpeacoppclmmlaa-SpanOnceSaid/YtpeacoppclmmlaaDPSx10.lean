-- PRINTED by gprint.py (a session's own driver over the kit's print): not trusted; Lean checks it.
import Derived.Test.YtpeacoppclmmlaaDPSx0
import Derived.Test.YtpeacoppclmmlaaDPSx2
import Derived.Test.YtpeacoppclmmlaaDPSx3
import Derived.Test.YtpeacoppclmmlaaDPSx4
import Derived.Test.YtpeacoppclmmlaaDPSx5
import Derived.Test.YtpeacoppclmmlaaDPSx6
import Derived.Test.YtpeacoppclmmlaaDPSx7
import Derived.Test.YtpeacoppclmmlaaDPSx8
import Derived.Test.YtpeacoppclmmlaaDPSx9
namespace Go.Proofs.Ytpeacoppclmmlaa.PS
open Go.RowKit Go.Proofs.YtpeacoppclmmlaaW.PrintWords Go.Proofs.YtpeacoppclmmlaaW.PrintLast Go.Proofs.YtpeacoppclmmlaaW.PrintMore
attribute [local go_sem] max2_int min2_int max_two min_two max_three min_three max_four min_four   -- for this text's walks alone
set_option linter.unusedVariables false
set_option linter.unusedSimpArgs false

/-! ### grapevineref08_Count: function 37 -/
/-! ### grapevinelaw08_SpanRight: function 8 -/
/-! ### span_Keep: function 38 -/
/-! ### grapevineref08_Keep: function 39 -/
/-! ### span_Forget: function 40 -/
/-! ### grapevineref08_Forget: function 41 -/
/-! ### grapevinelaw08_SpanKeeps: function 9 -/
end Go.Proofs.Ytpeacoppclmmlaa.PS
