-- PRINTED by gprint.py (a session's own driver over the kit's print): not trusted; Lean checks it.
import Derived.Test.YtpeacoppclmmlaaBPSx0
import Derived.Test.YtpeacoppclmmlaaBPSx4
import Derived.Test.YtpeacoppclmmlaaBPSx7
import Derived.Test.YtpeacoppclmmlaaBPSx8
import Derived.Test.YtpeacoppclmmlaaBPSx9
import Derived.Test.YtpeacoppclmmlaaBPSx10
namespace Go.Proofs.Ytpeacoppclmmlaa.PS
open Go.RowKit Go.Proofs.YtpeacoppclmmlaaW.PrintWords Go.Proofs.YtpeacoppclmmlaaW.PrintLast Go.Proofs.YtpeacoppclmmlaaW.PrintMore
attribute [local go_sem] max2_int min2_int max_two min_two max_three min_three max_four min_four   -- for this text's walks alone
set_option linter.unusedVariables false
set_option linter.unusedSimpArgs false

/-! ### grapevinelaw08_SpanParts: function 12 -/
/-! ### octet_TakeUint: function 74 -/
-- typed by hand (mk_takeuint.py): a label and a goto
/-! ### api_Span: function 75 -/
-- typed by hand: a cut with three indexes
/-! ### span_Take: function 50 -/
end Go.Proofs.Ytpeacoppclmmlaa.PS
