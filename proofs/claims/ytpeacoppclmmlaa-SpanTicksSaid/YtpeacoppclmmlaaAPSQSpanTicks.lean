/- The pure statement of SpanTicks (printed by grow.py). -/
import Derived.Test.YtpeacoppclmmlaaAPSx9
import Derived.Test.YtpeacoppclmmlaaAPSOpens
namespace Go.Proofs.Ytpeacoppclmmlaa.PS
open Go.RowKit Go.Proofs.YtpeacoppclmmlaaW.PrintWords Go.Proofs.YtpeacoppclmmlaaW.PrintLast Go.Proofs.YtpeacoppclmmlaaW.PrintMore Go.Proofs.Ytpeacoppclmmlaa.Open
def grapevinelaw08_SpanTicks.PureQ : Prop := ∀ (x0 : List (S43)) (x1 : List (S43)) (x2 : Int), g22 x0 → g22 x1 → (Lit.int .i64 x2).wf = true → ∃ k, grapevinelaw08_SpanTicks.f k x0 x1 x2 = some true
end Go.Proofs.Ytpeacoppclmmlaa.PS
