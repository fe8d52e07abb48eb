/- The pure statement of SpanJoins (printed by grow.py). -/
import Derived.Test.YtpeacoppclmmlaaAPSx7
import Derived.Test.YtpeacoppclmmlaaAPSOpens
namespace Go.Proofs.Ytpeacoppclmmlaa.PS
open Go.RowKit Go.Proofs.YtpeacoppclmmlaaW.PrintWords Go.Proofs.YtpeacoppclmmlaaW.PrintLast Go.Proofs.YtpeacoppclmmlaaW.PrintMore Go.Proofs.Ytpeacoppclmmlaa.Open
def grapevinelaw08_SpanJoins.PureQ : Prop := ∀ (x0 : List (S43)) (x1 : List (S43)), g22 x0 → g22 x1 → ∃ k, grapevinelaw08_SpanJoins.f k x0 x1 = some true
end Go.Proofs.Ytpeacoppclmmlaa.PS
