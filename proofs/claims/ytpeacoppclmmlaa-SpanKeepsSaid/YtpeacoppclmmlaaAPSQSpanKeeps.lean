/- The pure statement of SpanKeeps (printed by grow.py). -/
import Derived.Test.YtpeacoppclmmlaaAPSx10
import Derived.Test.YtpeacoppclmmlaaAPSOpens
namespace Go.Proofs.Ytpeacoppclmmlaa.PS
open Go.RowKit Go.Proofs.YtpeacoppclmmlaaW.PrintWords Go.Proofs.YtpeacoppclmmlaaW.PrintLast Go.Proofs.YtpeacoppclmmlaaW.PrintMore Go.Proofs.Ytpeacoppclmmlaa.Open
def grapevinelaw08_SpanKeeps.PureQ : Prop := ∀ (x0 : List (S43)) (x1 : S37), g22 x0 → g37 x1 → ∃ k, grapevinelaw08_SpanKeeps.f k x0 x1.f0 x1.f1 = some true
end Go.Proofs.Ytpeacoppclmmlaa.PS
