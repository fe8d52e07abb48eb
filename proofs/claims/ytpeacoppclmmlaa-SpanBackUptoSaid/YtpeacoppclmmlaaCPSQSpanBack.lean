/- The pure statement of SpanBack (printed by grow.py). -/
import Derived.Test.YtpeacoppclmmlaaCPSx15
import Derived.Test.YtpeacoppclmmlaaCPSOpens
namespace Go.Proofs.Ytpeacoppclmmlaa.PS
open Go.RowKit Go.Proofs.YtpeacoppclmmlaaW.PrintWords Go.Proofs.YtpeacoppclmmlaaW.PrintLast Go.Proofs.YtpeacoppclmmlaaW.PrintMore Go.Proofs.Ytpeacoppclmmlaa.Open
def grapevinelaw08_SpanBack.PureQ : Prop := ∀ (x0 : List (S43)) (x1 : List Int) (x2 : List Int), g22 x0 → g44 x1 → g44 x2 → m22 x0 + m44 x1 + m44 x2 ≤ 1048576 → ∃ k, grapevinelaw08_SpanBack.f k x0 x1 x2 = some true
end Go.Proofs.Ytpeacoppclmmlaa.PS
