/- The pure statement of SpanRight (printed by grow.py). -/
import Derived.Test.YtpeacoppclmmlaaAPSx10
import Derived.Test.YtpeacoppclmmlaaAPSOpens
namespace Go.Proofs.Ytpeacoppclmmlaa.PS
open Go.RowKit Go.Proofs.YtpeacoppclmmlaaW.PrintWords Go.Proofs.YtpeacoppclmmlaaW.PrintLast Go.Proofs.YtpeacoppclmmlaaW.PrintMore Go.Proofs.Ytpeacoppclmmlaa.Open
def grapevinelaw08_SpanRight.PureQ : Prop := ∀ (x0 : List (S43)) (x1 : Int) (x2 : Int), g22 x0 → (Lit.int .i64 x1).wf = true → (Lit.int .i64 x2).wf = true → ∃ k, grapevinelaw08_SpanRight.f k x0 x1 x2 = some true
end Go.Proofs.Ytpeacoppclmmlaa.PS
