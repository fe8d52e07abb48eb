/- The pure statement of SpanFirst (printed by grow.py). -/
import Derived.Test.YtpeacoppclmmlaaAPSx11
import Derived.Test.YtpeacoppclmmlaaAPSOpens
namespace Go.Proofs.Ytpeacoppclmmlaa.PS
open Go.RowKit Go.Proofs.YtpeacoppclmmlaaW.PrintWords Go.Proofs.YtpeacoppclmmlaaW.PrintLast Go.Proofs.YtpeacoppclmmlaaW.PrintMore Go.Proofs.Ytpeacoppclmmlaa.Open
def grapevinelaw08_SpanFirst.PureQ : Prop := ∀ (x0 : List (S43)) (x1 : Int), g22 x0 → (Lit.int .i64 x1).wf = true → ∃ k, grapevinelaw08_SpanFirst.f k x0 x1 = some true
end Go.Proofs.Ytpeacoppclmmlaa.PS
