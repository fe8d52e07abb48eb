/- The pure statement of SpanPuts (printed by grow.py). -/
import Derived.Test.YtpeacoppclmmlaaBPSx12
import Derived.Test.YtpeacoppclmmlaaBPSOpens
namespace Go.Proofs.Ytpeacoppclmmlaa.PS
open Go.RowKit Go.Proofs.YtpeacoppclmmlaaW.PrintWords Go.Proofs.YtpeacoppclmmlaaW.PrintLast Go.Proofs.YtpeacoppclmmlaaW.PrintMore Go.Proofs.Ytpeacoppclmmlaa.Open
def grapevinelaw08_SpanPuts.PureQ : Prop := ∀ (x0 : List (S43)), g22 x0 → ∃ k, grapevinelaw08_SpanPuts.f k x0 = some true
end Go.Proofs.Ytpeacoppclmmlaa.PS
