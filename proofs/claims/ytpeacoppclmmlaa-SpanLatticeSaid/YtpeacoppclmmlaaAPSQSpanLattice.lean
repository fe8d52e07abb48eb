/- The pure statement of SpanLattice (printed by grow.py). -/
import Derived.Test.YtpeacoppclmmlaaAPSx8
import Derived.Test.YtpeacoppclmmlaaAPSOpens
namespace Go.Proofs.Ytpeacoppclmmlaa.PS
open Go.RowKit Go.Proofs.YtpeacoppclmmlaaW.PrintWords Go.Proofs.YtpeacoppclmmlaaW.PrintLast Go.Proofs.YtpeacoppclmmlaaW.PrintMore Go.Proofs.Ytpeacoppclmmlaa.Open
def grapevinelaw08_SpanLattice.PureQ : Prop := ∀ (x0 : List (S43)) (x1 : List (S43)) (x2 : List (S43)), g22 x0 → g22 x1 → g22 x2 → ∃ k, grapevinelaw08_SpanLattice.f k x0 x1 x2 = some true
end Go.Proofs.Ytpeacoppclmmlaa.PS
