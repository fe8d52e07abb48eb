/- The pure statement of SpanParts (printed by grow.py). -/
import Derived.Test.YtpeacoppclmmlaaCPSx13
import Derived.Test.YtpeacoppclmmlaaCPSOpens
namespace Go.Proofs.Ytpeacoppclmmlaa.PS
open Go.RowKit Go.Proofs.YtpeacoppclmmlaaW.PrintWords Go.Proofs.YtpeacoppclmmlaaW.PrintLast Go.Proofs.YtpeacoppclmmlaaW.PrintMore Go.Proofs.Ytpeacoppclmmlaa.Open
def grapevinelaw08_SpanParts.PureQ : Prop := ∀ (x0 : List (S43)) (x1 : S37) (x2 : Int), g22 x0 → g37 x1 → (Lit.int .i64 x2).wf = true → ∃ k, grapevinelaw08_SpanParts.f k x0 x1.f0 x1.f1 x2 = some true
end Go.Proofs.Ytpeacoppclmmlaa.PS
