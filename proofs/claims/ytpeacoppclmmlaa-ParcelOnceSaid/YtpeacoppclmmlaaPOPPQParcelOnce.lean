/- The pure statement of ParcelOnce (printed by grow.py). -/
import Derived.Test.YtpeacoppclmmlaaPOPPx27
import Derived.Test.YtpeacoppclmmlaaPOPPOpens
namespace Go.Proofs.Ytpeacoppclmmlaa.PP
open Go.RowKit Go.Proofs.YtpeacoppclmmlaaW.PrintWords Go.Proofs.YtpeacoppclmmlaaW.PrintLast Go.Proofs.YtpeacoppclmmlaaW.PrintMore Go.Proofs.Ytpeacoppclmmlaa.Open
def grapevinelaw13_ParcelOnce.PureQ : Prop := ∀ (x0 : List Int) (x1 : Int), g44 x0 → (Lit.int .u16 x1).wf = true → x0.length * 1 ≤ 140737488351232 → ∃ k, grapevinelaw13_ParcelOnce.f k x0 x1 = some true
end Go.Proofs.Ytpeacoppclmmlaa.PP
