/- The pure statement of ParcelUnused (printed by grow.py). -/
import Derived.Test.YtpeacoppclmmlaaPUPPx14
import Derived.Test.YtpeacoppclmmlaaPUPPOpens
namespace Go.Proofs.Ytpeacoppclmmlaa.PP
open Go.RowKit Go.Proofs.YtpeacoppclmmlaaW.PrintWords Go.Proofs.YtpeacoppclmmlaaW.PrintLast Go.Proofs.YtpeacoppclmmlaaW.PrintMore Go.Proofs.Ytpeacoppclmmlaa.Open
def grapevinelaw13_ParcelUnused.PureQ : Prop := ∀ (x0 : S51) (x1 : S51), g51 x0 → g51 x1 → ∃ k, grapevinelaw13_ParcelUnused.f k x0.f0 x0.f1 x0.f2 x0.f3 x0.f4 x0.f5 x0.f6 x0.f7 x1.f0 x1.f1 x1.f2 x1.f3 x1.f4 x1.f5 x1.f6 x1.f7 = some true
end Go.Proofs.Ytpeacoppclmmlaa.PP
