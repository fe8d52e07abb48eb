/- The pure statement of ParcelPlain (printed by grow.py). -/
import Derived.Test.YtpeacoppclmmlaaPNPPx19
import Derived.Test.YtpeacoppclmmlaaPNPPOpens
namespace Go.Proofs.Ytpeacoppclmmlaa.PP
open Go.RowKit Go.Proofs.YtpeacoppclmmlaaW.PrintWords Go.Proofs.YtpeacoppclmmlaaW.PrintLast Go.Proofs.YtpeacoppclmmlaaW.PrintMore Go.Proofs.Ytpeacoppclmmlaa.Open
def grapevinelaw13_ParcelPlain.PureQ : Prop := ∀ (x0 : S51), g51 x0 → ∃ k, grapevinelaw13_ParcelPlain.f k x0.f0 x0.f1 x0.f2 x0.f3 x0.f4 x0.f5 x0.f6 x0.f7 = some true
end Go.Proofs.Ytpeacoppclmmlaa.PP
