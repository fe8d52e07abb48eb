/- The pure statement of LinkBounds (printed by grow.py). -/
import Derived.Test.YtoandmnefgimoaaDoorLBPLx34
import Derived.Test.YtoandmnefgimoaaDoorLBPLOpens
namespace Go.Proofs.YtoandmnefgimoaaDoor.PL
open Go.RowKit Go.Proofs.YtoandmnefgimoaaDoorW.PrintWords Go.Proofs.YtoandmnefgimoaaDoorW.PrintLast Go.Proofs.YtoandmnefgimoaaDoorW.PrintMore Go.Proofs.YtoandmnefgimoaaDoor.Open
def grapevinelaw14_LinkBounds.PureQ : Prop := ∀ (x0 : Int) (x1 : List (S57)), (Lit.int .u8 x0).wf = true → g55 x1 → ∃ k, grapevinelaw14_LinkBounds.f k x0 x1 = some true
end Go.Proofs.YtoandmnefgimoaaDoor.PL
