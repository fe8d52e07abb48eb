/- The pure statement of LinkProbes (printed by grow.py). -/
import Derived.Test.YtoandmnefgimoaaDoorLPPLx36
import Derived.Test.YtoandmnefgimoaaDoorRows
import Derived.Test.YtoandmnefgimoaaDoorLPWAll
import Derived.Deep.Slices
import Derived.ChangeArms
import Derived.Deep.Fields
import Derived.OpenShut
import Derived.WideShapes
import Derived.Test.YtoandmnefgimoaaDoorLPPLx0
namespace Go.Proofs.YtoandmnefgimoaaDoor.PL
open Go.RowKit Go.Proofs.YtoandmnefgimoaaDoorW.PrintWords Go.Proofs.YtoandmnefgimoaaDoorW.PrintLast Go.Proofs.YtoandmnefgimoaaDoorW.PrintMore
def grapevinelaw14_LinkProbes.PureQ : Prop := ∀ (x0 : Int) (x1 : Int) (x2 : Int), (Lit.int .u16 x0).wf = true → (Lit.int .u16 x1).wf = true → (Lit.int .u32 x2).wf = true → ∃ k, grapevinelaw14_LinkProbes.f k x0 x1 x2 = some true
end Go.Proofs.YtoandmnefgimoaaDoor.PL
