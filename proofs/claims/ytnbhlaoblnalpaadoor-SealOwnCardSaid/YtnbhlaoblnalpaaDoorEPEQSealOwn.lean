/- The pure statement of SealOwn (printed by grow.py). -/
import Derived.Test.YtnbhlaoblnalpaaDoorEPEx6
import Derived.Test.YtnbhlaoblnalpaaDoorEPEOpens
namespace Go.Proofs.YtnbhlaoblnalpaaDoor.PE
open Go.RowKit Go.Proofs.YtnbhlaoblnalpaaDoorW.PrintWords Go.Proofs.YtnbhlaoblnalpaaDoorW.PrintLast Go.Proofs.YtnbhlaoblnalpaaDoorW.PrintMore Go.Proofs.YtnbhlaoblnalpaaDoor.Open
def grapevinelaw01_SealOwn.PureQ : Prop := ∀ (x0 : Int) (x1 : List Int), (Lit.int .u8 x0).wf = true → g23 x1 → x1.length * 1 ≤ 140737488351232 → ∃ k, grapevinelaw01_SealOwn.f k x0 x1 = some true
end Go.Proofs.YtnbhlaoblnalpaaDoor.PE
