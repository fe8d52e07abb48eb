/- The pure statement of SealBack (printed by grow.py). -/
import Derived.Test.YtnbhlaoblnalpaaDoorDPEx4
import Derived.Test.YtnbhlaoblnalpaaDoorDPEOpens
namespace Go.Proofs.YtnbhlaoblnalpaaDoor.PE
open Go.RowKit Go.Proofs.YtnbhlaoblnalpaaDoorW.PrintWords Go.Proofs.YtnbhlaoblnalpaaDoorW.PrintLast Go.Proofs.YtnbhlaoblnalpaaDoorW.PrintMore Go.Proofs.YtnbhlaoblnalpaaDoor.Open
def grapevinelaw01_SealBack.PureQ : Prop := ∀ (x0 : Int) (x1 : S45), (Lit.int .u8 x0).wf = true → g45 x1 → 1 + m45 x1 ≤ 1048576 → ∃ k, grapevinelaw01_SealBack.f k x0 x1.f0 x1.f1 x1.f2 = some true
end Go.Proofs.YtnbhlaoblnalpaaDoor.PE
