/- The pure statement of SealCuts (printed by grow.py). -/
import Derived.Test.YtnbhlaoblnalpaaDoorDPEx4
import Derived.Test.YtnbhlaoblnalpaaDoorDPEOpens
namespace Go.Proofs.YtnbhlaoblnalpaaDoor.PE
open Go.RowKit Go.Proofs.YtnbhlaoblnalpaaDoorW.PrintWords Go.Proofs.YtnbhlaoblnalpaaDoorW.PrintLast Go.Proofs.YtnbhlaoblnalpaaDoorW.PrintMore Go.Proofs.YtnbhlaoblnalpaaDoor.Open
def grapevinelaw01_SealCuts.PureQ : Prop := ∀ (x0 : Int) (x1 : List Int) (x2 : Int), (Lit.int .u8 x0).wf = true → g23 x1 → (Lit.int .u16 x2).wf = true → x1.length * 1 ≤ 140737488351232 → ∃ k, grapevinelaw01_SealCuts.f k x0 x1 x2 = some true
end Go.Proofs.YtnbhlaoblnalpaaDoor.PE
