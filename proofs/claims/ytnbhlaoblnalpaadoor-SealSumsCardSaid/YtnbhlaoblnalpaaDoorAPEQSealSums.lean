/- The pure statement of SealSums (printed by grow.py). -/
import Derived.Test.YtnbhlaoblnalpaaDoorAPEx1
import Derived.Test.YtnbhlaoblnalpaaDoorAPEOpens
namespace Go.Proofs.YtnbhlaoblnalpaaDoor.PE
open Go.RowKit Go.Proofs.YtnbhlaoblnalpaaDoorW.PrintWords Go.Proofs.YtnbhlaoblnalpaaDoorW.PrintLast Go.Proofs.YtnbhlaoblnalpaaDoorW.PrintMore Go.Proofs.YtnbhlaoblnalpaaDoor.Open
def grapevinelaw01_SealSums.PureQ : Prop := ∀ (x0 : Int) (x1 : List Int), (Lit.int .u32 x0).wf = true → g23 x1 → x1.length * 1 ≤ 140737488351232 → ∃ k, grapevinelaw01_SealSums.f k x0 x1 = some true
end Go.Proofs.YtnbhlaoblnalpaaDoor.PE
