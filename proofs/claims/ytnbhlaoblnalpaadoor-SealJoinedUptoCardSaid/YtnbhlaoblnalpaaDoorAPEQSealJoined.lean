/- The pure statement of SealJoined (printed by grow.py). -/
import Derived.Test.YtnbhlaoblnalpaaDoorAPEx1
import Derived.Test.YtnbhlaoblnalpaaDoorAPEOpens
namespace Go.Proofs.YtnbhlaoblnalpaaDoor.PE
open Go.RowKit Go.Proofs.YtnbhlaoblnalpaaDoorW.PrintWords Go.Proofs.YtnbhlaoblnalpaaDoorW.PrintLast Go.Proofs.YtnbhlaoblnalpaaDoorW.PrintMore Go.Proofs.YtnbhlaoblnalpaaDoor.Open
def grapevinelaw01_SealJoined.PureQ : Prop := ∀ (x0 : List Int) (x1 : List Int), g23 x0 → g23 x1 → m23 x0 + m23 x1 ≤ 1048576 → ∃ k, grapevinelaw01_SealJoined.f k x0 x1 = some true
end Go.Proofs.YtnbhlaoblnalpaaDoor.PE
