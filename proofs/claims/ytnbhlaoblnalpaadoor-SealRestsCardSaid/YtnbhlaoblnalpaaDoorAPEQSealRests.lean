/- The pure statement of SealRests (printed by grow.py). -/
import Derived.Test.YtnbhlaoblnalpaaDoorAPEx1
import Derived.Test.YtnbhlaoblnalpaaDoorAPEOpens
namespace Go.Proofs.YtnbhlaoblnalpaaDoor.PE
open Go.RowKit Go.Proofs.YtnbhlaoblnalpaaDoorW.PrintWords Go.Proofs.YtnbhlaoblnalpaaDoorW.PrintLast Go.Proofs.YtnbhlaoblnalpaaDoorW.PrintMore Go.Proofs.YtnbhlaoblnalpaaDoor.Open
def grapevinelaw01_SealRests.PureQ : Prop := ∀ (x0 : List Int), g23 x0 → x0.length * 1 ≤ 140737488351232 → ∃ k, grapevinelaw01_SealRests.f k x0 = some true
end Go.Proofs.YtnbhlaoblnalpaaDoor.PE
