/- The pure statement of SealScans (printed by grow.py). -/
import Derived.Test.YtnbhlaoblnalpaaDoorCPEx5
import Derived.Test.YtnbhlaoblnalpaaDoorCPEOpens
namespace Go.Proofs.YtnbhlaoblnalpaaDoor.PE
open Go.RowKit Go.Proofs.YtnbhlaoblnalpaaDoorW.PrintWords Go.Proofs.YtnbhlaoblnalpaaDoorW.PrintLast Go.Proofs.YtnbhlaoblnalpaaDoorW.PrintMore Go.Proofs.YtnbhlaoblnalpaaDoor.Open
def grapevinelaw01_SealScans.PureQ : Prop := ∀ (x0 : List Int), g23 x0 → x0.length * 1 ≤ 140737488351232 → ∃ k, grapevinelaw01_SealScans.f k x0 = some true
end Go.Proofs.YtnbhlaoblnalpaaDoor.PE
