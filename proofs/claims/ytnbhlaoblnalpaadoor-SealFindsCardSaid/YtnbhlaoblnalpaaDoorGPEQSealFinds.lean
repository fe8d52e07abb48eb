/- The pure statement of SealFinds (printed by grow.py). -/
import Derived.Test.YtnbhlaoblnalpaaDoorGPEx7
import Derived.Test.YtnbhlaoblnalpaaDoorGPEOpens
namespace Go.Proofs.YtnbhlaoblnalpaaDoor.PE
open Go.RowKit Go.Proofs.YtnbhlaoblnalpaaDoorW.PrintWords Go.Proofs.YtnbhlaoblnalpaaDoorW.PrintLast Go.Proofs.YtnbhlaoblnalpaaDoorW.PrintMore Go.Proofs.YtnbhlaoblnalpaaDoor.Open
def grapevinelaw01_SealFinds.PureQ : Prop := ∀ (x0 : List Int) (x1 : List (List Int)) (x2 : S57), g23 x0 → g55 x1 → g57 x2 → x0.length * 1 ≤ 140737488351232 → ∃ k, grapevinelaw01_SealFinds.f k x0 x1 x2.f0 x2.f1 = some true
end Go.Proofs.YtnbhlaoblnalpaaDoor.PE
