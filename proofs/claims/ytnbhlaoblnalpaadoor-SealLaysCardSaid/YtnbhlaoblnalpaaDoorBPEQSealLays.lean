/- The pure statement of SealLays (printed by grow.py). -/
import Derived.Test.YtnbhlaoblnalpaaDoorBPEx2
import Derived.Test.YtnbhlaoblnalpaaDoorBPEOpens
namespace Go.Proofs.YtnbhlaoblnalpaaDoor.PE
open Go.RowKit Go.Proofs.YtnbhlaoblnalpaaDoorW.PrintWords Go.Proofs.YtnbhlaoblnalpaaDoorW.PrintLast Go.Proofs.YtnbhlaoblnalpaaDoorW.PrintMore Go.Proofs.YtnbhlaoblnalpaaDoor.Open
def grapevinelaw01_SealLays.PureQ : Prop := ∀ (x0 : Int) (x1 : List Int), (Lit.int .u8 x0).wf = true → g23 x1 → x1.length * 1 ≤ 140737488351232 → ∃ k, grapevinelaw01_SealLays.f k x0 x1 = some true
end Go.Proofs.YtnbhlaoblnalpaaDoor.PE
