/- The pure statement of SealOpens (printed by grow.py). -/
import Derived.Test.YtnbhlaoblnalpaaDoorBPEx4
import Derived.Test.YtnbhlaoblnalpaaDoorBPEOpens
namespace Go.Proofs.YtnbhlaoblnalpaaDoor.PE
open Go.RowKit Go.Proofs.YtnbhlaoblnalpaaDoorW.PrintWords Go.Proofs.YtnbhlaoblnalpaaDoorW.PrintLast Go.Proofs.YtnbhlaoblnalpaaDoorW.PrintMore Go.Proofs.YtnbhlaoblnalpaaDoor.Open
def grapevinelaw01_SealOpens.PureQ : Prop := ∀ (x0 : List Int) (x1 : Int), g23 x0 → (Lit.int .i64 x1).wf = true → x0.length * 1 ≤ 140737488351232 → ∃ k, grapevinelaw01_SealOpens.f k x0 x1 = some true
end Go.Proofs.YtnbhlaoblnalpaaDoor.PE
