/- The pure statement of SealTurned (printed by grow.py). -/
import Derived.Test.YtnbhlaoblnalpaaDoorFPEx5
import Derived.Test.YtnbhlaoblnalpaaDoorFPEOpens
namespace Go.Proofs.YtnbhlaoblnalpaaDoor.PE
open Go.RowKit Go.Proofs.YtnbhlaoblnalpaaDoorW.PrintWords Go.Proofs.YtnbhlaoblnalpaaDoorW.PrintLast Go.Proofs.YtnbhlaoblnalpaaDoorW.PrintMore Go.Proofs.YtnbhlaoblnalpaaDoor.Open
def grapevinelaw01_SealTurned.PureQ : Prop := ∀ (x0 : Int) (x1 : List Int) (x2 : S49), (Lit.int .u8 x0).wf = true → g23 x1 → g49 x2 → x1.length * 1 ≤ 140737488351232 → ∃ k, grapevinelaw01_SealTurned.f k x0 x1 x2.f0 x2.f1.f0 x2.f1.f1 x2.f1.f2 x2.f1.f3 = some true
end Go.Proofs.YtnbhlaoblnalpaaDoor.PE
