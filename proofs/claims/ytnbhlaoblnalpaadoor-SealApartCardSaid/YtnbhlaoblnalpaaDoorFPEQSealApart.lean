/- The pure statement of SealApart (printed by grow.py). -/
import Derived.Test.YtnbhlaoblnalpaaDoorFPEx2
import Derived.Test.YtnbhlaoblnalpaaDoorFPEOpens
namespace Go.Proofs.YtnbhlaoblnalpaaDoor.PE
open Go.RowKit Go.Proofs.YtnbhlaoblnalpaaDoorW.PrintWords Go.Proofs.YtnbhlaoblnalpaaDoorW.PrintLast Go.Proofs.YtnbhlaoblnalpaaDoorW.PrintMore Go.Proofs.YtnbhlaoblnalpaaDoor.Open
def grapevinelaw01_SealApart.PureQ : Prop := ∀ (x0 : List Int) (x1 : Int) (x2 : S32), g23 x0 → (Lit.int .u16 x1).wf = true → g32 x2 → x0.length * 1 ≤ 140737488351232 → ∃ k, grapevinelaw01_SealApart.f k x0 x1 x2.f0 x2.f1 x2.f2 x2.f3 = some true
end Go.Proofs.YtnbhlaoblnalpaaDoor.PE
