/- The pure statement of LinkNone (printed by grow.py). -/
import Derived.Test.YtoandmnefgimoaaDoorLNPLx38
import Derived.Test.YtoandmnefgimoaaDoorLNPLOpens
namespace Go.Proofs.YtoandmnefgimoaaDoor.PL
open Go.RowKit Go.Proofs.YtoandmnefgimoaaDoorW.PrintWords Go.Proofs.YtoandmnefgimoaaDoorW.PrintLast Go.Proofs.YtoandmnefgimoaaDoorW.PrintMore Go.Proofs.YtoandmnefgimoaaDoor.Open
def grapevinelaw14_LinkNone.PureQ : Prop := ∀ (x0 : S37) (x1 : List Int) (x2 : Int), g37 x0 → g42 x1 → (Lit.int .i64 x2).wf = true → x1.length * 1 ≤ 140737488351232 → ∃ k, grapevinelaw14_LinkNone.f k x0.f0 x0.f1 x0.f2 x0.f3 x0.f4 x0.f5 x0.f6 x0.f7 x1 x2 = some true
end Go.Proofs.YtoandmnefgimoaaDoor.PL
