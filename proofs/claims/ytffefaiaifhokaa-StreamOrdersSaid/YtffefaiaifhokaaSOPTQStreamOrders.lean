/- The pure statement of StreamOrders (printed by grow.py). -/
import Derived.Test.YtffefaiaifhokaaSOPTx27
import Derived.Test.YtffefaiaifhokaaSOPTOpens
namespace Go.Proofs.Ytffefaiaifhokaa.PT
open Go.RowKit Go.Proofs.YtffefaiaifhokaaW.PrintWords Go.Proofs.YtffefaiaifhokaaW.PrintLast Go.Proofs.YtffefaiaifhokaaW.PrintMore Go.Proofs.Ytffefaiaifhokaa.Open
def grapevinelaw15_StreamOrders.PureQ : Prop := ∀ (x0 : List (S33)) (x1 : Int), g22 x0 → (Lit.int .u8 x1).wf = true → ∃ k, grapevinelaw15_StreamOrders.f k x0 x1 = some true
end Go.Proofs.Ytffefaiaifhokaa.PT
