/- The pure statement of StreamNone (printed by grow.py). -/
import Derived.Test.YtffefaiaifhokaaSNPTx24
import Derived.Test.YtffefaiaifhokaaSNPTOpens
namespace Go.Proofs.Ytffefaiaifhokaa.PT
open Go.RowKit Go.Proofs.YtffefaiaifhokaaW.PrintWords Go.Proofs.YtffefaiaifhokaaW.PrintLast Go.Proofs.YtffefaiaifhokaaW.PrintMore Go.Proofs.Ytffefaiaifhokaa.Open
def grapevinelaw15_StreamNone.PureQ : Prop := ∀ (x0 : S33) (x1 : Int) (x2 : Int), g33 x0 → (Lit.int .i64 x1).wf = true → (Lit.int .i64 x2).wf = true → ∃ k, grapevinelaw15_StreamNone.f k x0.f0 x0.f1 x0.f2 x0.f3 x0.f4 x0.f5 x0.f6 x0.f7 x1 x2 = some true
end Go.Proofs.Ytffefaiaifhokaa.PT
