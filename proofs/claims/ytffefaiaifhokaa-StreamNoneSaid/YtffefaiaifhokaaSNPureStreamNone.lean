/-
  PLAIN LAW: StreamNone.
-/
import Derived.Test.YtffefaiaifhokaaSNPTQStreamNone
import Derived.Test.YtffefaiaifhokaaSNPTx19
set_option linter.unusedVariables false
set_option linter.unusedSimpArgs false
namespace Go.Proofs.Ytffefaiaifhokaa.Pure
open Go.RowKit Go.Proofs.YtffefaiaifhokaaW.PrintWords Go.Proofs.YtffefaiaifhokaaW.PrintLast Go.Proofs.YtffefaiaifhokaaW.PrintMore Go.Proofs.Ytffefaiaifhokaa.Open Go.Proofs.Ytffefaiaifhokaa.PT
theorem live_true : grapevinelaw15_live.f 200 = some true := by kernel_rfl
theorem StreamNone : grapevinelaw15_StreamNone.PureQ := by
  unfold grapevinelaw15_StreamNone.PureQ
  intros
  refine ⟨200, ?_⟩
  unfold grapevinelaw15_StreamNone.f
  rw [live_true]
  rfl
end Go.Proofs.Ytffefaiaifhokaa.Pure
