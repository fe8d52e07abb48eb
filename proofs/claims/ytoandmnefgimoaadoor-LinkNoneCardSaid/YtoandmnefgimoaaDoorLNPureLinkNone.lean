/-
  PLAIN LAW: LinkNone.
-/
import Derived.Test.YtoandmnefgimoaaDoorLNPLQLinkNone
import Derived.Test.YtoandmnefgimoaaDoorLNPLx25
set_option linter.unusedVariables false
namespace Go.Proofs.YtoandmnefgimoaaDoor.Pure
open Go.RowKit Go.Proofs.YtoandmnefgimoaaDoorW.PrintWords Go.Proofs.YtoandmnefgimoaaDoorW.PrintLast Go.Proofs.YtoandmnefgimoaaDoorW.PrintMore Go.Proofs.YtoandmnefgimoaaDoor.Open Go.Proofs.YtoandmnefgimoaaDoor.PL
theorem live_true : grapevinelaw14_live.f 200 = some true := by kernel_rfl
theorem LinkNone : grapevinelaw14_LinkNone.PureQ := by
  unfold grapevinelaw14_LinkNone.PureQ
  intros
  refine ⟨200, ?_⟩
  unfold grapevinelaw14_LinkNone.f
  rw [live_true]
  rfl
end Go.Proofs.YtoandmnefgimoaaDoor.Pure
