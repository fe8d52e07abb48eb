/-
  PLAIN LAW: SpanHorizons.
-/
import Derived.Test.YtpeacoppclmmlaaASpanE
import Derived.Test.YtpeacoppclmmlaaAPSQSpanHorizons
set_option linter.unusedSimpArgs false
set_option linter.unusedVariables false
namespace Go.Proofs.Ytpeacoppclmmlaa.Pure
open Go.RowKit Go.Proofs.YtpeacoppclmmlaaW.PrintWords Go.Proofs.YtpeacoppclmmlaaW.PrintLast Go.Proofs.YtpeacoppclmmlaaW.PrintMore Go.Proofs.Ytpeacoppclmmlaa.Open Go.Proofs.Ytpeacoppclmmlaa.PS
theorem SpanHorizons : grapevinelaw08_SpanHorizons.PureQ := by
  intro a t ha ht
  have la := len_of ha
  refine Ev.rounds (g := fun k => grapevinelaw08_SpanHorizons.f k a t) ?_
  refine Ev.bind (Hz_ev a t la) (Ev.bind (HzRef_ev a t la) (Ev.bind live_ev ?_))
  simp only [if_true, beq_self_eq_true]
  exact Ev.now _
end Go.Proofs.Ytpeacoppclmmlaa.Pure
