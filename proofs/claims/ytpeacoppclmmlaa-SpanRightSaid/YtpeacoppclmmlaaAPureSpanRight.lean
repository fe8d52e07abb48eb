/-
  PLAIN LAW: SpanRight.
-/
import Derived.Test.YtpeacoppclmmlaaASpanE
import Derived.Test.YtpeacoppclmmlaaAPSQSpanRight
set_option linter.unusedSimpArgs false
set_option linter.unusedVariables false
namespace Go.Proofs.Ytpeacoppclmmlaa.Pure
open Go.RowKit Go.Proofs.YtpeacoppclmmlaaW.PrintWords Go.Proofs.YtpeacoppclmmlaaW.PrintLast Go.Proofs.YtpeacoppclmmlaaW.PrintMore Go.Proofs.Ytpeacoppclmmlaa.Open Go.Proofs.Ytpeacoppclmmlaa.PS
theorem SpanRight : grapevinelaw08_SpanRight.PureQ := by
  intro a t x ha ht hx
  have la := len_of ha
  refine Ev.rounds (g := fun k => grapevinelaw08_SpanRight.f k a t x) ?_
  refine Ev.bind live_ev ?_
  simp only [if_true]
  refine Ev.bind (Right_ev a la) (Ev.bind (RRight_ev a la) ?_)
  simp only [beq_self_eq_true, if_true]
  refine Ev.bind (SAt_ev a t la) (Ev.bind (RAt_ev a t la) ?_)
  simp only [if_true]
  obtain ⟨r, r1, r2⟩ := Counts_ev a x la
  refine Ev.bind r1 (Ev.bind r2 ?_)
  simp only [beq_self_eq_true]
  exact Ev.now _
end Go.Proofs.Ytpeacoppclmmlaa.Pure
