/-
  PLAIN LAW: SpanPuts.
-/
import Derived.Test.YtpeacoppclmmlaaBSpanP
import Derived.Test.YtpeacoppclmmlaaBPSQSpanPuts
set_option linter.unusedSimpArgs false
set_option linter.unusedVariables false
namespace Go.Proofs.Ytpeacoppclmmlaa.Pure
open Go.RowKit Go.Proofs.YtpeacoppclmmlaaW.PrintWords Go.Proofs.YtpeacoppclmmlaaW.PrintLast Go.Proofs.YtpeacoppclmmlaaW.PrintMore Go.Proofs.Ytpeacoppclmmlaa.Open Go.Proofs.Ytpeacoppclmmlaa.PS
theorem SpanPuts : grapevinelaw08_SpanPuts.PureQ := by
  intro l h
  have ll : l.length ≤ 9223372036854775807 := h.1
  refine Ev.rounds (g := fun k => grapevinelaw08_SpanPuts.f k l) ?_
  obtain ⟨h1, h2⟩ := Put_ev l ll
  refine Ev.bind h1 (Ev.bind h2 (Ev.bind live_ev ?_))
  simp only [if_true, beq_self_eq_true]
  exact Ev.now _
end Go.Proofs.Ytpeacoppclmmlaa.Pure
