/-
  PLAIN LAW: SpanTakes.
-/
import Derived.Test.YtpeacoppclmmlaaCSpanU
import Derived.Test.YtpeacoppclmmlaaCPSx15
set_option linter.unusedSimpArgs false
set_option linter.unusedVariables false
namespace Go.Proofs.Ytpeacoppclmmlaa.Pure
open Go.Proofs.Ytpeacoppclmmlaa.PS.Oct (uint uintN)
open Go.RowKit Go.Proofs.YtpeacoppclmmlaaW.PrintWords Go.Proofs.YtpeacoppclmmlaaW.PrintLast Go.Proofs.YtpeacoppclmmlaaW.PrintMore Go.Proofs.Ytpeacoppclmmlaa.Open Go.Proofs.Ytpeacoppclmmlaa.PS
theorem SpanTakes : grapevinelaw08_SpanTakes.Pure := by
  intro b t hm hs hw ht
  have hb := Oct.bytes_of hw
  refine Ev.rounds (g := fun k => grapevinelaw08_SpanTakes.f k b t) ?_
  obtain ⟨h1, h2⟩ := Take_ev hb (by omega) t
  have hl := takeR_length hb t
  refine Ev.bind h1 (Ev.bind h2 (Ev.bind live_ev ?_))
  simp only [if_true]
  refine Ev.bind (Same_self (takeR b t).1 (by omega)) ?_
  simp only [if_true, beq_self_eq_true]
  exact Ev.now _
end Go.Proofs.Ytpeacoppclmmlaa.Pure
