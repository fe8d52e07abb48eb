/-
  PLAIN LAW: ParcelChecks.
-/
import Derived.Test.YtpeacoppclmmlaaPAParL
import Derived.Test.YtpeacoppclmmlaaPAPPQParcelChecks
set_option linter.unusedSimpArgs false
set_option linter.unusedVariables false
namespace Go.Proofs.Ytpeacoppclmmlaa.Pure
open Go.RowKit Go.Proofs.YtpeacoppclmmlaaW.PrintWords Go.Proofs.YtpeacoppclmmlaaW.PrintLast Go.Proofs.YtpeacoppclmmlaaW.PrintMore Go.Proofs.Ytpeacoppclmmlaa.Open Go.Proofs.Ytpeacoppclmmlaa.PP
theorem ParcelChecks : grapevinelaw13_ParcelChecks.PureQ := by
  intro x h
  refine Ev.rounds (g := fun k => grapevinelaw13_ParcelChecks.f k x.f0 x.f1 x.f2 x.f3 x.f4 x.f5 x.f6 x.f7) ?_
  refine Ev.bind live_ev ?_
  simp only [if_true]
  refine Ev.bind (Check_ev _ _ _ _ _ _ _ _) (Ev.bind (RCheck_ev _ _ _ _ _ _ _ _) ?_)
  simp only [beq_self_eq_true]
  exact Ev.now _
end Go.Proofs.Ytpeacoppclmmlaa.Pure
