/-
  PLAIN LAW: ParcelPuts.
-/
import Derived.Test.YtpeacoppclmmlaaPAParL
import Derived.Test.YtpeacoppclmmlaaPAParQ
import Derived.Test.YtpeacoppclmmlaaPAPPQParcelPuts
set_option linter.unusedSimpArgs false
set_option linter.unusedVariables false
namespace Go.Proofs.Ytpeacoppclmmlaa.Pure
open Go.RowKit Go.Proofs.YtpeacoppclmmlaaW.PrintWords Go.Proofs.YtpeacoppclmmlaaW.PrintLast Go.Proofs.YtpeacoppclmmlaaW.PrintMore Go.Proofs.Ytpeacoppclmmlaa.Open Go.Proofs.Ytpeacoppclmmlaa.PP
theorem ParcelPuts : grapevinelaw13_ParcelPuts.PureQ := by
  intro x h
  refine Ev.rounds (g := fun k => grapevinelaw13_ParcelPuts.f k x.f0 x.f1 x.f2 x.f3 x.f4 x.f5 x.f6 x.f7) ?_
  refine Ev.bind (PPut_ev _ _ _ _ _ _ _ _) (Ev.bind (RPPut_ev _ _ _ _ _ _ _ _) (Ev.bind live_ev ?_))
  simp only [if_true, beq_self_eq_true]
  exact Ev.now _
end Go.Proofs.Ytpeacoppclmmlaa.Pure
