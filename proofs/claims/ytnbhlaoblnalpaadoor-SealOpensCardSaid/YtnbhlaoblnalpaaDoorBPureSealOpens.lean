/-
  PLAIN LAW: SealOpens.
-/
import Derived.Test.YtnbhlaoblnalpaaDoorBSealC
import Derived.Test.YtnbhlaoblnalpaaDoorBPEQSealOpens
set_option linter.unusedSimpArgs false
set_option linter.unusedVariables false
namespace Go.Proofs.YtnbhlaoblnalpaaDoor.Pure
open Go.RowKit Go.Proofs.YtnbhlaoblnalpaaDoorW.PrintWords Go.Proofs.YtnbhlaoblnalpaaDoorW.PrintLast Go.Proofs.YtnbhlaoblnalpaaDoorW.PrintMore Go.Proofs.YtnbhlaoblnalpaaDoor.Open Go.Proofs.YtnbhlaoblnalpaaDoor.PE Go.Proofs.YtnbhlaoblnalpaaDoor.Crc
theorem SealOpens : grapevinelaw01_SealOpens.PureQ := by
  intro b a h ha hz
  have hb := IsB_wf h.2
  refine Ev.rounds (g := fun k => grapevinelaw01_SealOpens.f k b a) ?_
  unfold grapevinelaw01_SealOpens.f
  refine Ev.bind (Open_ev hb (by omega)) (Ev.bind (refOpen_ev hb (by omega)) (Ev.bind lives_ev ?_))
  have e : ∀ x y z, grapevineref01_Same.f x y z x y z = some true := by intro x y z; simp [grapevineref01_Same.f]
  simp only [if_true, e, Option.bind_some, beq_self_eq_true]
  exact Ev.now _
end Go.Proofs.YtnbhlaoblnalpaaDoor.Pure
