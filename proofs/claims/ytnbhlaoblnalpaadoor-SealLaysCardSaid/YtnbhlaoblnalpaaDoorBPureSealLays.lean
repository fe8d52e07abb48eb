/-
  PLAIN LAW: SealLays.
-/
import Derived.Test.YtnbhlaoblnalpaaDoorBSealC
import Derived.Test.YtnbhlaoblnalpaaDoorBPEQSealLays
set_option linter.unusedSimpArgs false
set_option linter.unusedVariables false
namespace Go.Proofs.YtnbhlaoblnalpaaDoor.Pure
open Go.RowKit Go.Proofs.YtnbhlaoblnalpaaDoorW.PrintWords Go.Proofs.YtnbhlaoblnalpaaDoorW.PrintLast Go.Proofs.YtnbhlaoblnalpaaDoorW.PrintMore Go.Proofs.YtnbhlaoblnalpaaDoor.Open Go.Proofs.YtnbhlaoblnalpaaDoor.PE Go.Proofs.YtnbhlaoblnalpaaDoor.Crc
theorem SealLays : grapevinelaw01_SealLays.PureQ := by
  intro kind b hk h hz
  have hb := IsB_wf h.2
  obtain ⟨hk0, hk1⟩ := u8_wf hk
  refine Ev.rounds (g := fun k => grapevinelaw01_SealLays.f k kind b) ?_
  unfold grapevinelaw01_SealLays.f
  simp only [Option.bind_some, List.nil_append, List.length_nil, Nat.zero_add]
  simp only [if_pos (show b.length < 140737488355328 by omega), Option.bind_some]
  refine Ev.bind (Seal_ev hk0 hk1 hb) (Ev.bind (refSeal_ev hk0 hk1 hb) (Ev.bind lives_ev ?_))
  simp only [if_true, beq_self_eq_true]
  exact Ev.now _
end Go.Proofs.YtnbhlaoblnalpaaDoor.Pure
