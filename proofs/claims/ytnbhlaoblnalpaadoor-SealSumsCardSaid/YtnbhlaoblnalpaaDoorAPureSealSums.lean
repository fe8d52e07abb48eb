/-
  PLAIN LAW: SealSums.
-/
import Derived.Test.YtnbhlaoblnalpaaDoorASealA
import Derived.Test.YtnbhlaoblnalpaaDoorAPEQSealSums
set_option linter.unusedSimpArgs false
set_option linter.unusedVariables false
namespace Go.Proofs.YtnbhlaoblnalpaaDoor.Pure
open Go.RowKit Go.Proofs.YtnbhlaoblnalpaaDoorW.PrintWords Go.Proofs.YtnbhlaoblnalpaaDoorW.PrintLast Go.Proofs.YtnbhlaoblnalpaaDoorW.PrintMore Go.Proofs.YtnbhlaoblnalpaaDoor.Open Go.Proofs.YtnbhlaoblnalpaaDoor.PE Go.Proofs.YtnbhlaoblnalpaaDoor.Crc
theorem SealSums : grapevinelaw01_SealSums.PureQ := by
  intro s l hs h hz
  have hb := IsB_wf h.2
  obtain ⟨n, rfl, hn⟩ := u32_wf hs
  refine Ev.rounds (g := fun k => grapevinelaw01_SealSums.f k (n : Int) l) ?_
  refine Ev.bind live_ev ?_
  simp only [if_true]
  refine Ev.bind (Sum_ev hb h.1) (Ev.bind (refSum_ev hb h.1) ?_)
  simp only [if_true]
  refine Ev.bind (More_ev hb h.1 hn) (Ev.bind (refMore_ev hb h.1 hn) ?_)
  simp only [beq_self_eq_true]
  exact Ev.now _
end Go.Proofs.YtnbhlaoblnalpaaDoor.Pure
