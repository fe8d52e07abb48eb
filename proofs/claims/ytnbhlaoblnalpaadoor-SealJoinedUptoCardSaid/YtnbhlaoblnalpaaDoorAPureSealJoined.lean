/-
  PLAIN LAW: SealJoined.
-/
import Derived.Test.YtnbhlaoblnalpaaDoorASealA
import Derived.Test.YtnbhlaoblnalpaaDoorAPEQSealJoined
set_option linter.unusedSimpArgs false
set_option linter.unusedVariables false
namespace Go.Proofs.YtnbhlaoblnalpaaDoor.Pure
open Go.RowKit Go.Proofs.YtnbhlaoblnalpaaDoorW.PrintWords Go.Proofs.YtnbhlaoblnalpaaDoorW.PrintLast Go.Proofs.YtnbhlaoblnalpaaDoorW.PrintMore Go.Proofs.YtnbhlaoblnalpaaDoor.Open Go.Proofs.YtnbhlaoblnalpaaDoor.PE Go.Proofs.YtnbhlaoblnalpaaDoor.Crc
theorem SealJoined : grapevinelaw01_SealJoined.PureQ := by
  intro a b ha hb hbulk
  have h1 := IsB_wf ha.2
  have h2 := IsB_wf hb.2
  have la := length_le_sumOf (fun _ : Int => 1) (fun _ => Nat.le_refl _) a
  have lb := length_le_sumOf (fun _ : Int => 1) (fun _ => Nat.le_refl _) b
  have hl : a.length + b.length ≤ 1048576 := by
    simp only [m23] at hbulk
    omega
  refine Ev.rounds (g := fun k => grapevinelaw01_SealJoined.f k a b) ?_
  unfold grapevinelaw01_SealJoined.f
  simp only [Option.bind_some, List.nil_append, List.length_nil, Nat.zero_add]
  simp only [if_pos (show a.length < 140737488355328 by omega), Option.bind_some, if_pos (show a.length + b.length < 140737488355328 by omega)]
  refine Ev.bind live_ev ?_
  simp only [if_true]
  have hab : IsB (a ++ b) := fun x hx => (List.mem_append.1 hx).elim (h1 x) (h2 x)
  refine Ev.bind (Sum_ev hab (by simp; omega)) (Ev.bind (Sum_ev h1 ha.1) (Ev.bind (More_ev h2 hb.1 (more_lt (nats_bytes h1) (by decide))) ?_))
  rw [more_more, ← nats_append]
  simp only [if_true]
  refine Ev.bind (More_ev (s := 0) h2 hb.1 (by decide)) (Ev.bind (Sum_ev h2 hb.1) ?_)
  simp only [beq_self_eq_true]
  exact Ev.now _
end Go.Proofs.YtnbhlaoblnalpaaDoor.Pure
