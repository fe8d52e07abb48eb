/-
  PLAIN LAW: SealScans.
-/
import Derived.Test.YtnbhlaoblnalpaaDoorCSealD
import Derived.Test.YtnbhlaoblnalpaaDoorCPEQSealScans
set_option linter.unusedSimpArgs false
set_option linter.unusedVariables false
namespace Go.Proofs.YtnbhlaoblnalpaaDoor.Pure
open Go.RowKit Go.Proofs.YtnbhlaoblnalpaaDoorW.PrintWords Go.Proofs.YtnbhlaoblnalpaaDoorW.PrintLast Go.Proofs.YtnbhlaoblnalpaaDoorW.PrintMore Go.Proofs.YtnbhlaoblnalpaaDoor.Open Go.Proofs.YtnbhlaoblnalpaaDoor.PE Go.Proofs.YtnbhlaoblnalpaaDoor.Crc
theorem SealScans : grapevinelaw01_SealScans.PureQ := by
  intro b h hz
  have hb := IsB_wf h.2
  have hlen : (scanF b).1.length ≤ 9223372036854775807 := by
    unfold scanF
    split
    · simp
    · have := scanR_len hb b.length [] 0 0
      simp only [List.length_nil] at this
      omega
  have live : Ev (fun k => grapevinelaw01_SealScans.j0 k b true) true := by
    apply Ev.succ
    simp only [grapevinelaw01_SealScans.j0, if_true]
    exact Ev.bind lives_ev (Ev.now _)
  have main : Ev (fun k => grapevinelaw01_SealScans.j0 k b false) true := by
    apply Ev.succ
    simp only [grapevinelaw01_SealScans.j0, Bool.false_eq_true, if_false]
    obtain ⟨h1, h2⟩ := Scan_ev hb
    refine Ev.bind h1 (Ev.bind h2 (Ev.bind lives_ev ?_))
    simp only [if_true]
    refine Ev.bind (SameAll_ev _ hlen) ?_
    simp only [if_true, beq_self_eq_true]
    exact Ev.now _
  refine Ev.rounds (g := fun k => grapevinelaw01_SealScans.f k b) ?_
  unfold grapevinelaw01_SealScans.f
  by_cases hc : (b.length : Int) > 3000
  · simp only [if_pos hc]
    by_cases h2 : (b.length : Int) ≤ 16384
    · simp only [decide_eq_true h2]
      exact live
    · simp only [decide_eq_false h2]
      exact main
  · simp only [if_neg hc]
    exact main
end Go.Proofs.YtnbhlaoblnalpaaDoor.Pure
