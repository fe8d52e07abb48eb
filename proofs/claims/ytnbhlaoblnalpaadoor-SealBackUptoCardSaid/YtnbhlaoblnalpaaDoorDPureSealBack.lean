/-
  PLAIN LAW: SealBack (up to the bound on the bulk).
-/
import Derived.Test.YtnbhlaoblnalpaaDoorDSealC
import Derived.Test.YtnbhlaoblnalpaaDoorDPEQSealBack
set_option linter.unusedSimpArgs false
set_option linter.unusedVariables false
namespace Go.Proofs.YtnbhlaoblnalpaaDoor.Pure
open Go.RowKit Go.Proofs.YtnbhlaoblnalpaaDoorW.PrintWords Go.Proofs.YtnbhlaoblnalpaaDoorW.PrintLast Go.Proofs.YtnbhlaoblnalpaaDoorW.PrintMore Go.Proofs.YtnbhlaoblnalpaaDoor.Open Go.Proofs.YtnbhlaoblnalpaaDoor.PE Go.Proofs.YtnbhlaoblnalpaaDoor.Crc
theorem SealBack : grapevinelaw01_SealBack.PureQ := by
  intro kind x hk hx hbulk
  obtain ⟨l0, l1, l2⟩ := x
  obtain ⟨hk0, hk1⟩ := u8_wf hk
  obtain ⟨g0, g1, g2⟩ := hx
  have h0 := IsB_wf g0.2
  have h1 := IsB_wf g1.2
  have h2 := IsB_wf g2.2
  have la := length_le_sumOf (fun _ : Int => 1) (fun _ => Nat.le_refl _) l0
  have lb := length_le_sumOf (fun _ : Int => 1) (fun _ => Nat.le_refl _) l1
  have lc := length_le_sumOf (fun _ : Int => 1) (fun _ => Nat.le_refl _) l2
  have hl : l0.length + l1.length + l2.length ≤ 1048576 := by
    simp only [m45, m23] at hbulk
    omega
  clear hbulk la lb lc
  refine Ev.rounds (g := fun k => grapevinelaw01_SealBack.f k kind l0 l1 l2) ?_
  unfold grapevinelaw01_SealBack.f
  refine Ev.bind (Seal_ev hk0 hk1 h1) ?_
  unfold sealR
  by_cases hb : 4096 < l1.length
  · simp only [if_pos hb]
    refine Ev.bind lives_ev ?_
    simp only [hb]
    exact Ev.now _
  · simp only [if_neg hb, if_true]
    have hlen := sealdS_length kind l1
    simp only [if_pos (show l0.length + (sealdS kind l1).length + l2.length < 140737488355328 by omega)]
    have hs := sealdS_b hk0 hk1 h1
    have h3 := Open_ev (l := l0 ++ sealdS kind l1 ++ l2) (a := (l0.length : Int)) (IsB_append (IsB_append h0 hs) h2) (by simp only [List.length_append]; omega)
    rw [open_around (kind := kind) (b := l1) l0 l2 (by omega)] at h3
    have w1 : wrap64 ((l0.length : Int) + 8) = (l0.length : Int) + 8 := wrap_ok (by omega) (by omega)
    have w2 : wrap64 ((l0.length : Int) + 8 + (l1.length : Int)) = (l0.length : Int) + l1.length + 8 := by rw [wrap_ok (by omega) (by omega)]; omega
    refine Ev.bind h3 (Ev.bind lives_ev ?_)
    simp only [flat, w1, w2]
    exact Ev.now _
end Go.Proofs.YtnbhlaoblnalpaaDoor.Pure
