/-
  PLAIN LAW: SealCuts.
-/
import Derived.Test.YtnbhlaoblnalpaaDoorDSealC
import Derived.Test.YtnbhlaoblnalpaaDoorDPEQSealCuts
set_option linter.unusedSimpArgs false
set_option linter.unusedVariables false
namespace Go.Proofs.YtnbhlaoblnalpaaDoor.Pure
open Go.RowKit Go.Proofs.YtnbhlaoblnalpaaDoorW.PrintWords Go.Proofs.YtnbhlaoblnalpaaDoorW.PrintLast Go.Proofs.YtnbhlaoblnalpaaDoorW.PrintMore Go.Proofs.YtnbhlaoblnalpaaDoor.Open Go.Proofs.YtnbhlaoblnalpaaDoor.PE Go.Proofs.YtnbhlaoblnalpaaDoor.Crc
theorem SealCuts : grapevinelaw01_SealCuts.PureQ := by
  intro kind b kk hk h hkk hz
  have hb := IsB_wf h.2
  obtain ⟨hk0, hk1⟩ := u8_wf hk
  have hkr : 0 ≤ kk ∧ kk < 65536 := by
    simp only [Lit.wf, IntKind.min, IntKind.max, IntKind.signed, IntKind.bits, Bool.and_eq_true, decide_eq_true_eq] at hkk
    simp at hkk
    omega
  refine Ev.rounds (g := fun k => grapevinelaw01_SealCuts.f k kind b kk) ?_
  unfold grapevinelaw01_SealCuts.f
  refine Ev.bind (Seal_ev hk0 hk1 hb) ?_
  unfold sealR
  by_cases hl : 4096 < b.length
  · simp only [if_pos hl]
    refine Ev.bind lives_ev ?_
    exact Ev.now _
  · simp only [if_neg hl, if_true]
    have hlen := sealdS_length kind b
    have hw : wrap64 kk = kk := wrap_ok (by omega) (by omega)
    have htm : Int.tmod kk ((sealdS kind b).length : Int) = kk % ((sealdS kind b).length : Int) := Int.tmod_eq_emod_of_nonneg (by omega)
    have hm0 : 0 ≤ kk % ((sealdS kind b).length : Int) := Int.emod_nonneg _ (by omega)
    have hm1 : kk % ((sealdS kind b).length : Int) < ((sealdS kind b).length : Int) := Int.emod_lt_of_pos _ (by omega)
    simp only [hw, htm, if_pos (show 0 < (sealdS kind b).length by omega), if_pos (show 0 ≤ kk % ((sealdS kind b).length : Int) ∧ kk % ((sealdS kind b).length : Int) < ((sealdS kind b).length : Int) from ⟨hm0, hm1⟩)]
    generalize kk % ((sealdS kind b).length : Int) = m at hm0 hm1
    have h2 := Open_ev (l := (sealdS kind b).take m.toNat) (a := 0) (IsB_take (sealdS_b hk0 hk1 hb) _) (by rw [List.length_take]; omega)
    have e : openR ((sealdS kind b).take m.toNat) 0 = ((0, 0, []), 0, 3) := by
      unfold openR
      rw [if_neg (by omega)]
      exact open_cut (kind := kind) (b := b) 0 (by omega) (m := m.toNat) (by omega)
    rw [e] at h2
    refine Ev.bind h2 (Ev.bind lives_ev ?_)
    simp only [flat]
    exact Ev.now _
end Go.Proofs.YtnbhlaoblnalpaaDoor.Pure
