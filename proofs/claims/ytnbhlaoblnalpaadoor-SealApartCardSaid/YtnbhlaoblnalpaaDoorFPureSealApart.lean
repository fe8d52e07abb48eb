/-
  PLAIN LAW: SealApart.
-/
import Derived.Test.YtnbhlaoblnalpaaDoorFSealE
import Derived.Test.YtnbhlaoblnalpaaDoorFPEQSealApart
set_option linter.unusedSimpArgs false
set_option linter.unusedVariables false
namespace Go.Proofs.YtnbhlaoblnalpaaDoor.Pure
open Go.RowKit Go.Proofs.YtnbhlaoblnalpaaDoorW.PrintWords Go.Proofs.YtnbhlaoblnalpaaDoorW.PrintLast Go.Proofs.YtnbhlaoblnalpaaDoorW.PrintMore Go.Proofs.YtnbhlaoblnalpaaDoor.Open Go.Proofs.YtnbhlaoblnalpaaDoor.PE Go.Proofs.YtnbhlaoblnalpaaDoor.Crc
theorem SealApart : grapevinelaw01_SealApart.PureQ := by
  intro l a by_ h ha hby hz
  obtain ⟨b0, b1, b2, b3⟩ := by_
  have hb := IsB_wf h.2
  obtain ⟨g0, g1, g2, g3⟩ := hby
  have hbs : IsB [b0, b1, b2, b3] := IsB_cons (u8_wf g0).1 (u8_wf g0).2 (IsB_cons (u8_wf g1).1 (u8_wf g1).2 (IsB_cons (u8_wf g2).1 (u8_wf g2).2 (IsB_cons (u8_wf g3).1 (u8_wf g3).2 IsB_nil)))
  have har : 0 ≤ a ∧ a < 65536 := by
    simp only [Lit.wf, IntKind.min, IntKind.max, IntKind.signed, IntKind.bits, Bool.and_eq_true, decide_eq_true_eq] at ha
    simp at ha
    omega
  refine Ev.rounds (g := fun k => grapevinelaw01_SealApart.f k l a b0 b1 b2 b3) ?_
  unfold grapevinelaw01_SealApart.f
  by_cases hl : (l.length : Int) = 0
  · simp only [if_pos hl]
    refine Ev.bind live_ev ?_
    exact Ev.now _
  simp only [if_neg hl, if_pos (show l.length < 140737488355328 by omega)]
  have hw : wrap64 a = a := wrap_ok (by omega) (by omega)
  have htm : Int.tmod a (l.length : Int) = a % (l.length : Int) := Int.tmod_eq_emod_of_nonneg (by omega)
  have hm0 : 0 ≤ a % (l.length : Int) := Int.emod_nonneg _ (by omega)
  have hm1 : a % (l.length : Int) < (l.length : Int) := Int.emod_lt_of_pos _ (by omega)
  rw [hw, htm]
  generalize a % (l.length : Int) = fr at hm0 hm1
  have hsp : l = l.take fr.toNat ++ l.drop fr.toNat := (List.take_append_drop _ _).symm
  have hpl : (l.take fr.toNat).length = fr.toNat := by rw [List.length_take]; omega
  have ht := turn_ev (b0 := b0) (b1 := b1) (b2 := b2) (b3 := b3) hm0 [b0, b1, b2, b3] 0 (l.take fr.toNat) (l.drop fr.toNat) false (by omega) (by simp) rfl (by omega) (by rw [List.length_take, List.length_drop]; omega)
  rw [← hsp] at ht
  refine Ev.bind ht (Ev.bind live_ev ?_)
  simp only [if_true, Bool.false_or]
  obtain ⟨d, d', q, h1, h2, h3, h4, h5, h6⟩ := turn_parts [b0, b1, b2, b3] (l.drop fr.toNat) hbs (IsB_drop hb _)
  have hp := IsB_take hb fr.toNat
  have hdq : IsB (d ++ q) := h1 ▸ IsB_drop hb fr.toNat
  have hd : IsB d := fun x hx => hdq x (by simp [hx])
  have hq : IsB q := fun x hx => hdq x (by simp [hx])
  have hl' : l.length = fr.toNat + (d.length + q.length) := by
    conv => lhs; rw [hsp, h1]
    simp only [List.length_append, hpl]
  rw [h2]
  have hx' : IsB (l.take fr.toNat ++ (d' ++ q)) := IsB_append hp (IsB_append h5 hq)
  refine Ev.bind (Sum_ev hx' (by simp only [List.length_append, hpl]; omega)) (Ev.bind (Sum_ev hb h.1) ?_)
  have key : ((more 0 (nats (l.take fr.toNat ++ (d' ++ q))) : Nat) : Int) = ((more 0 (nats l) : Nat) : Int) ↔ d = d' := by
    constructor
    · intro e
      have e1 : more 0 (nats (l.take fr.toNat) ++ nats d' ++ nats q) = more 0 (nats (l.take fr.toNat) ++ nats d ++ nats q) := by
        have e2 : nats (l.take fr.toNat ++ (d' ++ q)) = nats (l.take fr.toNat) ++ nats d' ++ nats q := by simp [nats]
        have e3 : nats l = nats (l.take fr.toNat) ++ nats d ++ nats q := by
          conv => lhs; rw [hsp, h1]
          simp [nats]
        rw [← e2, ← e3]
        omega
      have e4 := reg_burst (nats_bytes hp) (nats_bytes h5) (nats_bytes hd) (nats_bytes hq) (by simp [nats, h3]) (by simp [nats]; simp at h4; omega) (inv_lt (by decide)) (more_inj_reg e1)
      exact (nats_inj h5 hd e4).symm
    · intro e
      subst e
      conv => rhs; rw [hsp, h1]
  by_cases hdd : d = d'
  · have e5 := h6.1 hdd
    rw [e5]
    have e6 := key.2 hdd
    simp only [e6, beq_self_eq_true, Bool.not_false]
    exact Ev.now _
  · have e5 : turnT [b0, b1, b2, b3] (l.drop fr.toNat) = true := by
      cases hh : turnT [b0, b1, b2, b3] (l.drop fr.toNat) with
      | true => rfl
      | false => exact absurd (h6.2 hh) hdd
    rw [e5]
    have e6 : (((more 0 (nats (l.take fr.toNat ++ (d' ++ q))) : Nat) : Int) == ((more 0 (nats l) : Nat) : Int)) = false := beq_eq_false_iff_ne.mpr (fun e => hdd (key.1 e))
    simp only [e6, Bool.not_true, beq_self_eq_true]
    exact Ev.now _
end Go.Proofs.YtnbhlaoblnalpaaDoor.Pure
