/-
  PLAIN LAW: ParcelOnce.
-/
import Derived.Test.YtpeacoppclmmlaaPOParAll
import Derived.Test.YtpeacoppclmmlaaPOPPQParcelOnce
set_option linter.unusedSimpArgs false
set_option linter.unusedVariables false
namespace Go.Proofs.Ytpeacoppclmmlaa.Pure
open Go.RowKit Go.Proofs.YtpeacoppclmmlaaW.PrintWords Go.Proofs.YtpeacoppclmmlaaW.PrintLast Go.Proofs.YtpeacoppclmmlaaW.PrintMore Go.Proofs.Ytpeacoppclmmlaa.Open Go.Proofs.Ytpeacoppclmmlaa.PP
theorem takeP_err {b : List Int} (h : (takeP b).2.2.2.2.2.2.2.2 ≠ 0) : takeP b = zerosE (takeP b).2.2.2.2.2.2.2.2 := by
  unfold takeP at h ⊢
  split at h
  · rename_i c; simp only [if_pos c]; rfl
  rename_i c; simp only [if_neg c] at h ⊢
  split at h
  · rename_i c; simp only [if_pos c]; rfl
  rename_i c; simp only [if_neg c] at h ⊢
  split at h
  · rename_i c
    simp only [if_pos c] at h ⊢
    unfold restS at h ⊢
    split at h
    · rename_i c
      simp only [if_pos c] at h ⊢
      unfold finS at h ⊢
      split at h
      · rename_i c
        simp only [if_pos c] at h ⊢
        split at h
        · exact absurd rfl h
        · rename_i c; simp only [if_neg c]; rfl
      · rename_i c; simp only [if_neg c]; rfl
    · rename_i c; simp only [if_neg c]; rfl
  · rename_i c; simp only [if_neg c]; rfl
theorem ParcelOnce : grapevinelaw13_ParcelOnce.PureQ := by
  intro b a hx ha hs
  have hb := Oct.bytes_of hx.2
  have hlen : b.length ≤ 9223372036854775000 := by omega
  refine Ev.rounds (g := fun k => grapevinelaw13_ParcelOnce.f k b a) ?_
  refine Ev.bind (PTake_ev hb hlen) ?_
  by_cases h0 : (takeP b).2.2.2.2.2.2.2.2 = 0
  · simp only [if_pos h0]
    have hcut := fun {m : Nat} => takeP_cut hb h0 (m := m)
    obtain ⟨e1, e2⟩ := putP_take hb (kd := (takeP b).1) (p1 := (takeP b).2.1) (p2 := (takeP b).2.2.1) (p3 := (takeP b).2.2.2.1) (p4 := (takeP b).2.2.2.2.1) (p5 := (takeP b).2.2.2.2.2.1) (sp := (takeP b).2.2.2.2.2.2.1) (it := (takeP b).2.2.2.2.2.2.2.1) (by rw [← h0])
    refine Ev.bind (Ev.lift (PPut_ev _ _ _ _ _ _ _ _) e1) ?_
    have hw : 0 ≤ a ∧ a < 65536 := by
      simp only [Lit.wf, IntKind.min, IntKind.max, IntKind.signed, IntKind.bits, Bool.and_eq_true, decide_eq_true_eq] at ha
      simp at ha
      omega
    have ew : wrap64 a = a := wrap_ok (by omega) (by omega)
    have et : Int.tmod a (b.length : Int) = a % (b.length : Int) := Int.tmod_eq_emod_of_nonneg hw.1
    have r1 := Int.emod_nonneg a (show (b.length : Int) ≠ 0 by omega)
    have r2 := Int.emod_lt_of_pos a (show 0 < (b.length : Int) by omega)
    simp only [if_true, ew, et, if_neg (show ¬ (b.length : Int) = 0 by omega), if_pos (show 0 ≤ a % (b.length : Int) ∧ a % (b.length : Int) ≤ (b.length : Int) from ⟨r1, by omega⟩)]
    have hb' : Oct.Bytes (b.take (a % (b.length : Int)).toNat) := fun z hz => hb z (List.mem_of_mem_take hz)
    refine Ev.bind (PTake_ev hb' (by rw [List.length_take]; omega)) (Ev.bind live_ev ?_)
    simp only [if_true, if_pos (hcut (show (a % (b.length : Int)).toNat < b.length by omega))]
    exact Ev.now _
  · simp only [if_neg h0]
    refine Ev.bind live_ev ?_
    simp only [if_true]
    have e := takeP_err h0
    generalize (takeP b).2.2.2.2.2.2.2.2 = e9 at e
    rw [e]
    refine Ev.bind (Same_self 0 0 0 0 0 0 [] [] (Nat.zero_le _) (Nat.zero_le _)) ?_
    simp only [if_true]
    exact Ev.now _
end Go.Proofs.Ytpeacoppclmmlaa.Pure
