/-
  PLAIN LAW: ParcelBack.
-/
import Derived.Test.YtpeacoppclmmlaaPB2ParAll
import Derived.Test.YtpeacoppclmmlaaPB2PPQParcelBack
set_option linter.unusedSimpArgs false
set_option linter.unusedVariables false
namespace Go.Proofs.Ytpeacoppclmmlaa.Pure
open Go.RowKit Go.Proofs.YtpeacoppclmmlaaW.PrintWords Go.Proofs.YtpeacoppclmmlaaW.PrintLast Go.Proofs.YtpeacoppclmmlaaW.PrintMore Go.Proofs.Ytpeacoppclmmlaa.Open Go.Proofs.Ytpeacoppclmmlaa.PP
theorem back_l {kd pub sub n fr to_ : Int} {sp : List Sp} {it : List It} (hk : kd = 1 → sp.length ≤ 32 ∧ it.length ≤ 8 ∧ ∀ x ∈ it, x.f2.length ≤ 400) : ∀ (m i : Nat) (b : List Int), i + m = b.length → b.length ≤ 4096 →
    Ev (fun k => grapevinelaw13_ParcelBack.l0 k b 0 (i : Int) kd pub sub n fr to_ sp it kd (if 1 ≤ kd ∧ kd ≤ 6 then pub else 0) (if 3 ≤ kd ∧ kd ≤ 6 then sub else 0) (if 3 ≤ kd ∧ kd ≤ 6 then n else 0) (if kd = 1 ∨ kd = 2 ∨ kd = 3 ∨ kd = 5 then fr else 0) (if kd = 1 ∨ kd = 2 then to_ else 0) (if kd = 1 then sp else []) (if kd = 1 then it else [])) true := by
  intro m
  induction m with
  | zero =>
    intro i b h hl
    apply Oct.Ev.succ
    simp only [grapevinelaw13_ParcelBack.l0, if_neg (show ¬ ((i : Int) < (b.length : Int)) by omega)]
    refine Ev.bind live_ev ?_
    simp only [if_true]
    refine Ev.bind (PlainK_ev (fun h1 => ⟨by have := hk h1; omega, by have := hk h1; omega, fun x hx => by have := (hk h1).2.2 x hx; omega⟩)) ?_
    unfold plainP
    refine Ev.bind (Same_self _ _ _ _ _ _ _ _ ?_ ?_) ?_
    · by_cases h1 : kd = 1
      · rw [if_pos h1]; have := hk h1; omega
      · rw [if_neg h1]; exact Nat.zero_le _
    · by_cases h1 : kd = 1
      · rw [if_pos h1]; have := hk h1; omega
      · rw [if_neg h1]; exact Nat.zero_le _
    simp only [if_true, decide_eq_true (show (b.length : Int) ≤ 4096 by omega)]
    exact Ev.now _
  | succ m ih =>
    intro i b h hl
    apply Oct.Ev.succ
    simp only [grapevinelaw13_ParcelBack.l0, if_pos (show (i : Int) < (b.length : Int) by omega), if_pos (show (0 : Int) ≤ (i : Int) by omega), cast_succ_wrap (n := 5000) (show i < 5000 by omega) (by decide)]
    exact ih (i + 1) _ (by rw [List.length_set]; omega) (by rw [List.length_set]; omega)
theorem ParcelBack : grapevinelaw13_ParcelBack.PureQ := by
  intro x hx
  refine Ev.rounds (g := fun k => grapevinelaw13_ParcelBack.f k x.f0 x.f1 x.f2 x.f3 x.f4 x.f5 x.f6 x.f7) ?_
  refine Ev.bind (PPut_ev _ _ _ _ _ _ _ _) ?_
  unfold putP
  by_cases hc : chk x.f0 x.f1 x.f2 x.f3 x.f4 x.f5 x.f6 x.f7 = 0
  · have hp : okP x.f7 := fun y hy => by
      have h1 := hx.2.2.2.2.2.2.2.2 y hy
      have h2 : (Lit.int .u32 y.f1).wf = true := h1.2.1
      simp only [Lit.wf, IntKind.min, IntKind.max, IntKind.signed, IntKind.bits, Bool.and_eq_true, decide_eq_true_eq] at h2
      simp at h2
      exact ⟨by omega, by omega, Oct.bytes_of h1.2.2.2⟩
    simp only [if_pos hc, if_true]
    have hb := putBb hc hp
    have hl := putB_len hc hp
    refine Ev.bind (Ev.lift (PTake_ev hb (by omega)) (take_putB hc hp)) ?_
    unfold plainR
    exact back_l (fun h1 => by
      obtain ⟨_, _, _, h4⟩ := chk_zero hc
      have h5 := h4 h1
      exact ⟨h5.1, h5.2.1, itemsE_small h5.2.2.2.2⟩) _ 0 _ (Nat.zero_add _) hl
  · simp only [if_neg hc]
    refine Ev.bind live_ev ?_
    simp only [if_true]
    refine Ev.bind (Check_ev _ _ _ _ _ _ _ _) ?_
    simp only [if_true]
    exact Ev.now _
end Go.Proofs.Ytpeacoppclmmlaa.Pure
