/-
  PLAIN LAW: SpanTicks.
-/
import Derived.Test.YtpeacoppclmmlaaASpanE
import Derived.Test.YtpeacoppclmmlaaAPSQSpanTicks
set_option linter.unusedSimpArgs false
set_option linter.unusedVariables false
namespace Go.Proofs.Ytpeacoppclmmlaa.Pure
open Go.RowKit Go.Proofs.YtpeacoppclmmlaaW.PrintWords Go.Proofs.YtpeacoppclmmlaaW.PrintLast Go.Proofs.YtpeacoppclmmlaaW.PrintMore Go.Proofs.Ytpeacoppclmmlaa.Open Go.Proofs.Ytpeacoppclmmlaa.PS
theorem SpanTicks : grapevinelaw08_SpanTicks.PureQ := by
  intro a b t ha hb ht
  have la := len_of ha
  have lb := len_of hb
  refine Ev.rounds (g := fun k => grapevinelaw08_SpanTicks.f k a b t) ?_
  obtain ⟨r, r1, r2⟩ := Join_ev a b la lb
  refine Ev.bind r1 ?_
  rcases r2 with ⟨h1, h2, h3, h4⟩ | ⟨h1, h2⟩
  · have lr : r.1.length ≤ 9223372036854775807 := by have := length_right h4.1 (Int.le_refl 0); omega
    simp only [if_pos h3]
    refine Ev.bind live_ev ?_
    simp only [if_true]
    refine Ev.bind (Right_ev r.1 lr) ?_
    simp only [if_pos h4.1]
    refine Ev.bind (SAt_ev r.1 t lr) (Ev.bind (SAt_ev a t la) (Ev.bind (SAt_ev b t lb) ?_))
    have e : atS r.1 t = mx (atS a t) (atS b t) := by
      by_cases c1 : t < 1
      · rw [at_le h4.1 (by omega), at_le h1 (by omega), at_le h2 (by omega)]; rfl
      · by_cases c2 : t ≤ 1099511627776
        · exact h4.2 t (by omega) c2
        · rw [at_top h4.1 (by omega), at_top h1 (by omega), at_top h2 (by omega)]; rfl
    rw [e, beq_self_eq_true]
    exact Ev.now _
  · subst h2
    simp only [if_neg (show ¬ (2 : Int) = 0 by decide)]
    refine Ev.bind live_ev ?_
    simp only [if_true, List.length_nil, if_pos (show ((0 : Nat) : Int) = 0 from rfl)]
    refine Ev.bind (Right_ev a la) ?_
    by_cases ra : rightB 0 0 a = true
    · simp only [if_pos ra]
      refine Ev.bind (Right_ev b lb) ?_
      rw [show (!rightB 0 0 b) = true from by cases hh : rightB 0 0 b with | true => exact absurd ⟨ra, hh⟩ h1 | false => rfl]
      exact Ev.now _
    · simp only [if_neg ra]
      exact Ev.now _
end Go.Proofs.Ytpeacoppclmmlaa.Pure
