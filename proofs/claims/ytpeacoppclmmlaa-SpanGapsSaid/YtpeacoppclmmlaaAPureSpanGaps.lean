/-
  PLAIN LAW: SpanGaps.
-/
import Derived.Test.YtpeacoppclmmlaaASpanE
import Derived.Test.YtpeacoppclmmlaaAPSQSpanGaps
set_option linter.unusedSimpArgs false
set_option linter.unusedVariables false
namespace Go.Proofs.Ytpeacoppclmmlaa.Pure
open Go.RowKit Go.Proofs.YtpeacoppclmmlaaW.PrintWords Go.Proofs.YtpeacoppclmmlaaW.PrintLast Go.Proofs.YtpeacoppclmmlaaW.PrintMore Go.Proofs.Ytpeacoppclmmlaa.Open Go.Proofs.Ytpeacoppclmmlaa.PS
theorem SpanGaps : grapevinelaw08_SpanGaps.PureQ := by
  intro a r ha hr
  have la := len_of ha
  refine Ev.rounds (g := fun k => grapevinelaw08_SpanGaps.f k a r.f0 r.f1) ?_
  refine Ev.congr (f := fun k => if decide ((a.length : Int) > 400) = true then _ else _) (fun k => by unfold grapevinelaw08_SpanGaps.f; rw [many_eq, Option.bind_some]) ?_
  by_cases ca : (a.length : Int) > 400
  · simp only [if_pos (decide_eq_true ca)]
    exact Ev.bind live_ev (Ev.now _)
  simp only [if_neg (show ¬ decide ((a.length : Int) > 400) = true by simp [ca])]
  obtain ⟨p, p1, p2⟩ := Gaps_ev a r.f0 r.f1 la
  obtain ⟨q, q1, q2⟩ := GapsRef_ev a r.f0 r.f1 la
  obtain rfl := Rng_eq p1 q1
  have lp := Rng_length p1
  refine Ev.bind p2 (Ev.bind q2 (Ev.bind live_ev ?_))
  simp only [if_true]
  refine Ev.bind (Same_self (p.1.map zz) (by rw [List.length_map]; omega)) ?_
  simp only [if_true, beq_self_eq_true]
  exact Ev.now _
end Go.Proofs.Ytpeacoppclmmlaa.Pure
