/-
  PLAIN LAW: SpanKeeps.
-/
import Derived.Test.YtpeacoppclmmlaaASpanE
import Derived.Test.YtpeacoppclmmlaaAPSQSpanKeeps
set_option linter.unusedSimpArgs false
set_option linter.unusedVariables false
namespace Go.Proofs.Ytpeacoppclmmlaa.Pure
open Go.RowKit Go.Proofs.YtpeacoppclmmlaaW.PrintWords Go.Proofs.YtpeacoppclmmlaaW.PrintLast Go.Proofs.YtpeacoppclmmlaaW.PrintMore Go.Proofs.Ytpeacoppclmmlaa.Open Go.Proofs.Ytpeacoppclmmlaa.PS
theorem SpanKeeps : grapevinelaw08_SpanKeeps.PureQ := by
  intro a r ha hr
  have la := len_of ha
  refine Ev.rounds (g := fun k => grapevinelaw08_SpanKeeps.f k a r.f0 r.f1) ?_
  refine Ev.congr (f := fun k => if decide ((a.length : Int) > 400) = true then _ else _) (fun k => by unfold grapevinelaw08_SpanKeeps.f; rw [many_eq, Option.bind_some]) ?_
  by_cases ca : (a.length : Int) > 400
  · simp only [if_pos (decide_eq_true ca)]
    exact Ev.bind live_ev (Ev.now _)
  simp only [if_neg (show ¬ decide ((a.length : Int) > 400) = true by simp [ca]), Option.bind_some, List.nil_append, List.length_nil, Nat.zero_add, if_pos (show a.length < 5864062014805 by omega)]
  obtain ⟨p, p1, p2⟩ := Keep_ev a r.f0 r.f1 la
  obtain ⟨q, q1, q2⟩ := KeepRef_ev a r.f0 r.f1 la
  obtain rfl := Rng_eq p2 q2
  obtain ⟨u, u1, u2⟩ := Forget_ev a r.f0 r.f1 la
  obtain ⟨v, v1, v2⟩ := ForgetRef_ev a r.f0 r.f1 la
  obtain rfl := Rng_eq u2 v2
  have lp := Rng_length p2
  have lu := Rng_length u2
  refine Ev.bind p1 (Ev.bind q1 (Ev.bind u1 (Ev.bind v1 (Ev.bind live_ev ?_))))
  simp only [if_true]
  refine Ev.bind (Same_self p.1 (by omega)) ?_
  simp only [if_true]
  refine Ev.bind (Same_self u.1 (by omega)) ?_
  simp only [if_true]
  exact Ev.bind (Same_self a la) (Ev.now _)
end Go.Proofs.Ytpeacoppclmmlaa.Pure
