/-
  PLAIN LAW: SpanJoins.
-/
import Derived.Test.YtpeacoppclmmlaaASpanE
import Derived.Test.YtpeacoppclmmlaaAPSQSpanJoins
set_option linter.unusedSimpArgs false
set_option linter.unusedVariables false
namespace Go.Proofs.Ytpeacoppclmmlaa.Pure
open Go.RowKit Go.Proofs.YtpeacoppclmmlaaW.PrintWords Go.Proofs.YtpeacoppclmmlaaW.PrintLast Go.Proofs.YtpeacoppclmmlaaW.PrintMore Go.Proofs.Ytpeacoppclmmlaa.Open Go.Proofs.Ytpeacoppclmmlaa.PS
theorem SpanJoins : grapevinelaw08_SpanJoins.PureQ := by
  intro a b ha hb
  have la := len_of ha
  have lb := len_of hb
  refine Ev.rounds (g := fun k => grapevinelaw08_SpanJoins.f k a b) ?_
  have big : Ev (fun k => grapevinelaw08_SpanJoins.j0 k a b true) true := by
    apply Ev.succ
    simp only [grapevinelaw08_SpanJoins.j0, if_true]
    exact Ev.bind live_ev (Ev.now _)
  by_cases ca : (a.length : Int) > 400
  · exact Ev.congr (fun k => by unfold grapevinelaw08_SpanJoins.f; rw [many_eq, Option.bind_some, if_pos (decide_eq_true ca)]) big
  by_cases cb : (b.length : Int) > 400
  · exact Ev.congr (fun k => by unfold grapevinelaw08_SpanJoins.f; rw [many_eq, Option.bind_some, if_neg (by simp [ca]), many_eq, Option.bind_some, decide_eq_true cb]) big
  refine Ev.congr (f := fun k => grapevinelaw08_SpanJoins.j0 k a b false) (fun k => by unfold grapevinelaw08_SpanJoins.f; rw [many_eq, Option.bind_some, if_neg (by simp [ca]), many_eq, Option.bind_some, decide_eq_false cb]) ?_
  obtain ⟨r, r1, r2⟩ := Join_ev a b la lb
  obtain ⟨q, q1, q2⟩ := JoinRef_ev a b la lb
  obtain rfl := Joined_eq r2 q2
  have lr := Joined_length r2
  apply Ev.succ
  simp only [grapevinelaw08_SpanJoins.j0, Option.bind_some, List.nil_append, List.length_nil, Nat.zero_add, if_pos (show a.length < 5864062014805 by omega), if_pos (show b.length < 5864062014805 by omega), if_neg (show ¬ false = true by simp)]
  refine Ev.bind r1 (Ev.bind q1 (Ev.bind live_ev ?_))
  simp only [if_true]
  refine Ev.bind (Same_self r.1 (by omega)) ?_
  simp only [if_true]
  refine Ev.bind (Same_self a la) ?_
  simp only [if_true]
  exact Ev.bind (Same_self b lb) (Ev.now _)
end Go.Proofs.Ytpeacoppclmmlaa.Pure
