/-
  PLAIN LAW: SpanOnce.
-/
import Derived.Test.YtpeacoppclmmlaaDSpanU
import Derived.Test.YtpeacoppclmmlaaDPSx16
set_option linter.unusedSimpArgs false
set_option linter.unusedVariables false
namespace Go.Proofs.Ytpeacoppclmmlaa.Pure
open Go.Proofs.Ytpeacoppclmmlaa.PS.Oct (uint uintN)
open Go.RowKit Go.Proofs.YtpeacoppclmmlaaW.PrintWords Go.Proofs.YtpeacoppclmmlaaW.PrintLast Go.Proofs.YtpeacoppclmmlaaW.PrintMore Go.Proofs.Ytpeacoppclmmlaa.Open Go.Proofs.Ytpeacoppclmmlaa.PS
theorem takeS_err : ∀ (m : Nat) (b : List Int) (pos : Int) (out : List Sp) (pe pi : Int), (takeS m b pos out pe pi).2.2 ≠ 0 → (takeS m b pos out pe pi).1 = [] ∧ (takeS m b pos out pe pi).2.1 = 0 := by
  intro m
  induction m with
  | zero => intro b pos out pe pi h; exact absurd rfl h
  | succ m ih =>
    intro b pos out pe pi
    simp only [takeS]
    repeat' split
    all_goals first
      | exact fun _ => ⟨rfl, rfl⟩
      | exact ih _ _ _ _ _
theorem take_err (b : List Int) (t : Int) : (takeR b t).2.2 ≠ 0 → (takeR b t).1 = [] ∧ (takeR b t).2.1 = 0 := by
  unfold takeR
  repeat' split
  all_goals first
    | exact fun _ => ⟨rfl, rfl⟩
    | exact takeS_err _ _ _ _ _ _
theorem SpanOnce : grapevinelaw08_SpanOnce.Pure := by
  intro b hm hs hw
  have hb := Oct.bytes_of hw
  refine Ev.rounds (g := fun k => grapevinelaw08_SpanOnce.f k b) ?_
  obtain ⟨h1, _⟩ := Take_ev hb (by omega) 0
  have hl := takeR_length hb 0
  refine Ev.bind h1 ?_
  have hc := fun l q => put_take hb (l := l) (q := q)
  have he := take_err b 0
  generalize takeR b 0 = a at hl hc he
  obtain ⟨l, q, e⟩ := a
  simp only at hl he ⊢
  by_cases c : e = 0
  · subst c
    obtain ⟨k1, k2, k3, k4, k5⟩ := hc l q rfl
    simp only [if_true]
    refine Ev.bind (Put_ev l (by omega)).1 ?_
    rw [k4]
    refine Ev.bind live_ev ?_
    simp only [if_true]
    refine Ev.bind (Right_ev l (by omega)) ?_
    simp only [if_pos k1, if_pos k5.symm, if_pos k2, if_pos k3, beq_self_eq_true]
    exact Ev.now _
  · simp only [if_neg c]
    obtain ⟨rfl, rfl⟩ := he c
    refine Ev.bind live_ev ?_
    simp only [if_true, List.length_nil]
    exact Ev.now _
end Go.Proofs.Ytpeacoppclmmlaa.Pure
