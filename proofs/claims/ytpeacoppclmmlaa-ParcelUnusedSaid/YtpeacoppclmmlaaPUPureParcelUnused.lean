/-
  PLAIN LAW: ParcelUnused.
-/
import Derived.Test.YtpeacoppclmmlaaPUParAll
import Derived.Test.YtpeacoppclmmlaaPUPPQParcelUnused
set_option linter.unusedSimpArgs false
set_option linter.unusedVariables false
namespace Go.Proofs.Ytpeacoppclmmlaa.Pure
open Go.RowKit Go.Proofs.YtpeacoppclmmlaaW.PrintWords Go.Proofs.YtpeacoppclmmlaaW.PrintLast Go.Proofs.YtpeacoppclmmlaaW.PrintMore Go.Proofs.Ytpeacoppclmmlaa.Open Go.Proofs.Ytpeacoppclmmlaa.PP
theorem chk_same (kd pub sub n fr to_ b2 b3 b4 b5 : Int) (sp m6 : List Sp) (it m7 : List It) :
    chk kd pub (if kd = 1 ∨ kd = 2 then b2 else sub) (if kd = 1 ∨ kd = 2 then b3 else n) (if kd = 4 ∨ kd = 6 then b4 else fr) (if kd = 1 ∨ kd = 2 then to_ else b5) (if kd = 1 then sp else m6) (if kd = 1 then it else m7) = chk kd pub sub n fr to_ sp it := by
  by_cases h : kd < 1 ∨ kd > 6
  · unfold chk; rw [if_pos h, if_pos h]
  rcases (show kd = 1 ∨ kd = 2 ∨ kd = 3 ∨ kd = 4 ∨ kd = 5 ∨ kd = 6 by omega) with rfl | rfl | rfl | rfl | rfl | rfl <;> simp [chk, numsOK]
theorem put_same (kd pub sub n fr to_ b2 b3 b4 b5 : Int) (sp m6 : List Sp) (it m7 : List It) :
    putP kd pub (if kd = 1 ∨ kd = 2 then b2 else sub) (if kd = 1 ∨ kd = 2 then b3 else n) (if kd = 4 ∨ kd = 6 then b4 else fr) (if kd = 1 ∨ kd = 2 then to_ else b5) (if kd = 1 then sp else m6) (if kd = 1 then it else m7) = putP kd pub sub n fr to_ sp it := by
  unfold putP
  rw [chk_same]
  by_cases h : chk kd pub sub n fr to_ sp it = 0
  · rw [if_pos h, if_pos h]
    congr 1
    obtain ⟨h1, h2, _⟩ := chk_zero h
    clear h
    rcases (show kd = 1 ∨ kd = 2 ∨ kd = 3 ∨ kd = 4 ∨ kd = 5 ∨ kd = 6 by omega) with rfl | rfl | rfl | rfl | rfl | rfl <;> simp [putB, tailB]
  · rw [if_neg h, if_neg h]
theorem ParcelUnused : grapevinelaw13_ParcelUnused.PureQ := by
  intro x y hx hy
  have s1 := hx.2.2.2.2.2.2.1.1.2
  have s2 := hx.2.2.2.2.2.2.2.1.2
  have s3 := fun z hz => (hx.2.2.2.2.2.2.2.2 z hz).2.2.1.2
  refine Ev.rounds (g := fun k => grapevinelaw13_ParcelUnused.f k x.f0 x.f1 x.f2 x.f3 x.f4 x.f5 x.f6 x.f7 y.f0 y.f1 y.f2 y.f3 y.f4 y.f5 y.f6 y.f7) ?_
  refine Ev.bind (Plain_ev (by omega) (by omega) (fun z hz => by have := s3 z hz; omega)) ?_
  unfold plainP
  refine Ev.bind (PPut_ev _ _ _ _ _ _ _ _) (Ev.bind (PPut_ev _ _ _ _ _ _ _ _) (Ev.bind live_ev ?_))
  rw [put_same]
  refine Ev.congr (fun k => (if_pos rfl).trans ((if_pos rfl).trans (if_pos rfl))) ?_
  refine Ev.bind (Check_ev _ _ _ _ _ _ _ _) (Ev.bind (Check_ev _ _ _ _ _ _ _ _) ?_)
  rw [chk_same]
  exact Ev.congr (fun k => if_pos rfl) (Ev.now _)
end Go.Proofs.Ytpeacoppclmmlaa.Pure
