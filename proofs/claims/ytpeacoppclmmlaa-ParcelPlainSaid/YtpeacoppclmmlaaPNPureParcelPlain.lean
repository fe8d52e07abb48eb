/-
  PLAIN LAW: ParcelPlain.
-/
import Derived.Test.YtpeacoppclmmlaaPNParAll
import Derived.Test.YtpeacoppclmmlaaPNParI
import Derived.Test.YtpeacoppclmmlaaPNPPQParcelPlain
set_option linter.unusedSimpArgs false
set_option linter.unusedVariables false
namespace Go.Proofs.Ytpeacoppclmmlaa.Pure
open Go.RowKit Go.Proofs.YtpeacoppclmmlaaW.PrintWords Go.Proofs.YtpeacoppclmmlaaW.PrintLast Go.Proofs.YtpeacoppclmmlaaW.PrintMore Go.Proofs.Ytpeacoppclmmlaa.Open Go.Proofs.Ytpeacoppclmmlaa.PP
theorem plain_twice (kd pub sub n fr to_ : Int) (sp : List Sp) (it : List It) : plainP kd (if 1 ≤ kd ∧ kd ≤ 6 then pub else 0) (if 3 ≤ kd ∧ kd ≤ 6 then sub else 0) (if 3 ≤ kd ∧ kd ≤ 6 then n else 0) (if kd = 1 ∨ kd = 2 ∨ kd = 3 ∨ kd = 5 then fr else 0) (if kd = 1 ∨ kd = 2 then to_ else 0) (if kd = 1 then sp else []) (if kd = 1 then it else []) = plainP kd pub sub n fr to_ sp it := by
  have q : ∀ {α : Type} (p : Prop) [Decidable p] (a b : α), (if p then (if p then a else b) else b) = if p then a else b := fun p _ a b => by
    by_cases h : p
    · rw [if_pos h, if_pos h]
    · rw [if_neg h, if_neg h]
  unfold plainP
  simp only [q]
theorem ParcelPlain : grapevinelaw13_ParcelPlain.PureQ := by
  intro x hx
  refine Ev.rounds (g := fun k => grapevinelaw13_ParcelPlain.f k x.f0 x.f1 x.f2 x.f3 x.f4 x.f5 x.f6 x.f7) ?_
  have s1 := hx.2.2.2.2.2.2.1.1.2
  have s2 := hx.2.2.2.2.2.2.2.1.2
  have s3 := fun z hz => (hx.2.2.2.2.2.2.2.2 z hz).2.2.1.2
  have hs : x.f6.length < 5864062014805 ∧ x.f7.length < 3518437208883 ∧ ∀ z ∈ x.f7, z.f2.length < 140737488355328 := ⟨by omega, by omega, fun z hz => by have := s3 z hz; omega⟩
  have hsp : (if x.f0 = 1 then x.f6 else []).length ≤ 9223372036854775807 := by
    by_cases h : x.f0 = 1
    · rw [if_pos h]; omega
    · rw [if_neg h]; exact Nat.zero_le _
  have hit : (if x.f0 = 1 then x.f7 else []).length ≤ 9223372036854775807 := by
    by_cases h : x.f0 = 1
    · rw [if_pos h]; omega
    · rw [if_neg h]; exact Nat.zero_le _
  have e1 := PPlain_eq (kd := x.f0) (pub := x.f1) (sub := x.f2) (n := x.f3) (fr := x.f4) (to_ := x.f5) (sp := x.f6) (it := x.f7) (fun _ => hs)
  have e2 := PPlain_eq (kd := x.f0) (pub := if 1 ≤ x.f0 ∧ x.f0 ≤ 6 then x.f1 else 0) (sub := if 3 ≤ x.f0 ∧ x.f0 ≤ 6 then x.f2 else 0) (n := if 3 ≤ x.f0 ∧ x.f0 ≤ 6 then x.f3 else 0) (fr := if x.f0 = 1 ∨ x.f0 = 2 ∨ x.f0 = 3 ∨ x.f0 = 5 then x.f4 else 0) (to_ := if x.f0 = 1 ∨ x.f0 = 2 then x.f5 else 0) (sp := if x.f0 = 1 then x.f6 else []) (it := if x.f0 = 1 then x.f7 else []) (fun h => by rw [if_pos h, if_pos h]; exact hs)
  rw [plain_twice] at e2
  unfold plainP at e1 e2
  unfold grapevinelaw13_ParcelPlain.f
  simp only [e1, Option.bind_some, e2]
  refine Ev.bind (Plain_ev hs.1 hs.2.1 hs.2.2) ?_
  unfold plainP
  dsimp only
  refine Ev.bind (Same_self _ _ _ _ _ _ _ _ hsp hit) (Ev.bind (Same_self _ _ _ _ _ _ _ _ hsp hit) (Ev.bind live_ev (Ev.bind (Same_self _ _ _ _ _ _ _ _ hsp hit) (Ev.bind (Check_ev _ _ _ _ _ _ _ _) (Ev.bind (Check_ev _ _ _ _ _ _ _ _) ?_)))))
  rw [chk_plain]
  exact Ev.congr (fun k => if_pos ⟨rfl, rfl, rfl, rfl, fun h => h⟩) (Ev.now _)
end Go.Proofs.Ytpeacoppclmmlaa.Pure
