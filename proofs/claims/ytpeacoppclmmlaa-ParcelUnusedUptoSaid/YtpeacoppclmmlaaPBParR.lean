/-
  PLAIN LAW: the reference's Plain: what a parcel uses; sizes.
-/
import Derived.Test.YtpeacoppclmmlaaPBParC
import Derived.Test.YtpeacoppclmmlaaPBPPx13
import Derived.Test.YtpeacoppclmmlaaPBPPOpens
set_option linter.unusedSimpArgs false
set_option linter.unusedVariables false
namespace Go.Proofs.Ytpeacoppclmmlaa.PP
open Go.RowKit Go.Proofs.YtpeacoppclmmlaaW.PrintWords Go.Proofs.YtpeacoppclmmlaaW.PrintMore Go.Proofs.Ytpeacoppclmmlaa.Open

def plainP (kd pub sub n fr to_ : Int) (sp : List Sp) (it : List It) : Int × Int × Int × Int × Int × Int × List Sp × List It :=
  (kd, if 1 ≤ kd ∧ kd ≤ 6 then pub else 0, if 3 ≤ kd ∧ kd ≤ 6 then sub else 0, if 3 ≤ kd ∧ kd ≤ 6 then n else 0, if kd = 1 ∨ kd = 2 ∨ kd = 3 ∨ kd = 5 then fr else 0, if kd = 1 ∨ kd = 2 then to_ else 0, if kd = 1 then sp else [], if kd = 1 then it else [])
section
variable {kd pub sub n fr to_ : Int} {sp : List Sp} {it : List It}
theorem PlainItems_ev (hi : it.length < 3518437208883) (hb : ∀ x ∈ it, x.f2.length < 140737488355328) (o0 o1 o2 o3 o4 o5 : Int) (os : List Sp) : ∀ (m i : Nat) (acc : List It), i + m = it.length → acc = it.take i →
    Ev (fun k => grapevineref13_Plain.l0 k (i : Int) kd pub sub n fr to_ sp it o0 o1 o2 o3 o4 o5 os acc) (o0, o1, o2, o3, o4, o5, os, it) := by
  intro m
  induction m with
  | zero =>
    intro i acc h ha
    refine Ev.done (fun k => ?_)
    simp only [grapevineref13_Plain.l0]
    rw [if_neg (by omega), ha, List.take_of_length_le (by omega)]
  | succ m ih =>
    intro i acc h ha
    have hlt : i < it.length := by omega
    have hm : rd_T62 it (i : Int) ∈ it := by rw [rdi_at it i hlt]; exact List.getElem_mem hlt
    have e : it.take (i + 1) = acc ++ [rd_T62 it (i : Int)] := by rw [ha, rdi_at it i hlt, List.take_succ_eq_append_getElem hlt]
    generalize hx : rd_T62 it (i : Int) = x at hm e
    have hxb := hb x hm
    have hal : acc.length ≤ i := by rw [ha, List.length_take]; omega
    refine Ev.step (f := fun k => grapevineref13_Plain.l0 k ((i + 1 : Nat) : Int) kd pub sub n fr to_ sp it o0 o1 o2 o3 o4 o5 os (acc ++ [x])) (fun k => ?_) (ih (i + 1) _ (by omega) e.symm)
    simp only [grapevineref13_Plain.l0, hx, Option.bind_some, List.nil_append, List.length_nil, Nat.zero_add]
    rw [if_pos (by omega), if_pos (by omega), if_pos hxb, if_pos (by omega), cast_succ_wrap hlt (by omega)]
theorem Plain_ev (hs : sp.length < 5864062014805) (hi : it.length < 3518437208883) (hb : ∀ x ∈ it, x.f2.length < 140737488355328) :
    Ev (fun k => grapevineref13_Plain.f k kd pub sub n fr to_ sp it) (plainP kd pub sub n fr to_ sp it) := by
  have J4 : ∀ o0 o1 o2 o3 o4 o5, Ev (fun k => grapevineref13_Plain.j4 k kd pub sub n fr to_ sp it o0 o1 o2 o3 o4 o5) (o0, o1, o2, o3, o4, o5, if kd = 1 then sp else [], if kd = 1 then it else []) := fun o0 o1 o2 o3 o4 o5 => by
    by_cases h : kd = 1
    · rw [if_pos h, if_pos h]
      refine Ev.step (f := fun k => grapevineref13_Plain.l0 k ((0 : Nat) : Int) kd pub sub n fr to_ sp it o0 o1 o2 o3 o4 o5 sp []) (fun k => ?_) (PlainItems_ev hi hb o0 o1 o2 o3 o4 o5 sp it.length 0 [] (by omega) rfl)
      simp only [grapevineref13_Plain.j4]
      rw [if_pos h, if_pos (by simpa using hs)]
      rfl
    · rw [if_neg h, if_neg h]
      refine Ev.done (fun k => ?_)
      simp only [grapevineref13_Plain.j4]
      rw [if_neg h]
  have J3 : ∀ o0 o1 o2 o3 o4, Ev (fun k => grapevineref13_Plain.j3 k kd pub sub n fr to_ sp it o0 o1 o2 o3 o4 0) (o0, o1, o2, o3, o4, if kd = 1 ∨ kd = 2 then to_ else 0, if kd = 1 then sp else [], if kd = 1 then it else []) := fun o0 o1 o2 o3 o4 => by
    by_cases h : kd = 1 ∨ kd = 2
    · rw [if_pos h]
      refine Ev.step (fun k => ?_) (J4 o0 o1 o2 o3 o4 to_)
      simp only [grapevineref13_Plain.j3, ranged_eq, Option.bind_some, decide_eq_true h, if_true]
    · rw [if_neg h]
      refine Ev.step (fun k => ?_) (J4 o0 o1 o2 o3 o4 0)
      simp only [grapevineref13_Plain.j3, ranged_eq, Option.bind_some, decide_eq_false h, Bool.false_eq_true, if_false]
  have J2 : ∀ o0 o1 o2 o3, Ev (fun k => grapevineref13_Plain.j2 k kd pub sub n fr to_ sp it o0 o1 o2 o3 0 0) (o0, o1, o2, o3, if kd = 1 ∨ kd = 2 ∨ kd = 3 ∨ kd = 5 then fr else 0, if kd = 1 ∨ kd = 2 then to_ else 0, if kd = 1 then sp else [], if kd = 1 then it else []) := fun o0 o1 o2 o3 => by
    by_cases h : kd = 1 ∨ kd = 2 ∨ kd = 3 ∨ kd = 5
    · rw [if_pos h]
      refine Ev.step (fun k => ?_) (J3 o0 o1 o2 o3 fr)
      simp only [grapevineref13_Plain.j2, from_eq, Option.bind_some, decide_eq_true h, if_true]
    · rw [if_neg h]
      refine Ev.step (fun k => ?_) (J3 o0 o1 o2 o3 0)
      simp only [grapevineref13_Plain.j2, from_eq, Option.bind_some, decide_eq_false h, Bool.false_eq_true, if_false]
  have J1 : ∀ o0 o1, Ev (fun k => grapevineref13_Plain.j1 k kd pub sub n fr to_ sp it o0 o1 0 0 0 0) (o0, o1, if 3 ≤ kd ∧ kd ≤ 6 then sub else 0, if 3 ≤ kd ∧ kd ≤ 6 then n else 0, if kd = 1 ∨ kd = 2 ∨ kd = 3 ∨ kd = 5 then fr else 0, if kd = 1 ∨ kd = 2 then to_ else 0, if kd = 1 then sp else [], if kd = 1 then it else []) := fun o0 o1 => by
    by_cases h : 3 ≤ kd ∧ kd ≤ 6
    · rw [if_pos h, if_pos h]
      refine Ev.step (fun k => ?_) (J2 o0 o1 sub n)
      simp only [grapevineref13_Plain.j1, named_eq, Option.bind_some, decide_eq_true h, if_true]
    · rw [if_neg h, if_neg h]
      refine Ev.step (fun k => ?_) (J2 o0 o1 0 0)
      simp only [grapevineref13_Plain.j1, named_eq, Option.bind_some, decide_eq_false h, Bool.false_eq_true, if_false]
  have J0 : Ev (fun k => grapevineref13_Plain.j0 k (decide (1 ≤ kd ∧ kd ≤ 6)) kd pub sub n fr to_ sp it kd 0 0 0 0 0) (plainP kd pub sub n fr to_ sp it) := by
    unfold plainP
    by_cases h : 1 ≤ kd ∧ kd ≤ 6
    · rw [if_pos h]
      refine Ev.step (fun k => ?_) (J1 kd pub)
      simp only [grapevineref13_Plain.j0, decide_eq_true h, if_true]
    · rw [if_neg h]
      refine Ev.step (fun k => ?_) (J1 kd 0)
      simp only [grapevineref13_Plain.j0, decide_eq_false h, Bool.false_eq_true, if_false]
  refine Ev.congr (fun k => ?_) J0
  unfold grapevineref13_Plain.f
  rw [ranged_eq, Option.bind_some]
  by_cases h : kd = 1 ∨ kd = 2
  · rw [decide_eq_true h, if_pos rfl, decide_eq_true (by omega)]
  · rw [decide_eq_false h, if_neg (by simp), named_eq, Option.bind_some]
    congr 1
    exact decide_eq_decide.2 (by omega)
end
/-! ### sizes -/
theorem len_sum {α : Type} (f : α → Nat) (hf : ∀ a, 1 ≤ f a) : ∀ l : List α, l.length ≤ sumOf f l
  | [] => Nat.zero_le _
  | a :: l => by
    have := len_sum f hf l
    have := hf a
    simp only [sumOf, List.length_cons] at *
    omega
theorem mem_sum {α : Type} (f : α → Nat) : ∀ {l : List α} {a : α}, a ∈ l → f a ≤ sumOf f l
  | b :: l, a, h => by
    rcases List.mem_cons.1 h with rfl | h
    · simp only [sumOf]; omega
    · have := mem_sum f h
      simp only [sumOf] at *
      omega
theorem sizes {x : S51} {N : Nat} (h : m51 x ≤ N) : x.f6.length ≤ N ∧ x.f7.length ≤ N ∧ ∀ y ∈ x.f7, y.f2.length ≤ N := by
  unfold m51 at h
  have h1 := len_sum (fun a : Sp => m43 a) (fun a => by unfold m43; omega) x.f6
  have h2 := len_sum (fun a : It => m62 a) (fun a => by unfold m62; omega) x.f7
  have e1 : m22 x.f6 = sumOf (fun a : Sp => m43 a) x.f6 + 1 := rfl
  have e2 : m49 x.f7 = sumOf (fun a : It => m62 a) x.f7 + 1 := rfl
  refine ⟨by omega, by omega, fun y hy => ?_⟩
  have h3 := mem_sum (fun a : It => m62 a) hy
  have h4 := len_sum (fun _ : Int => 1) (fun _ => Nat.le_refl _) y.f2
  have e3 : m62 y = (1 + (1 + (sumOf (fun _ : Int => 1) y.f2 + 1))) + 1 := rfl
  omega
end Go.Proofs.Ytpeacoppclmmlaa.PP
