/-
  PLAIN LAW: the program's Plain: what a parcel uses.
-/
import Derived.Test.YtpeacoppclmmlaaPNParAll
import Derived.Test.YtpeacoppclmmlaaPNPPx17
set_option linter.unusedSimpArgs false
set_option linter.unusedVariables false
namespace Go.Proofs.Ytpeacoppclmmlaa.PP
open Go.RowKit Go.Proofs.YtpeacoppclmmlaaW.PrintWords Go.Proofs.YtpeacoppclmmlaaW.PrintMore Go.Proofs.Ytpeacoppclmmlaa.Open
theorem PPits_eq : ∀ (l acc : List It), (∀ x ∈ l, x.f2.length < 140737488355328) → acc.length + l.length ≤ 3518437208883 → parcel_Plain.its l acc = some (acc ++ l)
  | [], acc, _, _ => by rw [parcel_Plain.its, List.append_nil]
  | x :: l, acc, hb, hl => by
    have e1 : slices_Clone_byte_byte.f x.f2 = some x.f2 := if_pos (hb x List.mem_cons_self)
    rw [List.length_cons] at hl
    rw [parcel_Plain.its, e1, Option.bind_some, if_pos (by omega), PPits_eq l _ (fun y hy => hb y (List.mem_cons_of_mem _ hy)) (by rw [List.length_append, List.length_cons, List.length_nil]; omega), List.append_assoc]
    rfl
section
variable {kd pub sub n fr to_ : Int} {sp : List Sp} {it : List It}
theorem PPfl_eq : parcel_Plain.fl pub sub n fr to_ (flds kd) 0 0 0 0 0 = (if 1 ≤ kd ∧ kd ≤ 6 then pub else 0, if 3 ≤ kd ∧ kd ≤ 6 then sub else 0, if 3 ≤ kd ∧ kd ≤ 6 then n else 0, if kd = 1 ∨ kd = 2 ∨ kd = 3 ∨ kd = 5 then fr else 0, if kd = 1 ∨ kd = 2 then to_ else 0) := by
  unfold flds
  by_cases h1 : kd = 3 ∨ kd = 5
  · rw [if_pos h1, if_pos (by omega), if_pos (by omega), if_pos (by omega), if_pos (by omega), if_neg (by omega)]
    rfl
  rw [if_neg h1]
  by_cases h2 : kd = 4 ∨ kd = 6
  · rw [if_pos h2, if_pos (by omega), if_pos (by omega), if_pos (by omega), if_neg (by omega), if_neg (by omega)]
    rfl
  rw [if_neg h2]
  by_cases h3 : kd = 1 ∨ kd = 2
  · rw [if_pos h3, if_pos (by omega), if_neg (by omega), if_neg (by omega), if_pos (by omega), if_pos (by omega)]
    rfl
  · rw [if_neg h3, if_neg (by omega), if_neg (by omega), if_neg (by omega), if_neg (by omega), if_neg (by omega)]
    rfl
theorem PPlain_eq (hk : kd = 1 → sp.length < 5864062014805 ∧ it.length < 3518437208883 ∧ ∀ x ∈ it, x.f2.length < 140737488355328) : parcel_Plain.f kd pub sub n fr to_ sp it = some (plainP kd pub sub n fr to_ sp it) := by
  unfold parcel_Plain.f parcel_Plain.rows
  by_cases h : kd = 1
  · obtain ⟨h1, h2, h3⟩ := hk h
    have e1 : api_Span_77.f sp = some sp := if_pos h1
    rw [if_pos h, e1, Option.bind_some, PPits_eq it [] h3 (by rw [List.length_nil]; omega), Option.bind_some, Option.bind_some, PPfl_eq]
    unfold plainP
    rw [if_pos h, if_pos h]
    rfl
  · rw [if_neg h, Option.bind_some, PPfl_eq]
    unfold plainP
    rw [if_neg h, if_neg h]
end
end Go.Proofs.Ytpeacoppclmmlaa.PP
