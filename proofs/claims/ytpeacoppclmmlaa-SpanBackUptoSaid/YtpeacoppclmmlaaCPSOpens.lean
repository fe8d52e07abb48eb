/- How the laws' arguments read (printed by grow.py). -/
import Derived.Test.YtpeacoppclmmlaaCOpen
import Derived.Test.YtpeacoppclmmlaaCPSx0
namespace Go.Proofs.Ytpeacoppclmmlaa.PS
open Go.RowKit Go.Proofs.YtpeacoppclmmlaaW.PrintWords Go.Proofs.YtpeacoppclmmlaaW.PrintLast Go.Proofs.YtpeacoppclmmlaaW.PrintMore Go.Proofs.Ytpeacoppclmmlaa.Open
set_option linter.unusedVariables false
theorem opens3 : Opens Try.prog 3 (Kd.int .i64) (fun n => (Lit.int .i64 n).wf = true) (fun _ => 1) := opens_int Try.underlying3
theorem opens33 : Opens Try.prog 33 (Kd.int .i64) (fun n => (Lit.int .i64 n).wf = true) (fun _ => 1) := opens_int Try.underlying33
def g43 (x : S43) : Prop := ((Lit.int .i64 x.f0).wf = true ∧ ((Lit.int .i64 x.f1).wf = true ∧ (Lit.int .i64 x.f2).wf = true))
def m43 (x : S43) : Nat := (1 + (1 + 1)) + 1
theorem opens43 : Opens Try.prog 43 k43 g43 m43 := by
  have h := opens_struct Try.underlying43 (by kernel_rfl) (opensF_cons rfl (by kernel_rfl) opens3 (opensF_cons rfl (by kernel_rfl) opens3 (opensF_one rfl (by kernel_rfl) opens33))) (fun x : S43 => (x.f0, x.f1, x.f2)) (fun a => (⟨a.1, a.2.1, a.2.2⟩ : S43)) (fun _ => rfl)
  exact h
def g22 (l : List (S43)) : Prop := l.length ≤ maxLen ∧ ∀ a ∈ l, g43 a
def m22 (l : List (S43)) : Nat := sumOf (fun a : S43 => m43 a) l + 1
theorem opens22 : Opens Try.prog 22 (Kd.slice 43 k43) g22 m22 := by
  have h := opens_slice Try.underlying22 (d := k43) (by kernel_rfl) opens43
  exact h
structure S37 where
  f0 : Int
  f1 : Int
def k37 : Kd S37 := Kd.iso (Kd.pair (Kd.int .i64) (Kd.int .i64)) (fun x : S37 => (x.f0, x.f1))
theorem k37_open {w : World} {x : S37} {cs : List Value} (h : k37.K w x cs) : cs = [.int .i64 x.f0, .int .i64 x.f1] := by
  obtain ⟨_, _, rfl, rfl, rfl⟩ := h
  exact rfl
def g37 (x : S37) : Prop := ((Lit.int .i64 x.f0).wf = true ∧ (Lit.int .i64 x.f1).wf = true)
def m37 (x : S37) : Nat := (1 + 1) + 1
theorem opens37 : Opens Try.prog 37 k37 g37 m37 := by
  have h := opens_struct Try.underlying37 (by kernel_rfl) (opensF_cons rfl (by kernel_rfl) opens3 (opensF_one rfl (by kernel_rfl) opens3)) (fun x : S37 => (x.f0, x.f1)) (fun a => (⟨a.1, a.2⟩ : S37)) (fun _ => rfl)
  exact h
theorem opens5 : Opens Try.prog 5 (Kd.int .u8) (fun n => (Lit.int .u8 n).wf = true) (fun _ => 1) := opens_int Try.underlying5
def g44 (l : List Int) : Prop := l.length ≤ maxLen ∧ ∀ a ∈ l, (Lit.int .u8 a).wf = true
def m44 (l : List Int) : Nat := sumOf (fun a : Int => 1) l + 1
theorem opens44 : Opens Try.prog 44 (Kd.slice 5 (Kd.int .u8)) g44 m44 := by
  have h := opens_slice Try.underlying44 (d := (Kd.int .u8)) (by kernel_rfl) opens5
  exact h
end Go.Proofs.Ytpeacoppclmmlaa.PS
