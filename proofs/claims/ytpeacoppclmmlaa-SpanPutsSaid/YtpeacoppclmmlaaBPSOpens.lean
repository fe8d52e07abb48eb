/- How the laws' arguments read (printed by grow.py). -/
import Derived.Test.YtpeacoppclmmlaaBOpen
import Derived.Test.YtpeacoppclmmlaaBPSx0
namespace Go.Proofs.Ytpeacoppclmmlaa.PS
open Go.RowKit Go.Proofs.YtpeacoppclmmlaaW.PrintWords Go.Proofs.YtpeacoppclmmlaaW.PrintLast Go.Proofs.YtpeacoppclmmlaaW.PrintMore Go.Proofs.Ytpeacoppclmmlaa.Open
set_option linter.unusedVariables false
theorem opens3 : Opens Try.prog 3 (Kd.int .i64) (fun n => (Lit.int .i64 n).wf = true) (fun _ => 1) := opens_int Try.underlying3
theorem opens33 : Opens Try.prog 33 (Kd.int .i64) (fun n => (Lit.int .i64 n).wf = true) (fun _ => 1) := opens_int Try.underlying33
def g43 (x : S43) : Prop := ((Lit.int .i64 x.f0).wf = true ∧ ((Lit.int .i64 x.f1).wf = true ∧ (Lit.int .i64 x.f2).wf = true))
def m43 (x : S43) : Nat := (1 + (1 + 1)) + 1
theorem opens43 : Opens Try.prog 43 k43 g43 m43 := by
  have h := opens_struct Try.underlying43 (by kernel_rfl) (opensF_cons rfl (by kernel_rfl) opens3 (opensF_cons rfl (by kernel_rfl) opens3 (opensF_one rfl (by kernel_rfl) opens33))) (fun x : S43 => (x.f0, x.f1, x.f2)) (fun a => (⟨a.1, a.2.1, a.2.2⟩ : S43)) (fun _ => rfl)
  exact h
def g22 (l : List (S43)) : Prop := l.length ≤ maxLen ∧ ∀ a ∈ l, g43 a
def m22 (l : List (S43)) : Nat := sumOf (fun a : S43 => m43 a) l + 1
theorem opens22 : Opens Try.prog 22 (Kd.slice 43 k43) g22 m22 := by
  have h := opens_slice Try.underlying22 (d := k43) (by kernel_rfl) opens43
  exact h
end Go.Proofs.Ytpeacoppclmmlaa.PS
