/- How the laws' arguments read (printed by grow.py). -/
import Derived.Test.YtpeacoppclmmlaaPOOpen
import Derived.Test.YtpeacoppclmmlaaPOPPx0
namespace Go.Proofs.Ytpeacoppclmmlaa.PP
open Go.RowKit Go.Proofs.YtpeacoppclmmlaaW.PrintWords Go.Proofs.YtpeacoppclmmlaaW.PrintLast Go.Proofs.YtpeacoppclmmlaaW.PrintMore Go.Proofs.Ytpeacoppclmmlaa.Open
set_option linter.unusedVariables false
theorem opens5 : Opens Try.prog 5 (Kd.int .u8) (fun n => (Lit.int .u8 n).wf = true) (fun _ => 1) := opens_int Try.underlying5
def g44 (l : List Int) : Prop := l.length ≤ maxLen ∧ ∀ a ∈ l, (Lit.int .u8 a).wf = true
def m44 (l : List Int) : Nat := sumOf (fun a : Int => 1) l + 1
theorem opens44 : Opens Try.prog 44 (Kd.slice 5 (Kd.int .u8)) g44 m44 := by
  have h := opens_slice Try.underlying44 (d := (Kd.int .u8)) (by kernel_rfl) opens5
  exact h
end Go.Proofs.Ytpeacoppclmmlaa.PP
