/- How the laws' arguments read (printed by grow.py). -/
import Derived.Test.YtnbhlaoblnalpaaDoorEOpen
import Derived.Test.YtnbhlaoblnalpaaDoorEPEx0
namespace Go.Proofs.YtnbhlaoblnalpaaDoor.PE
open Go.RowKit Go.Proofs.YtnbhlaoblnalpaaDoorW.PrintWords Go.Proofs.YtnbhlaoblnalpaaDoorW.PrintLast Go.Proofs.YtnbhlaoblnalpaaDoorW.PrintMore Go.Proofs.YtnbhlaoblnalpaaDoor.Open
set_option linter.unusedVariables false
theorem opens5 : Opens Tryd.prog 5 (Kd.int .u8) (fun n => (Lit.int .u8 n).wf = true) (fun _ => 1) := opens_int Tryd.underlying5
def g23 (l : List Int) : Prop := l.length ≤ maxLen ∧ ∀ a ∈ l, (Lit.int .u8 a).wf = true
def m23 (l : List Int) : Nat := sumOf (fun a : Int => 1) l + 1
theorem opens23 : Opens Tryd.prog 23 (Kd.slice 5 (Kd.int .u8)) g23 m23 := by
  have h := opens_slice Tryd.underlying23 (d := (Kd.int .u8)) (by kernel_rfl) opens5
  exact h
end Go.Proofs.YtnbhlaoblnalpaaDoor.PE
