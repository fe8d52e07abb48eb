/- How the laws' arguments read (printed by grow.py). -/
import Derived.Test.YtnbhlaoblnalpaaDoorDOpen
import Derived.Test.YtnbhlaoblnalpaaDoorDPEx0
namespace Go.Proofs.YtnbhlaoblnalpaaDoor.PE
open Go.RowKit Go.Proofs.YtnbhlaoblnalpaaDoorW.PrintWords Go.Proofs.YtnbhlaoblnalpaaDoorW.PrintLast Go.Proofs.YtnbhlaoblnalpaaDoorW.PrintMore Go.Proofs.YtnbhlaoblnalpaaDoor.Open
set_option linter.unusedVariables false
theorem opens5 : Opens Tryd.prog 5 (Kd.int .u8) (fun n => (Lit.int .u8 n).wf = true) (fun _ => 1) := opens_int Tryd.underlying5
def g23 (l : List Int) : Prop := l.length ≤ maxLen ∧ ∀ a ∈ l, (Lit.int .u8 a).wf = true
def m23 (l : List Int) : Nat := sumOf (fun a : Int => 1) l + 1
theorem opens23 : Opens Tryd.prog 23 (Kd.slice 5 (Kd.int .u8)) g23 m23 := by
  have h := opens_slice Tryd.underlying23 (d := (Kd.int .u8)) (by kernel_rfl) opens5
  exact h
def g45 (x : S45) : Prop := (g23 x.f0 ∧ (g23 x.f1 ∧ g23 x.f2))
def m45 (x : S45) : Nat := (m23 x.f0 + (m23 x.f1 + m23 x.f2)) + 1
theorem opens45 : Opens Tryd.prog 45 k45 g45 m45 := by
  have h := opens_struct Tryd.underlying45 (by kernel_rfl) (opensF_cons rfl (by kernel_rfl) opens23 (opensF_cons rfl (by kernel_rfl) opens23 (opensF_one rfl (by kernel_rfl) opens23))) (fun x : S45 => (x.f0, x.f1, x.f2)) (fun a => (⟨a.1, a.2.1, a.2.2⟩ : S45)) (fun _ => rfl)
  exact h
end Go.Proofs.YtnbhlaoblnalpaaDoor.PE
