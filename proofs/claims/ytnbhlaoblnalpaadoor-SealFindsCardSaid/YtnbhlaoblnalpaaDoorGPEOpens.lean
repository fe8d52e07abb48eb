/- How the laws' arguments read (printed by grow.py). -/
import Derived.Test.YtnbhlaoblnalpaaDoorGOpen
import Derived.Test.YtnbhlaoblnalpaaDoorGPEx0
namespace Go.Proofs.YtnbhlaoblnalpaaDoor.PE
open Go.RowKit Go.Proofs.YtnbhlaoblnalpaaDoorW.PrintWords Go.Proofs.YtnbhlaoblnalpaaDoorW.PrintLast Go.Proofs.YtnbhlaoblnalpaaDoorW.PrintMore Go.Proofs.YtnbhlaoblnalpaaDoor.Open
set_option linter.unusedVariables false
theorem opens5 : Opens Tryd.prog 5 (Kd.int .u8) (fun n => (Lit.int .u8 n).wf = true) (fun _ => 1) := opens_int Tryd.underlying5
def g23 (l : List Int) : Prop := l.length ≤ maxLen ∧ ∀ a ∈ l, (Lit.int .u8 a).wf = true
def m23 (l : List Int) : Nat := sumOf (fun a : Int => 1) l + 1
theorem opens23 : Opens Tryd.prog 23 (Kd.slice 5 (Kd.int .u8)) g23 m23 := by
  have h := opens_slice Tryd.underlying23 (d := (Kd.int .u8)) (by kernel_rfl) opens5
  exact h
theorem opens31 : Opens Tryd.prog 31 (Kd.int .u16) (fun n => (Lit.int .u16 n).wf = true) (fun _ => 1) := opens_int Tryd.underlying31
def g55 (l : List (List Int)) : Prop := l.length ≤ maxLen ∧ ∀ a ∈ l, g23 a
def m55 (l : List (List Int)) : Nat := sumOf (fun a : List Int => m23 a) l + 1
theorem opens55 : Opens Tryd.prog 55 (Kd.slice 23 (Kd.slice 5 (Kd.int .u8))) g55 m55 := by
  have h := opens_slice Tryd.underlying55 (d := (Kd.slice 5 (Kd.int .u8))) (by kernel_rfl) opens23
  exact h
def g57 (x : S57) : Prop := (g23 x.f0 ∧ (Lit.int .u16 x.f1).wf = true)
def m57 (x : S57) : Nat := (m23 x.f0 + 1) + 1
theorem opens57 : Opens Tryd.prog 57 k57 g57 m57 := by
  have h := opens_struct Tryd.underlying57 (by kernel_rfl) (opensF_cons rfl (by kernel_rfl) opens23 (opensF_one rfl (by kernel_rfl) opens31)) (fun x : S57 => (x.f0, x.f1)) (fun a => (⟨a.1, a.2⟩ : S57)) (fun _ => rfl)
  exact h
end Go.Proofs.YtnbhlaoblnalpaaDoor.PE
