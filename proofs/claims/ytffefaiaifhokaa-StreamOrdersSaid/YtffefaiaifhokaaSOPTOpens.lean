/- How the laws' arguments read (printed by grow.py). -/
import Derived.Test.YtffefaiaifhokaaSOOpenS
import Derived.Test.YtffefaiaifhokaaSOPTx0
namespace Go.Proofs.Ytffefaiaifhokaa.PT
open Go.RowKit Go.Proofs.YtffefaiaifhokaaW.PrintWords Go.Proofs.YtffefaiaifhokaaW.PrintLast Go.Proofs.YtffefaiaifhokaaW.PrintMore Go.Proofs.Ytffefaiaifhokaa.Open
set_option linter.unusedVariables false
theorem opens29 : Opens Try.prog 29 (Kd.int .i64) (fun n => (Lit.int .i64 n).wf = true) (fun _ => 1) := opens_int Try.underlying29
theorem opens3 : Opens Try.prog 3 (Kd.int .i64) (fun n => (Lit.int .i64 n).wf = true) (fun _ => 1) := opens_int Try.underlying3
theorem opens36 : Opens Try.prog 36 (Kd.int .i64) (fun n => (Lit.int .i64 n).wf = true) (fun _ => 1) := opens_int Try.underlying36
def g38 (x : S38) : Prop := ((Lit.int .i64 x.f0).wf = true ∧ ((Lit.int .i64 x.f1).wf = true ∧ (Lit.int .i64 x.f2).wf = true))
def m38 (x : S38) : Nat := (1 + (1 + 1)) + 1
theorem opens38 : Opens Try.prog 38 k38 g38 m38 := by
  have h := opens_struct Try.underlying38 (by kernel_rfl) (opensF_cons rfl (by kernel_rfl) opens3 (opensF_cons rfl (by kernel_rfl) opens3 (opensF_one rfl (by kernel_rfl) opens36))) (fun x : S38 => (x.f0, x.f1, x.f2)) (fun a => (⟨a.1, a.2.1, a.2.2⟩ : S38)) (fun _ => rfl)
  exact h
def g30 (l : List (S38)) : Prop := (l.length ≤ maxLen ∧ l.length * 24 ≤ 140737488351232) ∧ ∀ a ∈ l, g38 a
def m30 (l : List (S38)) : Nat := sumOf (fun a : S38 => m38 a) l + 1
theorem opens30 : Opens Try.prog 30 (Kd.slice 38 k38) g30 m30 := by
  have h := opens_slice (B := 24) Try.underlying30 (d := k38) (by kernel_rfl) (by kernel_rfl) opens38
  exact h
theorem opens39 : Opens Try.prog 39 (Kd.int .u32) (fun n => (Lit.int .u32 n).wf = true) (fun _ => 1) := opens_int Try.underlying39
theorem opens5 : Opens Try.prog 5 (Kd.int .u8) (fun n => (Lit.int .u8 n).wf = true) (fun _ => 1) := opens_int Try.underlying5
def g40 (l : List Int) : Prop := (l.length ≤ maxLen ∧ l.length * 1 ≤ 140737488351232) ∧ ∀ a ∈ l, (Lit.int .u8 a).wf = true
def m40 (l : List Int) : Nat := sumOf (fun a : Int => 1) l + 1
theorem opens40 : Opens Try.prog 40 (Kd.slice 5 (Kd.int .u8)) g40 m40 := by
  have h := opens_slice (B := 1) Try.underlying40 (d := (Kd.int .u8)) (by kernel_rfl) (by kernel_rfl) opens5
  exact h
def g42 (x : S42) : Prop := ((Lit.int .i64 x.f0).wf = true ∧ ((Lit.int .u32 x.f1).wf = true ∧ g40 x.f2))
def m42 (x : S42) : Nat := (1 + (1 + m40 x.f2)) + 1
theorem opens42 : Opens Try.prog 42 k42 g42 m42 := by
  have h := opens_struct Try.underlying42 (by kernel_rfl) (opensF_cons rfl (by kernel_rfl) opens3 (opensF_cons rfl (by kernel_rfl) opens39 (opensF_one rfl (by kernel_rfl) opens40))) (fun x : S42 => (x.f0, x.f1, x.f2)) (fun a => (⟨a.1, a.2.1, a.2.2⟩ : S42)) (fun _ => rfl)
  exact h
def g31 (l : List (S42)) : Prop := (l.length ≤ maxLen ∧ l.length * 40 ≤ 140737488351232) ∧ ∀ a ∈ l, g42 a
def m31 (l : List (S42)) : Nat := sumOf (fun a : S42 => m42 a) l + 1
theorem opens31 : Opens Try.prog 31 (Kd.slice 42 k42) g31 m31 := by
  have h := opens_slice (B := 40) Try.underlying31 (d := k42) (by kernel_rfl) (by kernel_rfl) opens42
  exact h
def g33 (x : S33) : Prop := ((Lit.int .i64 x.f0).wf = true ∧ ((Lit.int .i64 x.f1).wf = true ∧ ((Lit.int .i64 x.f2).wf = true ∧ ((Lit.int .i64 x.f3).wf = true ∧ ((Lit.int .i64 x.f4).wf = true ∧ ((Lit.int .i64 x.f5).wf = true ∧ (g30 x.f6 ∧ g31 x.f7)))))))
def m33 (x : S33) : Nat := (1 + (1 + (1 + (1 + (1 + (1 + (m30 x.f6 + m31 x.f7))))))) + 1
theorem opens33 : Opens Try.prog 33 k33 g33 m33 := by
  have h := opens_struct Try.underlying33 (by kernel_rfl) (opensF_cons rfl (by kernel_rfl) opens29 (opensF_cons rfl (by kernel_rfl) opens3 (opensF_cons rfl (by kernel_rfl) opens3 (opensF_cons rfl (by kernel_rfl) opens3 (opensF_cons rfl (by kernel_rfl) opens3 (opensF_cons rfl (by kernel_rfl) opens3 (opensF_cons rfl (by kernel_rfl) opens30 (opensF_one rfl (by kernel_rfl) opens31)))))))) (fun x : S33 => (x.f0, x.f1, x.f2, x.f3, x.f4, x.f5, x.f6, x.f7)) (fun a => (⟨a.1, a.2.1, a.2.2.1, a.2.2.2.1, a.2.2.2.2.1, a.2.2.2.2.2.1, a.2.2.2.2.2.2.1, a.2.2.2.2.2.2.2⟩ : S33)) (fun _ => rfl)
  exact h
def g22 (l : List (S33)) : Prop := (l.length ≤ maxLen ∧ l.length * 96 ≤ 140737488351232) ∧ ∀ a ∈ l, g33 a
def m22 (l : List (S33)) : Nat := sumOf (fun a : S33 => m33 a) l + 1
theorem opens22 : Opens Try.prog 22 (Kd.slice 33 k33) g22 m22 := by
  have h := opens_slice (B := 96) Try.underlying22 (d := k33) (by kernel_rfl) (by kernel_rfl) opens33
  exact h
end Go.Proofs.Ytffefaiaifhokaa.PT
