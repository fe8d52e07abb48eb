/- How the laws' arguments read (printed by grow.py). -/
import Derived.Test.YtpeacoppclmmlaaPNOpenS
import Derived.Test.YtpeacoppclmmlaaPNPPx0
namespace Go.Proofs.Ytpeacoppclmmlaa.PP
open Go.RowKit Go.Proofs.YtpeacoppclmmlaaW.PrintWords Go.Proofs.YtpeacoppclmmlaaW.PrintLast Go.Proofs.YtpeacoppclmmlaaW.PrintMore Go.Proofs.Ytpeacoppclmmlaa.Open
set_option linter.unusedVariables false
theorem opens48 : Opens Try.prog 48 (Kd.int .i64) (fun n => (Lit.int .i64 n).wf = true) (fun _ => 1) := opens_int Try.underlying48
theorem opens3 : Opens Try.prog 3 (Kd.int .i64) (fun n => (Lit.int .i64 n).wf = true) (fun _ => 1) := opens_int Try.underlying3
theorem opens33 : Opens Try.prog 33 (Kd.int .i64) (fun n => (Lit.int .i64 n).wf = true) (fun _ => 1) := opens_int Try.underlying33
def g43 (x : S43) : Prop := ((Lit.int .i64 x.f0).wf = true ∧ ((Lit.int .i64 x.f1).wf = true ∧ (Lit.int .i64 x.f2).wf = true))
def m43 (x : S43) : Nat := (1 + (1 + 1)) + 1
theorem opens43 : Opens Try.prog 43 k43 g43 m43 := by
  have h := opens_struct Try.underlying43 (by kernel_rfl) (opensF_cons rfl (by kernel_rfl) opens3 (opensF_cons rfl (by kernel_rfl) opens3 (opensF_one rfl (by kernel_rfl) opens33))) (fun x : S43 => (x.f0, x.f1, x.f2)) (fun a => (⟨a.1, a.2.1, a.2.2⟩ : S43)) (fun _ => rfl)
  exact h
def g22 (l : List (S43)) : Prop := (l.length ≤ maxLen ∧ l.length * 24 ≤ 140737488351232) ∧ ∀ a ∈ l, g43 a
def m22 (l : List (S43)) : Nat := sumOf (fun a : S43 => m43 a) l + 1
theorem opens22 : Opens Try.prog 22 (Kd.slice 43 k43) g22 m22 := by
  have h := opens_slice (B := 24) Try.underlying22 (d := k43) (by kernel_rfl) (by kernel_rfl) opens43
  exact h
theorem opens60 : Opens Try.prog 60 (Kd.int .u32) (fun n => (Lit.int .u32 n).wf = true) (fun _ => 1) := opens_int Try.underlying60
theorem opens5 : Opens Try.prog 5 (Kd.int .u8) (fun n => (Lit.int .u8 n).wf = true) (fun _ => 1) := opens_int Try.underlying5
def g44 (l : List Int) : Prop := (l.length ≤ maxLen ∧ l.length * 1 ≤ 140737488351232) ∧ ∀ a ∈ l, (Lit.int .u8 a).wf = true
def m44 (l : List Int) : Nat := sumOf (fun a : Int => 1) l + 1
theorem opens44 : Opens Try.prog 44 (Kd.slice 5 (Kd.int .u8)) g44 m44 := by
  have h := opens_slice (B := 1) Try.underlying44 (d := (Kd.int .u8)) (by kernel_rfl) (by kernel_rfl) opens5
  exact h
def g62 (x : S62) : Prop := ((Lit.int .i64 x.f0).wf = true ∧ ((Lit.int .u32 x.f1).wf = true ∧ g44 x.f2))
def m62 (x : S62) : Nat := (1 + (1 + m44 x.f2)) + 1
theorem opens62 : Opens Try.prog 62 k62 g62 m62 := by
  have h := opens_struct Try.underlying62 (by kernel_rfl) (opensF_cons rfl (by kernel_rfl) opens3 (opensF_cons rfl (by kernel_rfl) opens60 (opensF_one rfl (by kernel_rfl) opens44))) (fun x : S62 => (x.f0, x.f1, x.f2)) (fun a => (⟨a.1, a.2.1, a.2.2⟩ : S62)) (fun _ => rfl)
  exact h
def g49 (l : List (S62)) : Prop := (l.length ≤ maxLen ∧ l.length * 40 ≤ 140737488351232) ∧ ∀ a ∈ l, g62 a
def m49 (l : List (S62)) : Nat := sumOf (fun a : S62 => m62 a) l + 1
theorem opens49 : Opens Try.prog 49 (Kd.slice 62 k62) g49 m49 := by
  have h := opens_slice (B := 40) Try.underlying49 (d := k62) (by kernel_rfl) (by kernel_rfl) opens62
  exact h
def g51 (x : S51) : Prop := ((Lit.int .i64 x.f0).wf = true ∧ ((Lit.int .i64 x.f1).wf = true ∧ ((Lit.int .i64 x.f2).wf = true ∧ ((Lit.int .i64 x.f3).wf = true ∧ ((Lit.int .i64 x.f4).wf = true ∧ ((Lit.int .i64 x.f5).wf = true ∧ (g22 x.f6 ∧ g49 x.f7)))))))
def m51 (x : S51) : Nat := (1 + (1 + (1 + (1 + (1 + (1 + (m22 x.f6 + m49 x.f7))))))) + 1
theorem opens51 : Opens Try.prog 51 k51 g51 m51 := by
  have h := opens_struct Try.underlying51 (by kernel_rfl) (opensF_cons rfl (by kernel_rfl) opens48 (opensF_cons rfl (by kernel_rfl) opens3 (opensF_cons rfl (by kernel_rfl) opens3 (opensF_cons rfl (by kernel_rfl) opens3 (opensF_cons rfl (by kernel_rfl) opens3 (opensF_cons rfl (by kernel_rfl) opens3 (opensF_cons rfl (by kernel_rfl) opens22 (opensF_one rfl (by kernel_rfl) opens49)))))))) (fun x : S51 => (x.f0, x.f1, x.f2, x.f3, x.f4, x.f5, x.f6, x.f7)) (fun a => (⟨a.1, a.2.1, a.2.2.1, a.2.2.2.1, a.2.2.2.2.1, a.2.2.2.2.2.1, a.2.2.2.2.2.2.1, a.2.2.2.2.2.2.2⟩ : S51)) (fun _ => rfl)
  exact h
end Go.Proofs.Ytpeacoppclmmlaa.PP
