/- How the laws' arguments read (printed by grow.py). -/
import Derived.Test.YtoandmnefgimoaaDoorLBOpenS
import Derived.Test.YtoandmnefgimoaaDoorLBPLx0
namespace Go.Proofs.YtoandmnefgimoaaDoor.PL
open Go.RowKit Go.Proofs.YtoandmnefgimoaaDoorW.PrintWords Go.Proofs.YtoandmnefgimoaaDoorW.PrintLast Go.Proofs.YtoandmnefgimoaaDoorW.PrintMore Go.Proofs.YtoandmnefgimoaaDoor.Open
set_option linter.unusedVariables false
theorem opens5 : Opens Tryd.prog 5 (Kd.int .u8) (fun n => (Lit.int .u8 n).wf = true) (fun _ => 1) := opens_int Tryd.underlying5
theorem opens3 : Opens Tryd.prog 3 (Kd.int .i64) (fun n => (Lit.int .i64 n).wf = true) (fun _ => 1) := opens_int Tryd.underlying3
theorem opens33 : Opens Tryd.prog 33 (Kd.int .i64) (fun n => (Lit.int .i64 n).wf = true) (fun _ => 1) := opens_int Tryd.underlying33
theorem opens108 : Opens Tryd.prog 108 (Kd.int .i64) (fun n => (Lit.int .i64 n).wf = true) (fun _ => 1) := opens_int Tryd.underlying108
def g110 (x : S110) : Prop := ((Lit.int .i64 x.f0).wf = true ∧ ((Lit.int .i64 x.f1).wf = true ∧ (Lit.int .i64 x.f2).wf = true))
def m110 (x : S110) : Nat := (1 + (1 + 1)) + 1
theorem opens110 : Opens Tryd.prog 110 k110 g110 m110 := by
  have h := opens_struct Tryd.underlying110 (by kernel_rfl) (opensF_cons rfl (by kernel_rfl) opens3 (opensF_cons rfl (by kernel_rfl) opens3 (opensF_one rfl (by kernel_rfl) opens108))) (fun x : S110 => (x.f0, x.f1, x.f2)) (fun a => (⟨a.1, a.2.1, a.2.2⟩ : S110)) (fun _ => rfl)
  exact h
def g34 (l : List (S110)) : Prop := (l.length ≤ maxLen ∧ l.length * 24 ≤ 140737488351232) ∧ ∀ a ∈ l, g110 a
def m34 (l : List (S110)) : Nat := sumOf (fun a : S110 => m110 a) l + 1
theorem opens34 : Opens Tryd.prog 34 (Kd.slice 110 k110) g34 m34 := by
  have h := opens_slice (B := 24) Tryd.underlying34 (d := k110) (by kernel_rfl) (by kernel_rfl) opens110
  exact h
theorem opens62 : Opens Tryd.prog 62 (Kd.int .u32) (fun n => (Lit.int .u32 n).wf = true) (fun _ => 1) := opens_int Tryd.underlying62
def g42 (l : List Int) : Prop := (l.length ≤ maxLen ∧ l.length * 1 ≤ 140737488351232) ∧ ∀ a ∈ l, (Lit.int .u8 a).wf = true
def m42 (l : List Int) : Nat := sumOf (fun a : Int => 1) l + 1
theorem opens42 : Opens Tryd.prog 42 (Kd.slice 5 (Kd.int .u8)) g42 m42 := by
  have h := opens_slice (B := 1) Tryd.underlying42 (d := (Kd.int .u8)) (by kernel_rfl) (by kernel_rfl) opens5
  exact h
def g77 (x : S77) : Prop := ((Lit.int .i64 x.f0).wf = true ∧ ((Lit.int .u32 x.f1).wf = true ∧ g42 x.f2))
def m77 (x : S77) : Nat := (1 + (1 + m42 x.f2)) + 1
theorem opens77 : Opens Tryd.prog 77 k77 g77 m77 := by
  have h := opens_struct Tryd.underlying77 (by kernel_rfl) (opensF_cons rfl (by kernel_rfl) opens3 (opensF_cons rfl (by kernel_rfl) opens62 (opensF_one rfl (by kernel_rfl) opens42))) (fun x : S77 => (x.f0, x.f1, x.f2)) (fun a => (⟨a.1, a.2.1, a.2.2⟩ : S77)) (fun _ => rfl)
  exact h
def g35 (l : List (S77)) : Prop := (l.length ≤ maxLen ∧ l.length * 40 ≤ 140737488351232) ∧ ∀ a ∈ l, g77 a
def m35 (l : List (S77)) : Nat := sumOf (fun a : S77 => m77 a) l + 1
theorem opens35 : Opens Tryd.prog 35 (Kd.slice 77 k77) g35 m35 := by
  have h := opens_slice (B := 40) Tryd.underlying35 (d := k77) (by kernel_rfl) (by kernel_rfl) opens77
  exact h
def g37 (x : S37) : Prop := ((Lit.int .i64 x.f0).wf = true ∧ ((Lit.int .i64 x.f1).wf = true ∧ ((Lit.int .i64 x.f2).wf = true ∧ ((Lit.int .i64 x.f3).wf = true ∧ ((Lit.int .i64 x.f4).wf = true ∧ ((Lit.int .i64 x.f5).wf = true ∧ (g34 x.f6 ∧ g35 x.f7)))))))
def m37 (x : S37) : Nat := (1 + (1 + (1 + (1 + (1 + (1 + (m34 x.f6 + m35 x.f7))))))) + 1
theorem opens37 : Opens Tryd.prog 37 k37 g37 m37 := by
  have h := opens_struct Tryd.underlying37 (by kernel_rfl) (opensF_cons rfl (by kernel_rfl) opens33 (opensF_cons rfl (by kernel_rfl) opens3 (opensF_cons rfl (by kernel_rfl) opens3 (opensF_cons rfl (by kernel_rfl) opens3 (opensF_cons rfl (by kernel_rfl) opens3 (opensF_cons rfl (by kernel_rfl) opens3 (opensF_cons rfl (by kernel_rfl) opens34 (opensF_one rfl (by kernel_rfl) opens35)))))))) (fun x : S37 => (x.f0, x.f1, x.f2, x.f3, x.f4, x.f5, x.f6, x.f7)) (fun a => (⟨a.1, a.2.1, a.2.2.1, a.2.2.2.1, a.2.2.2.2.1, a.2.2.2.2.2.1, a.2.2.2.2.2.2.1, a.2.2.2.2.2.2.2⟩ : S37)) (fun _ => rfl)
  exact h
def g57 (x : S57) : Prop := ((Lit.int .i64 x.f0).wf = true ∧ (g37 x.f1 ∧ ((Lit.int .u8 x.f2).wf = true ∧ ((Lit.int .i64 x.f3).wf = true ∧ ((Lit.int .i64 x.f4).wf = true ∧ ((Lit.int .i64 x.f5).wf = true ∧ (g42 x.f6 ∧ (Lit.int .i64 x.f7).wf = true)))))))
def m57 (x : S57) : Nat := (1 + (m37 x.f1 + (1 + (1 + (1 + (1 + (m42 x.f6 + 1))))))) + 1
theorem opens57 : Opens Tryd.prog 57 k57 g57 m57 := by
  have h := opens_struct Tryd.underlying57 (by kernel_rfl) (opensF_cons rfl (by kernel_rfl) opens3 (opensF_cons rfl (by kernel_rfl) opens37 (opensF_cons rfl (by kernel_rfl) opens5 (opensF_cons rfl (by kernel_rfl) opens3 (opensF_cons rfl (by kernel_rfl) opens3 (opensF_cons rfl (by kernel_rfl) opens3 (opensF_cons rfl (by kernel_rfl) opens42 (opensF_one rfl (by kernel_rfl) opens3)))))))) (fun x : S57 => (x.f0, x.f1, x.f2, x.f3, x.f4, x.f5, x.f6, x.f7)) (fun a => (⟨a.1, a.2.1, a.2.2.1, a.2.2.2.1, a.2.2.2.2.1, a.2.2.2.2.2.1, a.2.2.2.2.2.2.1, a.2.2.2.2.2.2.2⟩ : S57)) (fun _ => rfl)
  exact h
def g55 (l : List (S57)) : Prop := (l.length ≤ maxLen ∧ l.length * 168 ≤ 140737488351232) ∧ ∀ a ∈ l, g57 a
def m55 (l : List (S57)) : Nat := sumOf (fun a : S57 => m57 a) l + 1
theorem opens55 : Opens Tryd.prog 55 (Kd.slice 57 k57) g55 m55 := by
  have h := opens_slice (B := 168) Tryd.underlying55 (d := k57) (by kernel_rfl) (by kernel_rfl) opens57
  exact h
end Go.Proofs.YtoandmnefgimoaaDoor.PL
