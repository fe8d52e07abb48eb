/- How the laws' arguments read (printed by grow.py). -/
import Derived.Test.YtnbhlaoblnalpaaDoorFOpen
import Derived.Test.YtnbhlaoblnalpaaDoorFPEx0
namespace Go.Proofs.YtnbhlaoblnalpaaDoor.PE
open Go.RowKit Go.Proofs.YtnbhlaoblnalpaaDoorW.PrintWords Go.Proofs.YtnbhlaoblnalpaaDoorW.PrintLast Go.Proofs.YtnbhlaoblnalpaaDoorW.PrintMore Go.Proofs.YtnbhlaoblnalpaaDoor.Open
set_option linter.unusedVariables false
theorem opens5 : Opens Tryd.prog 5 (Kd.int .u8) (fun n => (Lit.int .u8 n).wf = true) (fun _ => 1) := opens_int Tryd.underlying5
def g23 (l : List Int) : Prop := l.length ≤ maxLen ∧ ∀ a ∈ l, (Lit.int .u8 a).wf = true
def m23 (l : List Int) : Nat := sumOf (fun a : Int => 1) l + 1
theorem opens23 : Opens Tryd.prog 23 (Kd.slice 5 (Kd.int .u8)) g23 m23 := by
  have h := opens_slice Tryd.underlying23 (d := (Kd.int .u8)) (by kernel_rfl) opens5
  exact h
theorem opens31 : Opens Tryd.prog 31 (Kd.int .u16) (fun n => (Lit.int .u16 n).wf = true) (fun _ => 1) := opens_int Tryd.underlying31
structure S32 where
  f0 : Int
  f1 : Int
  f2 : Int
  f3 : Int
def k32 : Kd S32 := Kd.iso (Kd.pair (Kd.int .u8) (Kd.pair (Kd.int .u8) (Kd.pair (Kd.int .u8) (Kd.int .u8)))) (fun x : S32 => (x.f0, x.f1, x.f2, x.f3))
theorem k32_open {w : World} {x : S32} {cs : List Value} (h : k32.K w x cs) : cs = [.int .u8 x.f0, .int .u8 x.f1, .int .u8 x.f2, .int .u8 x.f3] := by
  obtain ⟨_, _, rfl, rfl, ⟨_, _, rfl, rfl, ⟨_, _, rfl, rfl, rfl⟩⟩⟩ := h
  exact rfl
def g32 (x : S32) : Prop := ((Lit.int .u8 x.f0).wf = true ∧ ((Lit.int .u8 x.f1).wf = true ∧ ((Lit.int .u8 x.f2).wf = true ∧ (Lit.int .u8 x.f3).wf = true)))
def m32 (x : S32) : Nat := (1 + (1 + (1 + 1))) + 1
theorem opens32 : Opens Tryd.prog 32 k32 g32 m32 := by
  intro H enc w base spare held fuel cs x h
  obtain ⟨b0, b1, b2, b3, rfl, h0, h1, h2, h3, hm⟩ := opens_arr4 Tryd.underlying32 Tryd.underlying5 (by kernel_rfl) (by kernel_rfl) h
  exact ⟨⟨b0, b1, b2, b3⟩, ⟨_, _, rfl, rfl, ⟨_, _, rfl, rfl, ⟨_, _, rfl, rfl, rfl⟩⟩⟩, ⟨h0, h1, h2, h3⟩, hm⟩
structure S49 where
  f0 : Int
  f1 : S32
def k49 : Kd S49 := Kd.iso (Kd.pair (Kd.int .u16) k32) (fun x : S49 => (x.f0, x.f1))
theorem k49_open {w : World} {x : S49} {cs : List Value} (h : k49.K w x cs) : cs = [.int .u16 x.f0, .int .u8 x.f1.f0, .int .u8 x.f1.f1, .int .u8 x.f1.f2, .int .u8 x.f1.f3] := by
  obtain ⟨_, _, rfl, rfl, ⟨_, _, rfl, rfl, ⟨_, _, rfl, rfl, ⟨_, _, rfl, rfl, rfl⟩⟩⟩⟩ := h
  exact rfl
def g49 (x : S49) : Prop := ((Lit.int .u16 x.f0).wf = true ∧ g32 x.f1)
def m49 (x : S49) : Nat := (1 + m32 x.f1) + 1
theorem opens49 : Opens Tryd.prog 49 k49 g49 m49 := by
  have h := opens_struct Tryd.underlying49 (by kernel_rfl) (opensF_cons rfl (by kernel_rfl) opens31 (opensF_one rfl (by kernel_rfl) opens32)) (fun x : S49 => (x.f0, x.f1)) (fun a => (⟨a.1, a.2⟩ : S49)) (fun _ => rfl)
  exact h
end Go.Proofs.YtnbhlaoblnalpaaDoor.PE
