/-
  DERIVED. GIVEN WITH THE SEED: THE CARDS: each row of YtoandmnefgimoaaDoorRows.lean that lists a variable, with what it lists TIED to the program's text (the seventh form; the later family's looks); each row that meets fmt, with fmt's text TOLD by the authors' own Lean function (tested against real Go, not proved from fmt's source: count such statements apart). THE CARD IS WHAT COUNTS. Prove the row's statement (the work); the ties are given (YtoandmnefgimoaaDoorTie.lean); close each card by the builder's one call (the guide's Derived/Test/ToyasCard.lean, 'card_holds'). Laid BY PROGRAM, IN A SANDBOX (cutbox-door.mjs). By AI agents, Wed Nov 11 2026. No macro, syntax, notation, axiom, sorry.
-/
import Derived.Test.YtoandmnefgimoaaDoorRows
import GoSem.ClaimSeven
namespace Go.Proofs.YtoandmnefgimoaaDoor
namespace Rows

/-- THE TIED CARD OF 'grapevinelaw14.LinkOnce'. -/
def linkOnceCard : Claim7 := { stood := { row := linkOnceRow, standIns := [], harness := (true, "4ec8d4f18a600329ac08793a7960252f2780a90eea1f6bb8d5be3c4a8c24250d"), looks := false }, kinds := [], alts := [], laidByText := true, laidKinds := [.data], laidTests := true, laidLooks := .later }
def LinkOnceCardSaid : Prop := Claim7.holds Tryd.pinned (.plain (OpenSpec.ofChange linkOnceSpec)) linkOnceCard

/-- THE TIED CARD OF 'grapevinelaw14.LinkBounds'. -/
def linkBoundsCard : Claim7 := { stood := { row := linkBoundsRow, standIns := [], harness := (true, "4ec8d4f18a600329ac08793a7960252f2780a90eea1f6bb8d5be3c4a8c24250d"), looks := false }, kinds := [], alts := [], laidByText := true, laidKinds := [.data], laidTests := true, laidLooks := .later }
def LinkBoundsCardSaid : Prop := Claim7.holds Tryd.pinned (.plain (OpenSpec.ofChange linkBoundsSpec)) linkBoundsCard

/-- THE TIED CARD OF 'grapevinelaw14.LinkProbes'. -/
def linkProbesCard : Claim7 := { stood := { row := linkProbesRow, standIns := [], harness := (true, "4ec8d4f18a600329ac08793a7960252f2780a90eea1f6bb8d5be3c4a8c24250d"), looks := false }, kinds := [], alts := [], laidByText := true, laidKinds := [.data], laidTests := true, laidLooks := .later }
def LinkProbesCardSaid : Prop := Claim7.holds Tryd.pinned (.plain (OpenSpec.ofChange linkProbesSpec)) linkProbesCard

/-- THE TIED CARD OF 'grapevinelaw14.LinkNone'. -/
def linkNoneCard : Claim7 := { stood := { row := linkNoneRow, standIns := [], harness := (true, "4ec8d4f18a600329ac08793a7960252f2780a90eea1f6bb8d5be3c4a8c24250d"), looks := false }, kinds := [], alts := [], laidByText := true, laidKinds := [.data], laidTests := true, laidLooks := .later }
def LinkNoneCardSaid : Prop := Claim7.holds Tryd.pinned (.plain (OpenSpec.ofChange linkNoneSpec)) linkNoneCard

/-- THE SECOND FORM's CARD OF 'grapevinelaw14.LinkOnce'. -/
def linkOnceUptoCard : Claim7 := { stood := { row := linkOnceUptoRow, standIns := [], harness := (true, "4ec8d4f18a600329ac08793a7960252f2780a90eea1f6bb8d5be3c4a8c24250d"), looks := false }, kinds := [], alts := [], laidByText := true, laidKinds := [.data], laidTests := true, laidLooks := .later }
def LinkOnceUptoCardSaid : Prop := Claim7.holds Tryd.pinned (.plain (OpenSpec.upto linkOnceSpec)) linkOnceUptoCard

/-- THE SECOND FORM's CARD OF 'grapevinelaw14.LinkBounds'. -/
def linkBoundsUptoCard : Claim7 := { stood := { row := linkBoundsUptoRow, standIns := [], harness := (true, "4ec8d4f18a600329ac08793a7960252f2780a90eea1f6bb8d5be3c4a8c24250d"), looks := false }, kinds := [], alts := [], laidByText := true, laidKinds := [.data], laidTests := true, laidLooks := .later }
def LinkBoundsUptoCardSaid : Prop := Claim7.holds Tryd.pinned (.plain (OpenSpec.upto linkBoundsSpec)) linkBoundsUptoCard

/-- THE SECOND FORM's CARD OF 'grapevinelaw14.LinkProbes'. -/
def linkProbesUptoCard : Claim7 := { stood := { row := linkProbesUptoRow, standIns := [], harness := (true, "4ec8d4f18a600329ac08793a7960252f2780a90eea1f6bb8d5be3c4a8c24250d"), looks := false }, kinds := [], alts := [], laidByText := true, laidKinds := [.data], laidTests := true, laidLooks := .later }
def LinkProbesUptoCardSaid : Prop := Claim7.holds Tryd.pinned (.plain (OpenSpec.upto linkProbesSpec)) linkProbesUptoCard

/-- THE SECOND FORM's CARD OF 'grapevinelaw14.LinkNone'. -/
def linkNoneUptoCard : Claim7 := { stood := { row := linkNoneUptoRow, standIns := [], harness := (true, "4ec8d4f18a600329ac08793a7960252f2780a90eea1f6bb8d5be3c4a8c24250d"), looks := false }, kinds := [], alts := [], laidByText := true, laidKinds := [.data], laidTests := true, laidLooks := .later }
def LinkNoneUptoCardSaid : Prop := Claim7.holds Tryd.pinned (.plain (OpenSpec.upto linkNoneSpec)) linkNoneUptoCard
end Rows
end Go.Proofs.YtoandmnefgimoaaDoor
