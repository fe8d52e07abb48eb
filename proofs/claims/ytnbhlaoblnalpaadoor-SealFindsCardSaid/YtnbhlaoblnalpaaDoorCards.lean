/-
  DERIVED. GIVEN WITH THE SEED: THE CARDS: each row of YtnbhlaoblnalpaaDoorRows.lean that lists a variable, with what it lists TIED to the program's text (the seventh form; the later family's looks); each row that meets fmt, with fmt's text TOLD by the authors' own Lean function (tested against real Go, not proved from fmt's source: count such statements apart). THE CARD IS WHAT COUNTS. Prove the row's statement (the work); the ties are given (YtnbhlaoblnalpaaDoorTie.lean); close each card by the builder's one call (the guide's Derived/Test/ToyasCard.lean, 'card_holds'). Laid BY PROGRAM, IN A SANDBOX (cutbox-door.mjs). By AI agents, Wed Nov 11 2026. No macro, syntax, notation, axiom, sorry.
-/
import Derived.Test.YtnbhlaoblnalpaaDoorRows
import GoSem.ClaimSeven
namespace Go.Proofs.YtnbhlaoblnalpaaDoor
namespace Rows

/-- THE TIED CARD OF 'grapevinelaw01.SealSums'. -/
def sealSumsCard : Claim7 := { stood := { row := sealSumsRow, standIns := [], harness := (true, "a503d27747301f3e562fdbcc8b82f1a0288d58e55faa92a193f501869f2e7cf9"), looks := false }, kinds := [], alts := [], laidByText := true, laidKinds := [.data], laidTests := true, laidLooks := .later }
def SealSumsCardSaid : Prop := Claim7.holds Tryd.pinned (.plain (OpenSpec.ofChange sealSumsSpec)) sealSumsCard

/-- THE TIED CARD OF 'grapevinelaw01.SealJoined'. -/
def sealJoinedCard : Claim7 := { stood := { row := sealJoinedRow, standIns := [], harness := (true, "a503d27747301f3e562fdbcc8b82f1a0288d58e55faa92a193f501869f2e7cf9"), looks := false }, kinds := [], alts := [], laidByText := true, laidKinds := [.data], laidTests := true, laidLooks := .later }
def SealJoinedCardSaid : Prop := Claim7.holds Tryd.pinned (.plain (OpenSpec.ofChange sealJoinedSpec)) sealJoinedCard

/-- THE TIED CARD OF 'grapevinelaw01.SealRests'. -/
def sealRestsCard : Claim7 := { stood := { row := sealRestsRow, standIns := [], harness := (true, "a503d27747301f3e562fdbcc8b82f1a0288d58e55faa92a193f501869f2e7cf9"), looks := false }, kinds := [], alts := [], laidByText := true, laidKinds := [.data], laidTests := true, laidLooks := .later }
def SealRestsCardSaid : Prop := Claim7.holds Tryd.pinned (.plain (OpenSpec.ofChange sealRestsSpec)) sealRestsCard

/-- THE TIED CARD OF 'grapevinelaw01.SealApart'. -/
def sealApartCard : Claim7 := { stood := { row := sealApartRow, standIns := [], harness := (true, "a503d27747301f3e562fdbcc8b82f1a0288d58e55faa92a193f501869f2e7cf9"), looks := false }, kinds := [], alts := [], laidByText := true, laidKinds := [.data], laidTests := true, laidLooks := .later }
def SealApartCardSaid : Prop := Claim7.holds Tryd.pinned (.plain (OpenSpec.ofChange sealApartSpec)) sealApartCard

/-- THE TIED CARD OF 'grapevinelaw01.SealLays'. -/
def sealLaysCard : Claim7 := { stood := { row := sealLaysRow, standIns := [], harness := (true, "a503d27747301f3e562fdbcc8b82f1a0288d58e55faa92a193f501869f2e7cf9"), looks := false }, kinds := [], alts := [], laidByText := true, laidKinds := [.data], laidTests := true, laidLooks := .later }
def SealLaysCardSaid : Prop := Claim7.holds Tryd.pinned (.plain (OpenSpec.ofChange sealLaysSpec)) sealLaysCard

/-- THE TIED CARD OF 'grapevinelaw01.SealOpens'. -/
def sealOpensCard : Claim7 := { stood := { row := sealOpensRow, standIns := [], harness := (true, "a503d27747301f3e562fdbcc8b82f1a0288d58e55faa92a193f501869f2e7cf9"), looks := false }, kinds := [], alts := [], laidByText := true, laidKinds := [.data], laidTests := true, laidLooks := .later }
def SealOpensCardSaid : Prop := Claim7.holds Tryd.pinned (.plain (OpenSpec.ofChange sealOpensSpec)) sealOpensCard

/-- THE TIED CARD OF 'grapevinelaw01.SealBack'. -/
def sealBackCard : Claim7 := { stood := { row := sealBackRow, standIns := [], harness := (true, "a503d27747301f3e562fdbcc8b82f1a0288d58e55faa92a193f501869f2e7cf9"), looks := false }, kinds := [], alts := [], laidByText := true, laidKinds := [.data], laidTests := true, laidLooks := .later }
def SealBackCardSaid : Prop := Claim7.holds Tryd.pinned (.plain (OpenSpec.ofChange sealBackSpec)) sealBackCard

/-- THE TIED CARD OF 'grapevinelaw01.SealCuts'. -/
def sealCutsCard : Claim7 := { stood := { row := sealCutsRow, standIns := [], harness := (true, "a503d27747301f3e562fdbcc8b82f1a0288d58e55faa92a193f501869f2e7cf9"), looks := false }, kinds := [], alts := [], laidByText := true, laidKinds := [.data], laidTests := true, laidLooks := .later }
def SealCutsCardSaid : Prop := Claim7.holds Tryd.pinned (.plain (OpenSpec.ofChange sealCutsSpec)) sealCutsCard

/-- THE TIED CARD OF 'grapevinelaw01.SealTurned'. -/
def sealTurnedCard : Claim7 := { stood := { row := sealTurnedRow, standIns := [], harness := (true, "a503d27747301f3e562fdbcc8b82f1a0288d58e55faa92a193f501869f2e7cf9"), looks := false }, kinds := [], alts := [], laidByText := true, laidKinds := [.data], laidTests := true, laidLooks := .later }
def SealTurnedCardSaid : Prop := Claim7.holds Tryd.pinned (.plain (OpenSpec.ofChange sealTurnedSpec)) sealTurnedCard

/-- THE TIED CARD OF 'grapevinelaw01.SealScans'. -/
def sealScansCard : Claim7 := { stood := { row := sealScansRow, standIns := [], harness := (true, "a503d27747301f3e562fdbcc8b82f1a0288d58e55faa92a193f501869f2e7cf9"), looks := false }, kinds := [], alts := [], laidByText := true, laidKinds := [.data], laidTests := true, laidLooks := .later }
def SealScansCardSaid : Prop := Claim7.holds Tryd.pinned (.plain (OpenSpec.ofChange sealScansSpec)) sealScansCard

/-- THE TIED CARD OF 'grapevinelaw01.SealFinds'. -/
def sealFindsCard : Claim7 := { stood := { row := sealFindsRow, standIns := [], harness := (true, "a503d27747301f3e562fdbcc8b82f1a0288d58e55faa92a193f501869f2e7cf9"), looks := false }, kinds := [], alts := [], laidByText := true, laidKinds := [.data], laidTests := true, laidLooks := .later }
def SealFindsCardSaid : Prop := Claim7.holds Tryd.pinned (.plain (OpenSpec.ofChange sealFindsSpec)) sealFindsCard

/-- THE TIED CARD OF 'grapevinelaw01.SealOwn'. -/
def sealOwnCard : Claim7 := { stood := { row := sealOwnRow, standIns := [], harness := (true, "a503d27747301f3e562fdbcc8b82f1a0288d58e55faa92a193f501869f2e7cf9"), looks := false }, kinds := [], alts := [], laidByText := true, laidKinds := [.data], laidTests := true, laidLooks := .later }
def SealOwnCardSaid : Prop := Claim7.holds Tryd.pinned (.plain (OpenSpec.ofChange sealOwnSpec)) sealOwnCard

/-- THE SECOND FORM's CARD OF 'grapevinelaw01.SealSums'. -/
def sealSumsUptoCard : Claim7 := { stood := { row := sealSumsUptoRow, standIns := [], harness := (true, "a503d27747301f3e562fdbcc8b82f1a0288d58e55faa92a193f501869f2e7cf9"), looks := false }, kinds := [], alts := [], laidByText := true, laidKinds := [.data], laidTests := true, laidLooks := .later }
def SealSumsUptoCardSaid : Prop := Claim7.holds Tryd.pinned (.plain (OpenSpec.upto sealSumsSpec)) sealSumsUptoCard

/-- THE SECOND FORM's CARD OF 'grapevinelaw01.SealJoined'. -/
def sealJoinedUptoCard : Claim7 := { stood := { row := sealJoinedUptoRow, standIns := [], harness := (true, "a503d27747301f3e562fdbcc8b82f1a0288d58e55faa92a193f501869f2e7cf9"), looks := false }, kinds := [], alts := [], laidByText := true, laidKinds := [.data], laidTests := true, laidLooks := .later }
def SealJoinedUptoCardSaid : Prop := Claim7.holds Tryd.pinned (.plain (OpenSpec.upto sealJoinedSpec)) sealJoinedUptoCard

/-- THE SECOND FORM's CARD OF 'grapevinelaw01.SealRests'. -/
def sealRestsUptoCard : Claim7 := { stood := { row := sealRestsUptoRow, standIns := [], harness := (true, "a503d27747301f3e562fdbcc8b82f1a0288d58e55faa92a193f501869f2e7cf9"), looks := false }, kinds := [], alts := [], laidByText := true, laidKinds := [.data], laidTests := true, laidLooks := .later }
def SealRestsUptoCardSaid : Prop := Claim7.holds Tryd.pinned (.plain (OpenSpec.upto sealRestsSpec)) sealRestsUptoCard

/-- THE SECOND FORM's CARD OF 'grapevinelaw01.SealApart'. -/
def sealApartUptoCard : Claim7 := { stood := { row := sealApartUptoRow, standIns := [], harness := (true, "a503d27747301f3e562fdbcc8b82f1a0288d58e55faa92a193f501869f2e7cf9"), looks := false }, kinds := [], alts := [], laidByText := true, laidKinds := [.data], laidTests := true, laidLooks := .later }
def SealApartUptoCardSaid : Prop := Claim7.holds Tryd.pinned (.plain (OpenSpec.upto sealApartSpec)) sealApartUptoCard

/-- THE SECOND FORM's CARD OF 'grapevinelaw01.SealLays'. -/
def sealLaysUptoCard : Claim7 := { stood := { row := sealLaysUptoRow, standIns := [], harness := (true, "a503d27747301f3e562fdbcc8b82f1a0288d58e55faa92a193f501869f2e7cf9"), looks := false }, kinds := [], alts := [], laidByText := true, laidKinds := [.data], laidTests := true, laidLooks := .later }
def SealLaysUptoCardSaid : Prop := Claim7.holds Tryd.pinned (.plain (OpenSpec.upto sealLaysSpec)) sealLaysUptoCard

/-- THE SECOND FORM's CARD OF 'grapevinelaw01.SealOpens'. -/
def sealOpensUptoCard : Claim7 := { stood := { row := sealOpensUptoRow, standIns := [], harness := (true, "a503d27747301f3e562fdbcc8b82f1a0288d58e55faa92a193f501869f2e7cf9"), looks := false }, kinds := [], alts := [], laidByText := true, laidKinds := [.data], laidTests := true, laidLooks := .later }
def SealOpensUptoCardSaid : Prop := Claim7.holds Tryd.pinned (.plain (OpenSpec.upto sealOpensSpec)) sealOpensUptoCard

/-- THE SECOND FORM's CARD OF 'grapevinelaw01.SealBack'. -/
def sealBackUptoCard : Claim7 := { stood := { row := sealBackUptoRow, standIns := [], harness := (true, "a503d27747301f3e562fdbcc8b82f1a0288d58e55faa92a193f501869f2e7cf9"), looks := false }, kinds := [], alts := [], laidByText := true, laidKinds := [.data], laidTests := true, laidLooks := .later }
def SealBackUptoCardSaid : Prop := Claim7.holds Tryd.pinned (.plain (OpenSpec.upto sealBackSpec)) sealBackUptoCard

/-- THE SECOND FORM's CARD OF 'grapevinelaw01.SealCuts'. -/
def sealCutsUptoCard : Claim7 := { stood := { row := sealCutsUptoRow, standIns := [], harness := (true, "a503d27747301f3e562fdbcc8b82f1a0288d58e55faa92a193f501869f2e7cf9"), looks := false }, kinds := [], alts := [], laidByText := true, laidKinds := [.data], laidTests := true, laidLooks := .later }
def SealCutsUptoCardSaid : Prop := Claim7.holds Tryd.pinned (.plain (OpenSpec.upto sealCutsSpec)) sealCutsUptoCard

/-- THE SECOND FORM's CARD OF 'grapevinelaw01.SealTurned'. -/
def sealTurnedUptoCard : Claim7 := { stood := { row := sealTurnedUptoRow, standIns := [], harness := (true, "a503d27747301f3e562fdbcc8b82f1a0288d58e55faa92a193f501869f2e7cf9"), looks := false }, kinds := [], alts := [], laidByText := true, laidKinds := [.data], laidTests := true, laidLooks := .later }
def SealTurnedUptoCardSaid : Prop := Claim7.holds Tryd.pinned (.plain (OpenSpec.upto sealTurnedSpec)) sealTurnedUptoCard

/-- THE SECOND FORM's CARD OF 'grapevinelaw01.SealScans'. -/
def sealScansUptoCard : Claim7 := { stood := { row := sealScansUptoRow, standIns := [], harness := (true, "a503d27747301f3e562fdbcc8b82f1a0288d58e55faa92a193f501869f2e7cf9"), looks := false }, kinds := [], alts := [], laidByText := true, laidKinds := [.data], laidTests := true, laidLooks := .later }
def SealScansUptoCardSaid : Prop := Claim7.holds Tryd.pinned (.plain (OpenSpec.upto sealScansSpec)) sealScansUptoCard

/-- THE SECOND FORM's CARD OF 'grapevinelaw01.SealFinds'. -/
def sealFindsUptoCard : Claim7 := { stood := { row := sealFindsUptoRow, standIns := [], harness := (true, "a503d27747301f3e562fdbcc8b82f1a0288d58e55faa92a193f501869f2e7cf9"), looks := false }, kinds := [], alts := [], laidByText := true, laidKinds := [.data], laidTests := true, laidLooks := .later }
def SealFindsUptoCardSaid : Prop := Claim7.holds Tryd.pinned (.plain (OpenSpec.upto sealFindsSpec)) sealFindsUptoCard

/-- THE SECOND FORM's CARD OF 'grapevinelaw01.SealOwn'. -/
def sealOwnUptoCard : Claim7 := { stood := { row := sealOwnUptoRow, standIns := [], harness := (true, "a503d27747301f3e562fdbcc8b82f1a0288d58e55faa92a193f501869f2e7cf9"), looks := false }, kinds := [], alts := [], laidByText := true, laidKinds := [.data], laidTests := true, laidLooks := .later }
def SealOwnUptoCardSaid : Prop := Claim7.holds Tryd.pinned (.plain (OpenSpec.upto sealOwnSpec)) sealOwnUptoCard
end Rows
end Go.Proofs.YtnbhlaoblnalpaaDoor
