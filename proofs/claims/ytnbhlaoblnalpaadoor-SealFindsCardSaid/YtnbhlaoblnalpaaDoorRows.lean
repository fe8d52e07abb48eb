/-
  NARROWER THAN 'FOR EVERY INPUT', by the rows' own cells (each row's printed sentence says how): SealSums: laid · SealJoined: laid · SealRests: laid · SealApart: laid · SealLays: laid · SealOpens: laid · SealBack: laid · SealCuts: laid · SealTurned: laid · SealScans: laid · SealFinds: laid · SealOwn: laid.
  DERIVED. THE GIVEN ROWS OF THIS SEAT. 12 by the template 'for every input the law returns true; each argument reads behind the call as it read before'; 0 by the template 'total and deterministic' (their statements: YtnbhlaoblnalpaaDoorTotals.lean).
  GIVEN WITH THE SEED: the statements are not yours to turn. If you find one false, say at which input.
  Laid BY PROGRAM, IN A SANDBOX (cutbox-rows.mjs): the forced cells as the released guide's own fill.sh prints them over the translation 22d563de6b258f1d… (all of the seat's roots in one cut). By AI agents, Wed Nov 11 2026. No macro, syntax, notation, axiom, sorry.
-/
import Derived.Test.YtnbhlaoblnalpaaDoorChecked
import GoSem.Claim
import GoSem.ClaimJoined
import GoSem.ClaimMapViews
import Derived.JoinedTies
import Derived.KernelRfl
namespace Go.Proofs.YtnbhlaoblnalpaaDoor
/- THE CELL 'sum', in the pinned program and in every row, IS THE sha256 OF THE DUMP (.gsa) THAT YtnbhlaoblnalpaaDoorProg.lean LOADS. Nothing in Lean hashes anything: it is a label: what it is worth is what the hold of that sum in a sandbox is worth. -/
noncomputable def Tryd.pinned : Pinned := { name := "ytnbhlaoblnalpaadoor", sum := "22d563de6b258f1d644f49a53bb20cc200323fc7e4916789366478e913320af4", checked := Tryd.checked }
namespace Rows
def none {H : Type} : Left H := { results := [], args := [] }

/- WHAT THE LISTED PACKAGE-LEVEL VARIABLES READ AS WHEN THE CALL BEGINS. Each datum BY PROGRAM (the guide's laid-datum.mjs) off the statement by which the dump's own 'gosem.cut.vars' lays the variable. In a bare row this is a premise. The card (YtnbhlaoblnalpaaDoorCards.lean) ties it to the program's text. -/
def laid_grapevine_seal_half {H : Type} : DataW H := .agg [.lit (.int .u32 0), .lit (.int .u32 274646895), .lit (.int .u32 549293790), .lit (.int .u32 820201905), .lit (.int .u32 1098587580), .lit (.int .u32 1361435347), .lit (.int .u32 1640403810), .lit (.int .u32 1905808397), .lit (.int .u32 2197175160), .lit (.int .u32 2460548119), .lit (.int .u32 2722870694), .lit (.int .u32 2987750089), .lit (.int .u32 3280807620), .lit (.int .u32 3553878443), .lit (.int .u32 3811616794), .lit (.int .u32 4084100981)]

/-- 'grapevinelaw01.SealSums': WHATEVER THE INPUT: true; the input reads as it did. -/
def sealSumsSpec : ChangeSpec := { name := "sealSums", fn := fun _ => fun
  | [d1, d2] => { results := [.lit (.bool true)], args := [d1, d2] }
  | _ => none }
def sealSumsRow : OpenClaim := { program := "ytnbhlaoblnalpaadoor", sum := "22d563de6b258f1d644f49a53bb20cc200323fc7e4916789366478e913320af4", func := "grapevine/grapevinelaw01.SealSums", spec := "sealSums", named := ["grapevine/seal.half"], apart := false, laid := [("grapevine/seal.half", laid_grapevine_seal_half)] }
def SealSumsSaid : Prop := sealSumsRow.holds Tryd.pinned (OpenSpec.ofChange sealSumsSpec)

/-- ITS FALSE NEIGHBOUR: 'it returns false'. Refute it at one input. -/
def sealSumsWrong : ChangeSpec := { name := "sealSums", fn := fun _ => fun
  | [d1, d2] => { results := [.lit (.bool false)], args := [d1, d2] }
  | _ => none }
def SealSumsWrongFalsely : Prop := sealSumsRow.holds Tryd.pinned (OpenSpec.ofChange sealSumsWrong)

/-- 'grapevinelaw01.SealJoined': WHATEVER THE INPUT: true; the input reads as it did. -/
def sealJoinedSpec : ChangeSpec := { name := "sealJoined", fn := fun _ => fun
  | [d1, d2] => { results := [.lit (.bool true)], args := [d1, d2] }
  | _ => none }
def sealJoinedRow : OpenClaim := { program := "ytnbhlaoblnalpaadoor", sum := "22d563de6b258f1d644f49a53bb20cc200323fc7e4916789366478e913320af4", func := "grapevine/grapevinelaw01.SealJoined", spec := "sealJoined", named := ["grapevine/seal.half"], apart := false, laid := [("grapevine/seal.half", laid_grapevine_seal_half)] }
def SealJoinedSaid : Prop := sealJoinedRow.holds Tryd.pinned (OpenSpec.ofChange sealJoinedSpec)

/-- ITS FALSE NEIGHBOUR: 'it returns false'. Refute it at one input. -/
def sealJoinedWrong : ChangeSpec := { name := "sealJoined", fn := fun _ => fun
  | [d1, d2] => { results := [.lit (.bool false)], args := [d1, d2] }
  | _ => none }
def SealJoinedWrongFalsely : Prop := sealJoinedRow.holds Tryd.pinned (OpenSpec.ofChange sealJoinedWrong)

/-- 'grapevinelaw01.SealRests': WHATEVER THE INPUT: true; the input reads as it did. -/
def sealRestsSpec : ChangeSpec := { name := "sealRests", fn := fun _ => fun
  | [d] => { results := [.lit (.bool true)], args := [d] }
  | _ => none }
def sealRestsRow : OpenClaim := { program := "ytnbhlaoblnalpaadoor", sum := "22d563de6b258f1d644f49a53bb20cc200323fc7e4916789366478e913320af4", func := "grapevine/grapevinelaw01.SealRests", spec := "sealRests", named := ["grapevine/seal.half"], apart := false, laid := [("grapevine/seal.half", laid_grapevine_seal_half)] }
def SealRestsSaid : Prop := sealRestsRow.holds Tryd.pinned (OpenSpec.ofChange sealRestsSpec)

/-- ITS FALSE NEIGHBOUR: 'it returns false'. Refute it at one input. -/
def sealRestsWrong : ChangeSpec := { name := "sealRests", fn := fun _ => fun
  | [d] => { results := [.lit (.bool false)], args := [d] }
  | _ => none }
def SealRestsWrongFalsely : Prop := sealRestsRow.holds Tryd.pinned (OpenSpec.ofChange sealRestsWrong)

/-- 'grapevinelaw01.SealApart': WHATEVER THE INPUT: true; the input reads as it did. -/
def sealApartSpec : ChangeSpec := { name := "sealApart", fn := fun _ => fun
  | [d1, d2, d3] => { results := [.lit (.bool true)], args := [d1, d2, d3] }
  | _ => none }
def sealApartRow : OpenClaim := { program := "ytnbhlaoblnalpaadoor", sum := "22d563de6b258f1d644f49a53bb20cc200323fc7e4916789366478e913320af4", func := "grapevine/grapevinelaw01.SealApart", spec := "sealApart", named := ["grapevine/seal.half"], apart := false, laid := [("grapevine/seal.half", laid_grapevine_seal_half)] }
def SealApartSaid : Prop := sealApartRow.holds Tryd.pinned (OpenSpec.ofChange sealApartSpec)

/-- ITS FALSE NEIGHBOUR: 'it returns false'. Refute it at one input. -/
def sealApartWrong : ChangeSpec := { name := "sealApart", fn := fun _ => fun
  | [d1, d2, d3] => { results := [.lit (.bool false)], args := [d1, d2, d3] }
  | _ => none }
def SealApartWrongFalsely : Prop := sealApartRow.holds Tryd.pinned (OpenSpec.ofChange sealApartWrong)

/-- 'grapevinelaw01.SealLays': WHATEVER THE INPUT: true; the input reads as it did. -/
def sealLaysSpec : ChangeSpec := { name := "sealLays", fn := fun _ => fun
  | [d1, d2] => { results := [.lit (.bool true)], args := [d1, d2] }
  | _ => none }
def sealLaysRow : OpenClaim := { program := "ytnbhlaoblnalpaadoor", sum := "22d563de6b258f1d644f49a53bb20cc200323fc7e4916789366478e913320af4", func := "grapevine/grapevinelaw01.SealLays", spec := "sealLays", named := ["grapevine/seal.half"], apart := false, laid := [("grapevine/seal.half", laid_grapevine_seal_half)] }
def SealLaysSaid : Prop := sealLaysRow.holds Tryd.pinned (OpenSpec.ofChange sealLaysSpec)

/-- ITS FALSE NEIGHBOUR: 'it returns false'. Refute it at one input. -/
def sealLaysWrong : ChangeSpec := { name := "sealLays", fn := fun _ => fun
  | [d1, d2] => { results := [.lit (.bool false)], args := [d1, d2] }
  | _ => none }
def SealLaysWrongFalsely : Prop := sealLaysRow.holds Tryd.pinned (OpenSpec.ofChange sealLaysWrong)

/-- 'grapevinelaw01.SealOpens': WHATEVER THE INPUT: true; the input reads as it did. -/
def sealOpensSpec : ChangeSpec := { name := "sealOpens", fn := fun _ => fun
  | [d1, d2] => { results := [.lit (.bool true)], args := [d1, d2] }
  | _ => none }
def sealOpensRow : OpenClaim := { program := "ytnbhlaoblnalpaadoor", sum := "22d563de6b258f1d644f49a53bb20cc200323fc7e4916789366478e913320af4", func := "grapevine/grapevinelaw01.SealOpens", spec := "sealOpens", named := ["grapevine/seal.half"], apart := false, laid := [("grapevine/seal.half", laid_grapevine_seal_half)] }
def SealOpensSaid : Prop := sealOpensRow.holds Tryd.pinned (OpenSpec.ofChange sealOpensSpec)

/-- ITS FALSE NEIGHBOUR: 'it returns false'. Refute it at one input. -/
def sealOpensWrong : ChangeSpec := { name := "sealOpens", fn := fun _ => fun
  | [d1, d2] => { results := [.lit (.bool false)], args := [d1, d2] }
  | _ => none }
def SealOpensWrongFalsely : Prop := sealOpensRow.holds Tryd.pinned (OpenSpec.ofChange sealOpensWrong)

/-- 'grapevinelaw01.SealBack': WHATEVER THE INPUT: true; the input reads as it did. -/
def sealBackSpec : ChangeSpec := { name := "sealBack", fn := fun _ => fun
  | [d1, d2] => { results := [.lit (.bool true)], args := [d1, d2] }
  | _ => none }
def sealBackRow : OpenClaim := { program := "ytnbhlaoblnalpaadoor", sum := "22d563de6b258f1d644f49a53bb20cc200323fc7e4916789366478e913320af4", func := "grapevine/grapevinelaw01.SealBack", spec := "sealBack", named := ["grapevine/seal.half"], apart := false, laid := [("grapevine/seal.half", laid_grapevine_seal_half)] }
def SealBackSaid : Prop := sealBackRow.holds Tryd.pinned (OpenSpec.ofChange sealBackSpec)

/-- ITS FALSE NEIGHBOUR: 'it returns false'. Refute it at one input. -/
def sealBackWrong : ChangeSpec := { name := "sealBack", fn := fun _ => fun
  | [d1, d2] => { results := [.lit (.bool false)], args := [d1, d2] }
  | _ => none }
def SealBackWrongFalsely : Prop := sealBackRow.holds Tryd.pinned (OpenSpec.ofChange sealBackWrong)

/-- 'grapevinelaw01.SealCuts': WHATEVER THE INPUT: true; the input reads as it did. -/
def sealCutsSpec : ChangeSpec := { name := "sealCuts", fn := fun _ => fun
  | [d1, d2, d3] => { results := [.lit (.bool true)], args := [d1, d2, d3] }
  | _ => none }
def sealCutsRow : OpenClaim := { program := "ytnbhlaoblnalpaadoor", sum := "22d563de6b258f1d644f49a53bb20cc200323fc7e4916789366478e913320af4", func := "grapevine/grapevinelaw01.SealCuts", spec := "sealCuts", named := ["grapevine/seal.half"], apart := false, laid := [("grapevine/seal.half", laid_grapevine_seal_half)] }
def SealCutsSaid : Prop := sealCutsRow.holds Tryd.pinned (OpenSpec.ofChange sealCutsSpec)

/-- ITS FALSE NEIGHBOUR: 'it returns false'. Refute it at one input. -/
def sealCutsWrong : ChangeSpec := { name := "sealCuts", fn := fun _ => fun
  | [d1, d2, d3] => { results := [.lit (.bool false)], args := [d1, d2, d3] }
  | _ => none }
def SealCutsWrongFalsely : Prop := sealCutsRow.holds Tryd.pinned (OpenSpec.ofChange sealCutsWrong)

/-- 'grapevinelaw01.SealTurned': WHATEVER THE INPUT: true; the input reads as it did. -/
def sealTurnedSpec : ChangeSpec := { name := "sealTurned", fn := fun _ => fun
  | [d1, d2, d3] => { results := [.lit (.bool true)], args := [d1, d2, d3] }
  | _ => none }
def sealTurnedRow : OpenClaim := { program := "ytnbhlaoblnalpaadoor", sum := "22d563de6b258f1d644f49a53bb20cc200323fc7e4916789366478e913320af4", func := "grapevine/grapevinelaw01.SealTurned", spec := "sealTurned", named := ["grapevine/seal.half"], apart := false, laid := [("grapevine/seal.half", laid_grapevine_seal_half)] }
def SealTurnedSaid : Prop := sealTurnedRow.holds Tryd.pinned (OpenSpec.ofChange sealTurnedSpec)

/-- ITS FALSE NEIGHBOUR: 'it returns false'. Refute it at one input. -/
def sealTurnedWrong : ChangeSpec := { name := "sealTurned", fn := fun _ => fun
  | [d1, d2, d3] => { results := [.lit (.bool false)], args := [d1, d2, d3] }
  | _ => none }
def SealTurnedWrongFalsely : Prop := sealTurnedRow.holds Tryd.pinned (OpenSpec.ofChange sealTurnedWrong)

/-- 'grapevinelaw01.SealScans': WHATEVER THE INPUT: true; the input reads as it did. -/
def sealScansSpec : ChangeSpec := { name := "sealScans", fn := fun _ => fun
  | [d] => { results := [.lit (.bool true)], args := [d] }
  | _ => none }
def sealScansRow : OpenClaim := { program := "ytnbhlaoblnalpaadoor", sum := "22d563de6b258f1d644f49a53bb20cc200323fc7e4916789366478e913320af4", func := "grapevine/grapevinelaw01.SealScans", spec := "sealScans", named := ["grapevine/seal.half"], apart := false, laid := [("grapevine/seal.half", laid_grapevine_seal_half)] }
def SealScansSaid : Prop := sealScansRow.holds Tryd.pinned (OpenSpec.ofChange sealScansSpec)

/-- ITS FALSE NEIGHBOUR: 'it returns false'. Refute it at one input. -/
def sealScansWrong : ChangeSpec := { name := "sealScans", fn := fun _ => fun
  | [d] => { results := [.lit (.bool false)], args := [d] }
  | _ => none }
def SealScansWrongFalsely : Prop := sealScansRow.holds Tryd.pinned (OpenSpec.ofChange sealScansWrong)

/-- 'grapevinelaw01.SealFinds': WHATEVER THE INPUT: true; the input reads as it did. -/
def sealFindsSpec : ChangeSpec := { name := "sealFinds", fn := fun _ => fun
  | [d1, d2, d3] => { results := [.lit (.bool true)], args := [d1, d2, d3] }
  | _ => none }
def sealFindsRow : OpenClaim := { program := "ytnbhlaoblnalpaadoor", sum := "22d563de6b258f1d644f49a53bb20cc200323fc7e4916789366478e913320af4", func := "grapevine/grapevinelaw01.SealFinds", spec := "sealFinds", named := ["grapevine/seal.half"], apart := false, laid := [("grapevine/seal.half", laid_grapevine_seal_half)] }
def SealFindsSaid : Prop := sealFindsRow.holds Tryd.pinned (OpenSpec.ofChange sealFindsSpec)

/-- ITS FALSE NEIGHBOUR: 'it returns false'. Refute it at one input. -/
def sealFindsWrong : ChangeSpec := { name := "sealFinds", fn := fun _ => fun
  | [d1, d2, d3] => { results := [.lit (.bool false)], args := [d1, d2, d3] }
  | _ => none }
def SealFindsWrongFalsely : Prop := sealFindsRow.holds Tryd.pinned (OpenSpec.ofChange sealFindsWrong)

/-- 'grapevinelaw01.SealOwn': WHATEVER THE INPUT: true; the input reads as it did. -/
def sealOwnSpec : ChangeSpec := { name := "sealOwn", fn := fun _ => fun
  | [d1, d2] => { results := [.lit (.bool true)], args := [d1, d2] }
  | _ => none }
def sealOwnRow : OpenClaim := { program := "ytnbhlaoblnalpaadoor", sum := "22d563de6b258f1d644f49a53bb20cc200323fc7e4916789366478e913320af4", func := "grapevine/grapevinelaw01.SealOwn", spec := "sealOwn", named := ["grapevine/seal.half"], apart := false, laid := [("grapevine/seal.half", laid_grapevine_seal_half)] }
def SealOwnSaid : Prop := sealOwnRow.holds Tryd.pinned (OpenSpec.ofChange sealOwnSpec)

/-- ITS FALSE NEIGHBOUR: 'it returns false'. Refute it at one input. -/
def sealOwnWrong : ChangeSpec := { name := "sealOwn", fn := fun _ => fun
  | [d1, d2] => { results := [.lit (.bool false)], args := [d1, d2] }
  | _ => none }
def SealOwnWrongFalsely : Prop := sealOwnRow.holds Tryd.pinned (OpenSpec.ofChange sealOwnWrong)

/- THE SECOND FORM. 'bulk': how many values and letters a reading holds, each counted each time it is reached (what is shared counts as often as it is met; a slice's spare places count too). A statement '..UptoSaid' is the law's where the arguments, and the package variables that the reading takes, are together of bulk at most 1048576: NARROWER than '..Said'. Prove '..Said' where nothing that the law and all that it calls make is longer than what came in: it says more and counts as full. Else prove '..UptoSaid'. A law counts once. -/
mutual
def uptoBulk {H : Type} : DataW H → Nat
  | .lit (.string bytes) => bytes.length + 1
  | .lit _ => 1
  | .nil => 1
  | .ptr d => uptoBulk d + 1
  | .slice elems spare => uptoBulkAll elems + uptoBulkAll spare + 1
  | .agg parts => uptoBulkAll parts + 1
  | .iface _ d => uptoBulk d + 1
  | .map entries => uptoBulkEntries entries + 1
  | .held _ => 1
def uptoBulkAll {H : Type} : List (DataW H) → Nat
  | [] => 0
  | d :: r => uptoBulk d + uptoBulkAll r
def uptoBulkEntries {H : Type} : List (Lit × DataW H) → Nat
  | [] => 0
  | x :: r => uptoBulkEntry x + uptoBulkEntries r
def uptoBulkEntry {H : Type} : Lit × DataW H → Nat
  | (.string bytes, d) => bytes.length + uptoBulk d + 1
  | (_, d) => uptoBulk d + 1
 end
def uptoSmall : (H : Type) → List (DataW H) → Bool := fun _ ds => decide (uptoBulkAll ds ≤ 1048576)
def OpenSpec.upto (s : _root_.Go.ChangeSpec) : _root_.Go.OpenSpec := { _root_.Go.OpenSpec.ofChange s with cond := some uptoSmall }

/-- 'grapevinelaw01.SealSums', WHERE WHAT IT READS IS OF BULK AT MOST 1048576: true; the input reads as it did. -/
def sealSumsUptoRow : OpenClaim := { program := "ytnbhlaoblnalpaadoor", sum := "22d563de6b258f1d644f49a53bb20cc200323fc7e4916789366478e913320af4", func := "grapevine/grapevinelaw01.SealSums", spec := "sealSums", named := ["grapevine/seal.half"], apart := false, laid := [("grapevine/seal.half", laid_grapevine_seal_half)], narrowed := true }
def SealSumsUptoSaid : Prop := sealSumsUptoRow.holds Tryd.pinned (OpenSpec.upto sealSumsSpec)

/-- 'grapevinelaw01.SealJoined', WHERE WHAT IT READS IS OF BULK AT MOST 1048576: true; the input reads as it did. -/
def sealJoinedUptoRow : OpenClaim := { program := "ytnbhlaoblnalpaadoor", sum := "22d563de6b258f1d644f49a53bb20cc200323fc7e4916789366478e913320af4", func := "grapevine/grapevinelaw01.SealJoined", spec := "sealJoined", named := ["grapevine/seal.half"], apart := false, laid := [("grapevine/seal.half", laid_grapevine_seal_half)], narrowed := true }
def SealJoinedUptoSaid : Prop := sealJoinedUptoRow.holds Tryd.pinned (OpenSpec.upto sealJoinedSpec)

/-- 'grapevinelaw01.SealRests', WHERE WHAT IT READS IS OF BULK AT MOST 1048576: true; the input reads as it did. -/
def sealRestsUptoRow : OpenClaim := { program := "ytnbhlaoblnalpaadoor", sum := "22d563de6b258f1d644f49a53bb20cc200323fc7e4916789366478e913320af4", func := "grapevine/grapevinelaw01.SealRests", spec := "sealRests", named := ["grapevine/seal.half"], apart := false, laid := [("grapevine/seal.half", laid_grapevine_seal_half)], narrowed := true }
def SealRestsUptoSaid : Prop := sealRestsUptoRow.holds Tryd.pinned (OpenSpec.upto sealRestsSpec)

/-- 'grapevinelaw01.SealApart', WHERE WHAT IT READS IS OF BULK AT MOST 1048576: true; the input reads as it did. -/
def sealApartUptoRow : OpenClaim := { program := "ytnbhlaoblnalpaadoor", sum := "22d563de6b258f1d644f49a53bb20cc200323fc7e4916789366478e913320af4", func := "grapevine/grapevinelaw01.SealApart", spec := "sealApart", named := ["grapevine/seal.half"], apart := false, laid := [("grapevine/seal.half", laid_grapevine_seal_half)], narrowed := true }
def SealApartUptoSaid : Prop := sealApartUptoRow.holds Tryd.pinned (OpenSpec.upto sealApartSpec)

/-- 'grapevinelaw01.SealLays', WHERE WHAT IT READS IS OF BULK AT MOST 1048576: true; the input reads as it did. -/
def sealLaysUptoRow : OpenClaim := { program := "ytnbhlaoblnalpaadoor", sum := "22d563de6b258f1d644f49a53bb20cc200323fc7e4916789366478e913320af4", func := "grapevine/grapevinelaw01.SealLays", spec := "sealLays", named := ["grapevine/seal.half"], apart := false, laid := [("grapevine/seal.half", laid_grapevine_seal_half)], narrowed := true }
def SealLaysUptoSaid : Prop := sealLaysUptoRow.holds Tryd.pinned (OpenSpec.upto sealLaysSpec)

/-- 'grapevinelaw01.SealOpens', WHERE WHAT IT READS IS OF BULK AT MOST 1048576: true; the input reads as it did. -/
def sealOpensUptoRow : OpenClaim := { program := "ytnbhlaoblnalpaadoor", sum := "22d563de6b258f1d644f49a53bb20cc200323fc7e4916789366478e913320af4", func := "grapevine/grapevinelaw01.SealOpens", spec := "sealOpens", named := ["grapevine/seal.half"], apart := false, laid := [("grapevine/seal.half", laid_grapevine_seal_half)], narrowed := true }
def SealOpensUptoSaid : Prop := sealOpensUptoRow.holds Tryd.pinned (OpenSpec.upto sealOpensSpec)

/-- 'grapevinelaw01.SealBack', WHERE WHAT IT READS IS OF BULK AT MOST 1048576: true; the input reads as it did. -/
def sealBackUptoRow : OpenClaim := { program := "ytnbhlaoblnalpaadoor", sum := "22d563de6b258f1d644f49a53bb20cc200323fc7e4916789366478e913320af4", func := "grapevine/grapevinelaw01.SealBack", spec := "sealBack", named := ["grapevine/seal.half"], apart := false, laid := [("grapevine/seal.half", laid_grapevine_seal_half)], narrowed := true }
def SealBackUptoSaid : Prop := sealBackUptoRow.holds Tryd.pinned (OpenSpec.upto sealBackSpec)

/-- 'grapevinelaw01.SealCuts', WHERE WHAT IT READS IS OF BULK AT MOST 1048576: true; the input reads as it did. -/
def sealCutsUptoRow : OpenClaim := { program := "ytnbhlaoblnalpaadoor", sum := "22d563de6b258f1d644f49a53bb20cc200323fc7e4916789366478e913320af4", func := "grapevine/grapevinelaw01.SealCuts", spec := "sealCuts", named := ["grapevine/seal.half"], apart := false, laid := [("grapevine/seal.half", laid_grapevine_seal_half)], narrowed := true }
def SealCutsUptoSaid : Prop := sealCutsUptoRow.holds Tryd.pinned (OpenSpec.upto sealCutsSpec)

/-- 'grapevinelaw01.SealTurned', WHERE WHAT IT READS IS OF BULK AT MOST 1048576: true; the input reads as it did. -/
def sealTurnedUptoRow : OpenClaim := { program := "ytnbhlaoblnalpaadoor", sum := "22d563de6b258f1d644f49a53bb20cc200323fc7e4916789366478e913320af4", func := "grapevine/grapevinelaw01.SealTurned", spec := "sealTurned", named := ["grapevine/seal.half"], apart := false, laid := [("grapevine/seal.half", laid_grapevine_seal_half)], narrowed := true }
def SealTurnedUptoSaid : Prop := sealTurnedUptoRow.holds Tryd.pinned (OpenSpec.upto sealTurnedSpec)

/-- 'grapevinelaw01.SealScans', WHERE WHAT IT READS IS OF BULK AT MOST 1048576: true; the input reads as it did. -/
def sealScansUptoRow : OpenClaim := { program := "ytnbhlaoblnalpaadoor", sum := "22d563de6b258f1d644f49a53bb20cc200323fc7e4916789366478e913320af4", func := "grapevine/grapevinelaw01.SealScans", spec := "sealScans", named := ["grapevine/seal.half"], apart := false, laid := [("grapevine/seal.half", laid_grapevine_seal_half)], narrowed := true }
def SealScansUptoSaid : Prop := sealScansUptoRow.holds Tryd.pinned (OpenSpec.upto sealScansSpec)

/-- 'grapevinelaw01.SealFinds', WHERE WHAT IT READS IS OF BULK AT MOST 1048576: true; the input reads as it did. -/
def sealFindsUptoRow : OpenClaim := { program := "ytnbhlaoblnalpaadoor", sum := "22d563de6b258f1d644f49a53bb20cc200323fc7e4916789366478e913320af4", func := "grapevine/grapevinelaw01.SealFinds", spec := "sealFinds", named := ["grapevine/seal.half"], apart := false, laid := [("grapevine/seal.half", laid_grapevine_seal_half)], narrowed := true }
def SealFindsUptoSaid : Prop := sealFindsUptoRow.holds Tryd.pinned (OpenSpec.upto sealFindsSpec)

/-- 'grapevinelaw01.SealOwn', WHERE WHAT IT READS IS OF BULK AT MOST 1048576: true; the input reads as it did. -/
def sealOwnUptoRow : OpenClaim := { program := "ytnbhlaoblnalpaadoor", sum := "22d563de6b258f1d644f49a53bb20cc200323fc7e4916789366478e913320af4", func := "grapevine/grapevinelaw01.SealOwn", spec := "sealOwn", named := ["grapevine/seal.half"], apart := false, laid := [("grapevine/seal.half", laid_grapevine_seal_half)], narrowed := true }
def SealOwnUptoSaid : Prop := sealOwnUptoRow.holds Tryd.pinned (OpenSpec.upto sealOwnSpec)

end Rows
end Go.Proofs.YtnbhlaoblnalpaaDoor
