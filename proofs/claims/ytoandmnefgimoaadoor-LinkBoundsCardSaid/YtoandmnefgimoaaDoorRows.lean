/-
  NARROWER THAN 'FOR EVERY INPUT', by the rows' own cells (each row's printed sentence says how): LinkOnce: laid · LinkBounds: laid · LinkProbes: laid · LinkNone: laid.
  DERIVED. THE GIVEN ROWS OF THIS SEAT. 4 by the template 'for every input the law returns true; each argument reads behind the call as it read before'; 0 by the template 'total and deterministic' (their statements: YtoandmnefgimoaaDoorTotals.lean).
  GIVEN WITH THE SEED: the statements are not yours to turn. If you find one false, say at which input.
  Laid BY PROGRAM, IN A SANDBOX (cutbox-rows.mjs): the forced cells as the released guide's own fill.sh prints them over the translation 08b73a66995b41ee… (all of the seat's roots in one cut). By AI agents, Wed Nov 11 2026. No macro, syntax, notation, axiom, sorry.
-/
import Derived.Test.YtoandmnefgimoaaDoorChecked
import GoSem.Claim
import GoSem.ClaimJoined
import GoSem.ClaimMapViews
import Derived.JoinedTies
import Derived.KernelRfl
namespace Go.Proofs.YtoandmnefgimoaaDoor
/- THE CELL 'sum', in the pinned program and in every row, IS THE sha256 OF THE DUMP (.gsa) THAT YtoandmnefgimoaaDoorProg.lean LOADS. Nothing in Lean hashes anything: it is a label: what it is worth is what the hold of that sum in a sandbox is worth. -/
noncomputable def Tryd.pinned : Pinned := { name := "ytoandmnefgimoaadoor", sum := "08b73a66995b41ee8a034e1ff771758fe743bc892ada9d3add5e428792ccef72", checked := Tryd.checked }
namespace Rows
def none {H : Type} : Left H := { results := [], args := [] }

/- WHAT THE LISTED PACKAGE-LEVEL VARIABLES READ AS WHEN THE CALL BEGINS. Each datum BY PROGRAM (the guide's laid-datum.mjs) off the statement by which the dump's own 'gosem.cut.vars' lays the variable. In a bare row this is a premise. The card (YtoandmnefgimoaaDoorCards.lean) ties it to the program's text. -/
def laid_grapevine_seal_half {H : Type} : DataW H := .agg [.lit (.int .u32 0), .lit (.int .u32 274646895), .lit (.int .u32 549293790), .lit (.int .u32 820201905), .lit (.int .u32 1098587580), .lit (.int .u32 1361435347), .lit (.int .u32 1640403810), .lit (.int .u32 1905808397), .lit (.int .u32 2197175160), .lit (.int .u32 2460548119), .lit (.int .u32 2722870694), .lit (.int .u32 2987750089), .lit (.int .u32 3280807620), .lit (.int .u32 3553878443), .lit (.int .u32 3811616794), .lit (.int .u32 4084100981)]

/-- 'grapevinelaw14.LinkOnce': WHATEVER THE INPUT: true; the input reads as it did. -/
def linkOnceSpec : ChangeSpec := { name := "linkOnce", fn := fun _ => fun
  | [d] => { results := [.lit (.bool true)], args := [d] }
  | _ => none }
def linkOnceRow : OpenClaim := { program := "ytoandmnefgimoaadoor", sum := "08b73a66995b41ee8a034e1ff771758fe743bc892ada9d3add5e428792ccef72", func := "grapevine/grapevinelaw14.LinkOnce", spec := "linkOnce", unfollowed := true, recurses := true, named := ["grapevine/seal.half"], apart := false, laid := [("grapevine/seal.half", laid_grapevine_seal_half)] }
def LinkOnceSaid : Prop := linkOnceRow.holds Tryd.pinned (OpenSpec.ofChange linkOnceSpec)

/-- ITS FALSE NEIGHBOUR: 'it returns false'. Refute it at one input. -/
def linkOnceWrong : ChangeSpec := { name := "linkOnce", fn := fun _ => fun
  | [d] => { results := [.lit (.bool false)], args := [d] }
  | _ => none }
def LinkOnceWrongFalsely : Prop := linkOnceRow.holds Tryd.pinned (OpenSpec.ofChange linkOnceWrong)

/-- 'grapevinelaw14.LinkBounds': WHATEVER THE INPUT: true; the input reads as it did. -/
def linkBoundsSpec : ChangeSpec := { name := "linkBounds", fn := fun _ => fun
  | [d1, d2] => { results := [.lit (.bool true)], args := [d1, d2] }
  | _ => none }
def linkBoundsRow : OpenClaim := { program := "ytoandmnefgimoaadoor", sum := "08b73a66995b41ee8a034e1ff771758fe743bc892ada9d3add5e428792ccef72", func := "grapevine/grapevinelaw14.LinkBounds", spec := "linkBounds", unfollowed := true, recurses := true, named := ["grapevine/seal.half"], apart := false, laid := [("grapevine/seal.half", laid_grapevine_seal_half)] }
def LinkBoundsSaid : Prop := linkBoundsRow.holds Tryd.pinned (OpenSpec.ofChange linkBoundsSpec)

/-- ITS FALSE NEIGHBOUR: 'it returns false'. Refute it at one input. -/
def linkBoundsWrong : ChangeSpec := { name := "linkBounds", fn := fun _ => fun
  | [d1, d2] => { results := [.lit (.bool false)], args := [d1, d2] }
  | _ => none }
def LinkBoundsWrongFalsely : Prop := linkBoundsRow.holds Tryd.pinned (OpenSpec.ofChange linkBoundsWrong)

/-- 'grapevinelaw14.LinkProbes': WHATEVER THE INPUT: true; the input reads as it did. -/
def linkProbesSpec : ChangeSpec := { name := "linkProbes", fn := fun _ => fun
  | [d1, d2, d3] => { results := [.lit (.bool true)], args := [d1, d2, d3] }
  | _ => none }
def linkProbesRow : OpenClaim := { program := "ytoandmnefgimoaadoor", sum := "08b73a66995b41ee8a034e1ff771758fe743bc892ada9d3add5e428792ccef72", func := "grapevine/grapevinelaw14.LinkProbes", spec := "linkProbes", unfollowed := true, recurses := true, named := ["grapevine/seal.half"], apart := false, laid := [("grapevine/seal.half", laid_grapevine_seal_half)] }
def LinkProbesSaid : Prop := linkProbesRow.holds Tryd.pinned (OpenSpec.ofChange linkProbesSpec)

/-- ITS FALSE NEIGHBOUR: 'it returns false'. Refute it at one input. -/
def linkProbesWrong : ChangeSpec := { name := "linkProbes", fn := fun _ => fun
  | [d1, d2, d3] => { results := [.lit (.bool false)], args := [d1, d2, d3] }
  | _ => none }
def LinkProbesWrongFalsely : Prop := linkProbesRow.holds Tryd.pinned (OpenSpec.ofChange linkProbesWrong)

/-- 'grapevinelaw14.LinkNone': WHATEVER THE INPUT: true; the input reads as it did. -/
def linkNoneSpec : ChangeSpec := { name := "linkNone", fn := fun _ => fun
  | [d1, d2, d3] => { results := [.lit (.bool true)], args := [d1, d2, d3] }
  | _ => none }
def linkNoneRow : OpenClaim := { program := "ytoandmnefgimoaadoor", sum := "08b73a66995b41ee8a034e1ff771758fe743bc892ada9d3add5e428792ccef72", func := "grapevine/grapevinelaw14.LinkNone", spec := "linkNone", unfollowed := true, recurses := true, named := ["grapevine/seal.half"], apart := false, laid := [("grapevine/seal.half", laid_grapevine_seal_half)] }
def LinkNoneSaid : Prop := linkNoneRow.holds Tryd.pinned (OpenSpec.ofChange linkNoneSpec)

/-- ITS FALSE NEIGHBOUR: 'it returns false'. Refute it at one input. -/
def linkNoneWrong : ChangeSpec := { name := "linkNone", fn := fun _ => fun
  | [d1, d2, d3] => { results := [.lit (.bool false)], args := [d1, d2, d3] }
  | _ => none }
def LinkNoneWrongFalsely : Prop := linkNoneRow.holds Tryd.pinned (OpenSpec.ofChange linkNoneWrong)

/- THE SECOND FORM. 'bulk': how many values and letters a reading holds, each counted each time it is reached (what is shared counts as often as it is met; a slice's spare places count too). A statement '..UptoSaid' is the law's where the arguments, and the package variables that the reading takes, are together of bulk at most 1048576: NARROWER than '..Said'. Prove '..Said' where nothing that the law and all that it calls make is longer than what came in: it says more and counts as full. Else prove '..UptoSaid'. A law counts once. -/
mutual
def uptoBulk {H : Type} : DataW H → Nat
  | .lit (.string bytes) => bytes.length + 1
  | .lit _ => 1
  | .nil => 1
  | .ptr d => uptoBulk d + 1
  | .slice elems spare => uptoBulkAll elems + uptoBulkAll spare + 1
  | .agg parts => uptoBulkAll parts + 1
  | .iface _ d => uptoBulk d + 1
  | .map entries => uptoBulkEntries entries + 1
  | .held _ => 1
def uptoBulkAll {H : Type} : List (DataW H) → Nat
  | [] => 0
  | d :: r => uptoBulk d + uptoBulkAll r
def uptoBulkEntries {H : Type} : List (Lit × DataW H) → Nat
  | [] => 0
  | x :: r => uptoBulkEntry x + uptoBulkEntries r
def uptoBulkEntry {H : Type} : Lit × DataW H → Nat
  | (.string bytes, d) => bytes.length + uptoBulk d + 1
  | (_, d) => uptoBulk d + 1
 end
def uptoSmall : (H : Type) → List (DataW H) → Bool := fun _ ds => decide (uptoBulkAll ds ≤ 1048576)
def OpenSpec.upto (s : _root_.Go.ChangeSpec) : _root_.Go.OpenSpec := { _root_.Go.OpenSpec.ofChange s with cond := some uptoSmall }

/-- 'grapevinelaw14.LinkOnce', WHERE WHAT IT READS IS OF BULK AT MOST 1048576: true; the input reads as it did. -/
def linkOnceUptoRow : OpenClaim := { program := "ytoandmnefgimoaadoor", sum := "08b73a66995b41ee8a034e1ff771758fe743bc892ada9d3add5e428792ccef72", func := "grapevine/grapevinelaw14.LinkOnce", spec := "linkOnce", unfollowed := true, recurses := true, named := ["grapevine/seal.half"], apart := false, laid := [("grapevine/seal.half", laid_grapevine_seal_half)], narrowed := true }
def LinkOnceUptoSaid : Prop := linkOnceUptoRow.holds Tryd.pinned (OpenSpec.upto linkOnceSpec)

/-- 'grapevinelaw14.LinkBounds', WHERE WHAT IT READS IS OF BULK AT MOST 1048576: true; the input reads as it did. -/
def linkBoundsUptoRow : OpenClaim := { program := "ytoandmnefgimoaadoor", sum := "08b73a66995b41ee8a034e1ff771758fe743bc892ada9d3add5e428792ccef72", func := "grapevine/grapevinelaw14.LinkBounds", spec := "linkBounds", unfollowed := true, recurses := true, named := ["grapevine/seal.half"], apart := false, laid := [("grapevine/seal.half", laid_grapevine_seal_half)], narrowed := true }
def LinkBoundsUptoSaid : Prop := linkBoundsUptoRow.holds Tryd.pinned (OpenSpec.upto linkBoundsSpec)

/-- 'grapevinelaw14.LinkProbes', WHERE WHAT IT READS IS OF BULK AT MOST 1048576: true; the input reads as it did. -/
def linkProbesUptoRow : OpenClaim := { program := "ytoandmnefgimoaadoor", sum := "08b73a66995b41ee8a034e1ff771758fe743bc892ada9d3add5e428792ccef72", func := "grapevine/grapevinelaw14.LinkProbes", spec := "linkProbes", unfollowed := true, recurses := true, named := ["grapevine/seal.half"], apart := false, laid := [("grapevine/seal.half", laid_grapevine_seal_half)], narrowed := true }
def LinkProbesUptoSaid : Prop := linkProbesUptoRow.holds Tryd.pinned (OpenSpec.upto linkProbesSpec)

/-- 'grapevinelaw14.LinkNone', WHERE WHAT IT READS IS OF BULK AT MOST 1048576: true; the input reads as it did. -/
def linkNoneUptoRow : OpenClaim := { program := "ytoandmnefgimoaadoor", sum := "08b73a66995b41ee8a034e1ff771758fe743bc892ada9d3add5e428792ccef72", func := "grapevine/grapevinelaw14.LinkNone", spec := "linkNone", unfollowed := true, recurses := true, named := ["grapevine/seal.half"], apart := false, laid := [("grapevine/seal.half", laid_grapevine_seal_half)], narrowed := true }
def LinkNoneUptoSaid : Prop := linkNoneUptoRow.holds Tryd.pinned (OpenSpec.upto linkNoneSpec)

end Rows
end Go.Proofs.YtoandmnefgimoaaDoor
