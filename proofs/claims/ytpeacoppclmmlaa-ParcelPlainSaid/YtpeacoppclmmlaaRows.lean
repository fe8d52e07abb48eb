/-
  No cell of these rows narrows 'for every input' (looked for: loops, veiled, ifaces, maps, wideKeys, modest, calm, conditions, laid).
  DERIVED. THE GIVEN ROWS OF THIS SEAT. 20 by the template 'for every input the law returns true; each argument reads behind the call as it read before'; 0 by the template 'total and deterministic' (their statements: YtpeacoppclmmlaaTotals.lean).
  GIVEN WITH THE SEED: the statements are not yours to turn. If you find one false, say at which input.
  Laid BY PROGRAM, IN A SANDBOX (cutbox-rows.mjs): the forced cells as the released guide's own fill.sh prints them over the translation 9e7cf45ddaeef5e9… (all of the seat's roots in one cut). By AI agents, Wed Nov 11 2026. No macro, syntax, notation, axiom, sorry.
-/
import Derived.Test.YtpeacoppclmmlaaChecked
import GoSem.Claim
import GoSem.ClaimJoined
import GoSem.ClaimMapViews
import Derived.JoinedTies
import Derived.KernelRfl
namespace Go.Proofs.Ytpeacoppclmmlaa
/- THE CELL 'sum', in the pinned program and in every row, IS THE sha256 OF THE DUMP (.gsa) THAT YtpeacoppclmmlaaProg.lean LOADS. Nothing in Lean hashes anything: it is a label: what it is worth is what the hold of that sum in a sandbox is worth. -/
noncomputable def Try.pinned : Pinned := { name := "ytpeacoppclmmlaa", sum := "9e7cf45ddaeef5e9c197eeb6c005f659a5473bea481ed97e8862b249f7afd4d2", checked := Try.checked }
namespace Rows
def none {H : Type} : Left H := { results := [], args := [] }

/-- 'grapevinelaw08.SpanJoins': WHATEVER THE INPUT: true; the input reads as it did. -/
def spanJoinsSpec : ChangeSpec := { name := "spanJoins", fn := fun _ => fun
  | [d1, d2] => { results := [.lit (.bool true)], args := [d1, d2] }
  | _ => none }
def spanJoinsRow : OpenClaim := { program := "ytpeacoppclmmlaa", sum := "9e7cf45ddaeef5e9c197eeb6c005f659a5473bea481ed97e8862b249f7afd4d2", func := "grapevine/grapevinelaw08.SpanJoins", spec := "spanJoins", unfollowed := true, recurses := true, apart := false }
def SpanJoinsSaid : Prop := spanJoinsRow.holds Try.pinned (OpenSpec.ofChange spanJoinsSpec)

/-- ITS FALSE NEIGHBOUR: 'it returns false'. Refute it at one input. -/
def spanJoinsWrong : ChangeSpec := { name := "spanJoins", fn := fun _ => fun
  | [d1, d2] => { results := [.lit (.bool false)], args := [d1, d2] }
  | _ => none }
def SpanJoinsWrongFalsely : Prop := spanJoinsRow.holds Try.pinned (OpenSpec.ofChange spanJoinsWrong)

/-- 'grapevinelaw08.SpanLattice': WHATEVER THE INPUT: true; the input reads as it did. -/
def spanLatticeSpec : ChangeSpec := { name := "spanLattice", fn := fun _ => fun
  | [d1, d2, d3] => { results := [.lit (.bool true)], args := [d1, d2, d3] }
  | _ => none }
def spanLatticeRow : OpenClaim := { program := "ytpeacoppclmmlaa", sum := "9e7cf45ddaeef5e9c197eeb6c005f659a5473bea481ed97e8862b249f7afd4d2", func := "grapevine/grapevinelaw08.SpanLattice", spec := "spanLattice", unfollowed := true, recurses := true, apart := false }
def SpanLatticeSaid : Prop := spanLatticeRow.holds Try.pinned (OpenSpec.ofChange spanLatticeSpec)

/-- ITS FALSE NEIGHBOUR: 'it returns false'. Refute it at one input. -/
def spanLatticeWrong : ChangeSpec := { name := "spanLattice", fn := fun _ => fun
  | [d1, d2, d3] => { results := [.lit (.bool false)], args := [d1, d2, d3] }
  | _ => none }
def SpanLatticeWrongFalsely : Prop := spanLatticeRow.holds Try.pinned (OpenSpec.ofChange spanLatticeWrong)

/-- 'grapevinelaw08.SpanHorizons': WHATEVER THE INPUT: true; the input reads as it did. -/
def spanHorizonsSpec : ChangeSpec := { name := "spanHorizons", fn := fun _ => fun
  | [d1, d2] => { results := [.lit (.bool true)], args := [d1, d2] }
  | _ => none }
def spanHorizonsRow : OpenClaim := { program := "ytpeacoppclmmlaa", sum := "9e7cf45ddaeef5e9c197eeb6c005f659a5473bea481ed97e8862b249f7afd4d2", func := "grapevine/grapevinelaw08.SpanHorizons", spec := "spanHorizons", unfollowed := true, recurses := true, apart := false }
def SpanHorizonsSaid : Prop := spanHorizonsRow.holds Try.pinned (OpenSpec.ofChange spanHorizonsSpec)

/-- ITS FALSE NEIGHBOUR: 'it returns false'. Refute it at one input. -/
def spanHorizonsWrong : ChangeSpec := { name := "spanHorizons", fn := fun _ => fun
  | [d1, d2] => { results := [.lit (.bool false)], args := [d1, d2] }
  | _ => none }
def SpanHorizonsWrongFalsely : Prop := spanHorizonsRow.holds Try.pinned (OpenSpec.ofChange spanHorizonsWrong)

/-- 'grapevinelaw08.SpanTicks': WHATEVER THE INPUT: true; the input reads as it did. -/
def spanTicksSpec : ChangeSpec := { name := "spanTicks", fn := fun _ => fun
  | [d1, d2, d3] => { results := [.lit (.bool true)], args := [d1, d2, d3] }
  | _ => none }
def spanTicksRow : OpenClaim := { program := "ytpeacoppclmmlaa", sum := "9e7cf45ddaeef5e9c197eeb6c005f659a5473bea481ed97e8862b249f7afd4d2", func := "grapevine/grapevinelaw08.SpanTicks", spec := "spanTicks", unfollowed := true, recurses := true, apart := false }
def SpanTicksSaid : Prop := spanTicksRow.holds Try.pinned (OpenSpec.ofChange spanTicksSpec)

/-- ITS FALSE NEIGHBOUR: 'it returns false'. Refute it at one input. -/
def spanTicksWrong : ChangeSpec := { name := "spanTicks", fn := fun _ => fun
  | [d1, d2, d3] => { results := [.lit (.bool false)], args := [d1, d2, d3] }
  | _ => none }
def SpanTicksWrongFalsely : Prop := spanTicksRow.holds Try.pinned (OpenSpec.ofChange spanTicksWrong)

/-- 'grapevinelaw08.SpanGaps': WHATEVER THE INPUT: true; the input reads as it did. -/
def spanGapsSpec : ChangeSpec := { name := "spanGaps", fn := fun _ => fun
  | [d1, d2] => { results := [.lit (.bool true)], args := [d1, d2] }
  | _ => none }
def spanGapsRow : OpenClaim := { program := "ytpeacoppclmmlaa", sum := "9e7cf45ddaeef5e9c197eeb6c005f659a5473bea481ed97e8862b249f7afd4d2", func := "grapevine/grapevinelaw08.SpanGaps", spec := "spanGaps", unfollowed := true, recurses := true, apart := false }
def SpanGapsSaid : Prop := spanGapsRow.holds Try.pinned (OpenSpec.ofChange spanGapsSpec)

/-- ITS FALSE NEIGHBOUR: 'it returns false'. Refute it at one input. -/
def spanGapsWrong : ChangeSpec := { name := "spanGaps", fn := fun _ => fun
  | [d1, d2] => { results := [.lit (.bool false)], args := [d1, d2] }
  | _ => none }
def SpanGapsWrongFalsely : Prop := spanGapsRow.holds Try.pinned (OpenSpec.ofChange spanGapsWrong)

/-- 'grapevinelaw08.SpanRight': WHATEVER THE INPUT: true; the input reads as it did. -/
def spanRightSpec : ChangeSpec := { name := "spanRight", fn := fun _ => fun
  | [d1, d2, d3] => { results := [.lit (.bool true)], args := [d1, d2, d3] }
  | _ => none }
def spanRightRow : OpenClaim := { program := "ytpeacoppclmmlaa", sum := "9e7cf45ddaeef5e9c197eeb6c005f659a5473bea481ed97e8862b249f7afd4d2", func := "grapevine/grapevinelaw08.SpanRight", spec := "spanRight", unfollowed := true, recurses := true, apart := false }
def SpanRightSaid : Prop := spanRightRow.holds Try.pinned (OpenSpec.ofChange spanRightSpec)

/-- ITS FALSE NEIGHBOUR: 'it returns false'. Refute it at one input. -/
def spanRightWrong : ChangeSpec := { name := "spanRight", fn := fun _ => fun
  | [d1, d2, d3] => { results := [.lit (.bool false)], args := [d1, d2, d3] }
  | _ => none }
def SpanRightWrongFalsely : Prop := spanRightRow.holds Try.pinned (OpenSpec.ofChange spanRightWrong)

/-- 'grapevinelaw08.SpanKeeps': WHATEVER THE INPUT: true; the input reads as it did. -/
def spanKeepsSpec : ChangeSpec := { name := "spanKeeps", fn := fun _ => fun
  | [d1, d2] => { results := [.lit (.bool true)], args := [d1, d2] }
  | _ => none }
def spanKeepsRow : OpenClaim := { program := "ytpeacoppclmmlaa", sum := "9e7cf45ddaeef5e9c197eeb6c005f659a5473bea481ed97e8862b249f7afd4d2", func := "grapevine/grapevinelaw08.SpanKeeps", spec := "spanKeeps", unfollowed := true, recurses := true, apart := false }
def SpanKeepsSaid : Prop := spanKeepsRow.holds Try.pinned (OpenSpec.ofChange spanKeepsSpec)

/-- ITS FALSE NEIGHBOUR: 'it returns false'. Refute it at one input. -/
def spanKeepsWrong : ChangeSpec := { name := "spanKeeps", fn := fun _ => fun
  | [d1, d2] => { results := [.lit (.bool false)], args := [d1, d2] }
  | _ => none }
def SpanKeepsWrongFalsely : Prop := spanKeepsRow.holds Try.pinned (OpenSpec.ofChange spanKeepsWrong)

/-- 'grapevinelaw08.SpanFirst': WHATEVER THE INPUT: true; the input reads as it did. -/
def spanFirstSpec : ChangeSpec := { name := "spanFirst", fn := fun _ => fun
  | [d1, d2] => { results := [.lit (.bool true)], args := [d1, d2] }
  | _ => none }
def spanFirstRow : OpenClaim := { program := "ytpeacoppclmmlaa", sum := "9e7cf45ddaeef5e9c197eeb6c005f659a5473bea481ed97e8862b249f7afd4d2", func := "grapevine/grapevinelaw08.SpanFirst", spec := "spanFirst", unfollowed := true, recurses := true, apart := false }
def SpanFirstSaid : Prop := spanFirstRow.holds Try.pinned (OpenSpec.ofChange spanFirstSpec)

/-- ITS FALSE NEIGHBOUR: 'it returns false'. Refute it at one input. -/
def spanFirstWrong : ChangeSpec := { name := "spanFirst", fn := fun _ => fun
  | [d1, d2] => { results := [.lit (.bool false)], args := [d1, d2] }
  | _ => none }
def SpanFirstWrongFalsely : Prop := spanFirstRow.holds Try.pinned (OpenSpec.ofChange spanFirstWrong)

/-- 'grapevinelaw08.SpanPuts': WHATEVER THE INPUT: true; the input reads as it did. -/
def spanPutsSpec : ChangeSpec := { name := "spanPuts", fn := fun _ => fun
  | [d] => { results := [.lit (.bool true)], args := [d] }
  | _ => none }
def spanPutsRow : OpenClaim := { program := "ytpeacoppclmmlaa", sum := "9e7cf45ddaeef5e9c197eeb6c005f659a5473bea481ed97e8862b249f7afd4d2", func := "grapevine/grapevinelaw08.SpanPuts", spec := "spanPuts", unfollowed := true, recurses := true, apart := false }
def SpanPutsSaid : Prop := spanPutsRow.holds Try.pinned (OpenSpec.ofChange spanPutsSpec)

/-- ITS FALSE NEIGHBOUR: 'it returns false'. Refute it at one input. -/
def spanPutsWrong : ChangeSpec := { name := "spanPuts", fn := fun _ => fun
  | [d] => { results := [.lit (.bool false)], args := [d] }
  | _ => none }
def SpanPutsWrongFalsely : Prop := spanPutsRow.holds Try.pinned (OpenSpec.ofChange spanPutsWrong)

/-- 'grapevinelaw08.SpanParts': WHATEVER THE INPUT: true; the input reads as it did. -/
def spanPartsSpec : ChangeSpec := { name := "spanParts", fn := fun _ => fun
  | [d1, d2, d3] => { results := [.lit (.bool true)], args := [d1, d2, d3] }
  | _ => none }
def spanPartsRow : OpenClaim := { program := "ytpeacoppclmmlaa", sum := "9e7cf45ddaeef5e9c197eeb6c005f659a5473bea481ed97e8862b249f7afd4d2", func := "grapevine/grapevinelaw08.SpanParts", spec := "spanParts", unfollowed := true, recurses := true, apart := false }
def SpanPartsSaid : Prop := spanPartsRow.holds Try.pinned (OpenSpec.ofChange spanPartsSpec)

/-- ITS FALSE NEIGHBOUR: 'it returns false'. Refute it at one input. -/
def spanPartsWrong : ChangeSpec := { name := "spanParts", fn := fun _ => fun
  | [d1, d2, d3] => { results := [.lit (.bool false)], args := [d1, d2, d3] }
  | _ => none }
def SpanPartsWrongFalsely : Prop := spanPartsRow.holds Try.pinned (OpenSpec.ofChange spanPartsWrong)

/-- 'grapevinelaw13.ParcelChecks': WHATEVER THE INPUT: true; the input reads as it did. -/
def parcelChecksSpec : ChangeSpec := { name := "parcelChecks", fn := fun _ => fun
  | [d] => { results := [.lit (.bool true)], args := [d] }
  | _ => none }
def parcelChecksRow : OpenClaim := { program := "ytpeacoppclmmlaa", sum := "9e7cf45ddaeef5e9c197eeb6c005f659a5473bea481ed97e8862b249f7afd4d2", func := "grapevine/grapevinelaw13.ParcelChecks", spec := "parcelChecks", unfollowed := true, recurses := true, apart := false }
def ParcelChecksSaid : Prop := parcelChecksRow.holds Try.pinned (OpenSpec.ofChange parcelChecksSpec)

/-- ITS FALSE NEIGHBOUR: 'it returns false'. Refute it at one input. -/
def parcelChecksWrong : ChangeSpec := { name := "parcelChecks", fn := fun _ => fun
  | [d] => { results := [.lit (.bool false)], args := [d] }
  | _ => none }
def ParcelChecksWrongFalsely : Prop := parcelChecksRow.holds Try.pinned (OpenSpec.ofChange parcelChecksWrong)

/-- 'grapevinelaw13.ParcelPuts': WHATEVER THE INPUT: true; the input reads as it did. -/
def parcelPutsSpec : ChangeSpec := { name := "parcelPuts", fn := fun _ => fun
  | [d] => { results := [.lit (.bool true)], args := [d] }
  | _ => none }
def parcelPutsRow : OpenClaim := { program := "ytpeacoppclmmlaa", sum := "9e7cf45ddaeef5e9c197eeb6c005f659a5473bea481ed97e8862b249f7afd4d2", func := "grapevine/grapevinelaw13.ParcelPuts", spec := "parcelPuts", unfollowed := true, recurses := true, apart := false }
def ParcelPutsSaid : Prop := parcelPutsRow.holds Try.pinned (OpenSpec.ofChange parcelPutsSpec)

/-- ITS FALSE NEIGHBOUR: 'it returns false'. Refute it at one input. -/
def parcelPutsWrong : ChangeSpec := { name := "parcelPuts", fn := fun _ => fun
  | [d] => { results := [.lit (.bool false)], args := [d] }
  | _ => none }
def ParcelPutsWrongFalsely : Prop := parcelPutsRow.holds Try.pinned (OpenSpec.ofChange parcelPutsWrong)

/-- 'grapevinelaw13.ParcelUnused': WHATEVER THE INPUT: true; the input reads as it did. -/
def parcelUnusedSpec : ChangeSpec := { name := "parcelUnused", fn := fun _ => fun
  | [d1, d2] => { results := [.lit (.bool true)], args := [d1, d2] }
  | _ => none }
def parcelUnusedRow : OpenClaim := { program := "ytpeacoppclmmlaa", sum := "9e7cf45ddaeef5e9c197eeb6c005f659a5473bea481ed97e8862b249f7afd4d2", func := "grapevine/grapevinelaw13.ParcelUnused", spec := "parcelUnused", unfollowed := true, recurses := true, apart := false }
def ParcelUnusedSaid : Prop := parcelUnusedRow.holds Try.pinned (OpenSpec.ofChange parcelUnusedSpec)

/-- ITS FALSE NEIGHBOUR: 'it returns false'. Refute it at one input. -/
def parcelUnusedWrong : ChangeSpec := { name := "parcelUnused", fn := fun _ => fun
  | [d1, d2] => { results := [.lit (.bool false)], args := [d1, d2] }
  | _ => none }
def ParcelUnusedWrongFalsely : Prop := parcelUnusedRow.holds Try.pinned (OpenSpec.ofChange parcelUnusedWrong)

/-- 'grapevinelaw08.SpanTakes': WHATEVER THE INPUT: true; the input reads as it did. -/
def spanTakesSpec : ChangeSpec := { name := "spanTakes", fn := fun _ => fun
  | [d1, d2] => { results := [.lit (.bool true)], args := [d1, d2] }
  | _ => none }
def spanTakesRow : OpenClaim := { program := "ytpeacoppclmmlaa", sum := "9e7cf45ddaeef5e9c197eeb6c005f659a5473bea481ed97e8862b249f7afd4d2", func := "grapevine/grapevinelaw08.SpanTakes", spec := "spanTakes", unfollowed := true, recurses := true, apart := false }
def SpanTakesSaid : Prop := spanTakesRow.holds Try.pinned (OpenSpec.ofChange spanTakesSpec)

/-- ITS FALSE NEIGHBOUR: 'it returns false'. Refute it at one input. -/
def spanTakesWrong : ChangeSpec := { name := "spanTakes", fn := fun _ => fun
  | [d1, d2] => { results := [.lit (.bool false)], args := [d1, d2] }
  | _ => none }
def SpanTakesWrongFalsely : Prop := spanTakesRow.holds Try.pinned (OpenSpec.ofChange spanTakesWrong)

/-- 'grapevinelaw13.ParcelPlain': WHATEVER THE INPUT: true; the input reads as it did. -/
def parcelPlainSpec : ChangeSpec := { name := "parcelPlain", fn := fun _ => fun
  | [d] => { results := [.lit (.bool true)], args := [d] }
  | _ => none }
def parcelPlainRow : OpenClaim := { program := "ytpeacoppclmmlaa", sum := "9e7cf45ddaeef5e9c197eeb6c005f659a5473bea481ed97e8862b249f7afd4d2", func := "grapevine/grapevinelaw13.ParcelPlain", spec := "parcelPlain", unfollowed := true, recurses := true, apart := false }
def ParcelPlainSaid : Prop := parcelPlainRow.holds Try.pinned (OpenSpec.ofChange parcelPlainSpec)

/-- ITS FALSE NEIGHBOUR: 'it returns false'. Refute it at one input. -/
def parcelPlainWrong : ChangeSpec := { name := "parcelPlain", fn := fun _ => fun
  | [d] => { results := [.lit (.bool false)], args := [d] }
  | _ => none }
def ParcelPlainWrongFalsely : Prop := parcelPlainRow.holds Try.pinned (OpenSpec.ofChange parcelPlainWrong)

/-- 'grapevinelaw08.SpanBack': WHATEVER THE INPUT: true; the input reads as it did. -/
def spanBackSpec : ChangeSpec := { name := "spanBack", fn := fun _ => fun
  | [d1, d2, d3] => { results := [.lit (.bool true)], args := [d1, d2, d3] }
  | _ => none }
def spanBackRow : OpenClaim := { program := "ytpeacoppclmmlaa", sum := "9e7cf45ddaeef5e9c197eeb6c005f659a5473bea481ed97e8862b249f7afd4d2", func := "grapevine/grapevinelaw08.SpanBack", spec := "spanBack", unfollowed := true, recurses := true, apart := false }
def SpanBackSaid : Prop := spanBackRow.holds Try.pinned (OpenSpec.ofChange spanBackSpec)

/-- ITS FALSE NEIGHBOUR: 'it returns false'. Refute it at one input. -/
def spanBackWrong : ChangeSpec := { name := "spanBack", fn := fun _ => fun
  | [d1, d2, d3] => { results := [.lit (.bool false)], args := [d1, d2, d3] }
  | _ => none }
def SpanBackWrongFalsely : Prop := spanBackRow.holds Try.pinned (OpenSpec.ofChange spanBackWrong)

/-- 'grapevinelaw08.SpanOnce': WHATEVER THE INPUT: true; the input reads as it did. -/
def spanOnceSpec : ChangeSpec := { name := "spanOnce", fn := fun _ => fun
  | [d] => { results := [.lit (.bool true)], args := [d] }
  | _ => none }
def spanOnceRow : OpenClaim := { program := "ytpeacoppclmmlaa", sum := "9e7cf45ddaeef5e9c197eeb6c005f659a5473bea481ed97e8862b249f7afd4d2", func := "grapevine/grapevinelaw08.SpanOnce", spec := "spanOnce", unfollowed := true, recurses := true, apart := false }
def SpanOnceSaid : Prop := spanOnceRow.holds Try.pinned (OpenSpec.ofChange spanOnceSpec)

/-- ITS FALSE NEIGHBOUR: 'it returns false'. Refute it at one input. -/
def spanOnceWrong : ChangeSpec := { name := "spanOnce", fn := fun _ => fun
  | [d] => { results := [.lit (.bool false)], args := [d] }
  | _ => none }
def SpanOnceWrongFalsely : Prop := spanOnceRow.holds Try.pinned (OpenSpec.ofChange spanOnceWrong)

/-- 'grapevinelaw13.ParcelTakes': WHATEVER THE INPUT: true; the input reads as it did. -/
def parcelTakesSpec : ChangeSpec := { name := "parcelTakes", fn := fun _ => fun
  | [d] => { results := [.lit (.bool true)], args := [d] }
  | _ => none }
def parcelTakesRow : OpenClaim := { program := "ytpeacoppclmmlaa", sum := "9e7cf45ddaeef5e9c197eeb6c005f659a5473bea481ed97e8862b249f7afd4d2", func := "grapevine/grapevinelaw13.ParcelTakes", spec := "parcelTakes", unfollowed := true, recurses := true, apart := false }
def ParcelTakesSaid : Prop := parcelTakesRow.holds Try.pinned (OpenSpec.ofChange parcelTakesSpec)

/-- ITS FALSE NEIGHBOUR: 'it returns false'. Refute it at one input. -/
def parcelTakesWrong : ChangeSpec := { name := "parcelTakes", fn := fun _ => fun
  | [d] => { results := [.lit (.bool false)], args := [d] }
  | _ => none }
def ParcelTakesWrongFalsely : Prop := parcelTakesRow.holds Try.pinned (OpenSpec.ofChange parcelTakesWrong)

/-- 'grapevinelaw13.ParcelBack': WHATEVER THE INPUT: true; the input reads as it did. -/
def parcelBackSpec : ChangeSpec := { name := "parcelBack", fn := fun _ => fun
  | [d] => { results := [.lit (.bool true)], args := [d] }
  | _ => none }
def parcelBackRow : OpenClaim := { program := "ytpeacoppclmmlaa", sum := "9e7cf45ddaeef5e9c197eeb6c005f659a5473bea481ed97e8862b249f7afd4d2", func := "grapevine/grapevinelaw13.ParcelBack", spec := "parcelBack", unfollowed := true, recurses := true, apart := false }
def ParcelBackSaid : Prop := parcelBackRow.holds Try.pinned (OpenSpec.ofChange parcelBackSpec)

/-- ITS FALSE NEIGHBOUR: 'it returns false'. Refute it at one input. -/
def parcelBackWrong : ChangeSpec := { name := "parcelBack", fn := fun _ => fun
  | [d] => { results := [.lit (.bool false)], args := [d] }
  | _ => none }
def ParcelBackWrongFalsely : Prop := parcelBackRow.holds Try.pinned (OpenSpec.ofChange parcelBackWrong)

/-- 'grapevinelaw13.ParcelOnce': WHATEVER THE INPUT: true; the input reads as it did. -/
def parcelOnceSpec : ChangeSpec := { name := "parcelOnce", fn := fun _ => fun
  | [d1, d2] => { results := [.lit (.bool true)], args := [d1, d2] }
  | _ => none }
def parcelOnceRow : OpenClaim := { program := "ytpeacoppclmmlaa", sum := "9e7cf45ddaeef5e9c197eeb6c005f659a5473bea481ed97e8862b249f7afd4d2", func := "grapevine/grapevinelaw13.ParcelOnce", spec := "parcelOnce", unfollowed := true, recurses := true, apart := false }
def ParcelOnceSaid : Prop := parcelOnceRow.holds Try.pinned (OpenSpec.ofChange parcelOnceSpec)

/-- ITS FALSE NEIGHBOUR: 'it returns false'. Refute it at one input. -/
def parcelOnceWrong : ChangeSpec := { name := "parcelOnce", fn := fun _ => fun
  | [d1, d2] => { results := [.lit (.bool false)], args := [d1, d2] }
  | _ => none }
def ParcelOnceWrongFalsely : Prop := parcelOnceRow.holds Try.pinned (OpenSpec.ofChange parcelOnceWrong)

/- THE SECOND FORM. 'bulk': how many values and letters a reading holds, each counted each time it is reached (what is shared counts as often as it is met; a slice's spare places count too). A statement '..UptoSaid' is the law's where the arguments, and the package variables that the reading takes, are together of bulk at most 1048576: NARROWER than '..Said'. Prove '..Said' where nothing that the law and all that it calls make is longer than what came in: it says more and counts as full. Else prove '..UptoSaid'. A law counts once. -/
mutual
def uptoBulk {H : Type} : DataW H → Nat
  | .lit (.string bytes) => bytes.length + 1
  | .lit _ => 1
  | .nil => 1
  | .ptr d => uptoBulk d + 1
  | .slice elems spare => uptoBulkAll elems + uptoBulkAll spare + 1
  | .agg parts => uptoBulkAll parts + 1
  | .iface _ d => uptoBulk d + 1
  | .map entries => uptoBulkEntries entries + 1
  | .held _ => 1
def uptoBulkAll {H : Type} : List (DataW H) → Nat
  | [] => 0
  | d :: r => uptoBulk d + uptoBulkAll r
def uptoBulkEntries {H : Type} : List (Lit × DataW H) → Nat
  | [] => 0
  | x :: r => uptoBulkEntry x + uptoBulkEntries r
def uptoBulkEntry {H : Type} : Lit × DataW H → Nat
  | (.string bytes, d) => bytes.length + uptoBulk d + 1
  | (_, d) => uptoBulk d + 1
 end
def uptoSmall : (H : Type) → List (DataW H) → Bool := fun _ ds => decide (uptoBulkAll ds ≤ 1048576)
def OpenSpec.upto (s : _root_.Go.ChangeSpec) : _root_.Go.OpenSpec := { _root_.Go.OpenSpec.ofChange s with cond := some uptoSmall }

/-- 'grapevinelaw08.SpanJoins', WHERE WHAT IT READS IS OF BULK AT MOST 1048576: true; the input reads as it did. -/
def spanJoinsUptoRow : OpenClaim := { program := "ytpeacoppclmmlaa", sum := "9e7cf45ddaeef5e9c197eeb6c005f659a5473bea481ed97e8862b249f7afd4d2", func := "grapevine/grapevinelaw08.SpanJoins", spec := "spanJoins", unfollowed := true, recurses := true, apart := false, narrowed := true }
def SpanJoinsUptoSaid : Prop := spanJoinsUptoRow.holds Try.pinned (OpenSpec.upto spanJoinsSpec)

/-- 'grapevinelaw08.SpanLattice', WHERE WHAT IT READS IS OF BULK AT MOST 1048576: true; the input reads as it did. -/
def spanLatticeUptoRow : OpenClaim := { program := "ytpeacoppclmmlaa", sum := "9e7cf45ddaeef5e9c197eeb6c005f659a5473bea481ed97e8862b249f7afd4d2", func := "grapevine/grapevinelaw08.SpanLattice", spec := "spanLattice", unfollowed := true, recurses := true, apart := false, narrowed := true }
def SpanLatticeUptoSaid : Prop := spanLatticeUptoRow.holds Try.pinned (OpenSpec.upto spanLatticeSpec)

/-- 'grapevinelaw08.SpanHorizons', WHERE WHAT IT READS IS OF BULK AT MOST 1048576: true; the input reads as it did. -/
def spanHorizonsUptoRow : OpenClaim := { program := "ytpeacoppclmmlaa", sum := "9e7cf45ddaeef5e9c197eeb6c005f659a5473bea481ed97e8862b249f7afd4d2", func := "grapevine/grapevinelaw08.SpanHorizons", spec := "spanHorizons", unfollowed := true, recurses := true, apart := false, narrowed := true }
def SpanHorizonsUptoSaid : Prop := spanHorizonsUptoRow.holds Try.pinned (OpenSpec.upto spanHorizonsSpec)

/-- 'grapevinelaw08.SpanTicks', WHERE WHAT IT READS IS OF BULK AT MOST 1048576: true; the input reads as it did. -/
def spanTicksUptoRow : OpenClaim := { program := "ytpeacoppclmmlaa", sum := "9e7cf45ddaeef5e9c197eeb6c005f659a5473bea481ed97e8862b249f7afd4d2", func := "grapevine/grapevinelaw08.SpanTicks", spec := "spanTicks", unfollowed := true, recurses := true, apart := false, narrowed := true }
def SpanTicksUptoSaid : Prop := spanTicksUptoRow.holds Try.pinned (OpenSpec.upto spanTicksSpec)

/-- 'grapevinelaw08.SpanGaps', WHERE WHAT IT READS IS OF BULK AT MOST 1048576: true; the input reads as it did. -/
def spanGapsUptoRow : OpenClaim := { program := "ytpeacoppclmmlaa", sum := "9e7cf45ddaeef5e9c197eeb6c005f659a5473bea481ed97e8862b249f7afd4d2", func := "grapevine/grapevinelaw08.SpanGaps", spec := "spanGaps", unfollowed := true, recurses := true, apart := false, narrowed := true }
def SpanGapsUptoSaid : Prop := spanGapsUptoRow.holds Try.pinned (OpenSpec.upto spanGapsSpec)

/-- 'grapevinelaw08.SpanRight', WHERE WHAT IT READS IS OF BULK AT MOST 1048576: true; the input reads as it did. -/
def spanRightUptoRow : OpenClaim := { program := "ytpeacoppclmmlaa", sum := "9e7cf45ddaeef5e9c197eeb6c005f659a5473bea481ed97e8862b249f7afd4d2", func := "grapevine/grapevinelaw08.SpanRight", spec := "spanRight", unfollowed := true, recurses := true, apart := false, narrowed := true }
def SpanRightUptoSaid : Prop := spanRightUptoRow.holds Try.pinned (OpenSpec.upto spanRightSpec)

/-- 'grapevinelaw08.SpanKeeps', WHERE WHAT IT READS IS OF BULK AT MOST 1048576: true; the input reads as it did. -/
def spanKeepsUptoRow : OpenClaim := { program := "ytpeacoppclmmlaa", sum := "9e7cf45ddaeef5e9c197eeb6c005f659a5473bea481ed97e8862b249f7afd4d2", func := "grapevine/grapevinelaw08.SpanKeeps", spec := "spanKeeps", unfollowed := true, recurses := true, apart := false, narrowed := true }
def SpanKeepsUptoSaid : Prop := spanKeepsUptoRow.holds Try.pinned (OpenSpec.upto spanKeepsSpec)

/-- 'grapevinelaw08.SpanFirst', WHERE WHAT IT READS IS OF BULK AT MOST 1048576: true; the input reads as it did. -/
def spanFirstUptoRow : OpenClaim := { program := "ytpeacoppclmmlaa", sum := "9e7cf45ddaeef5e9c197eeb6c005f659a5473bea481ed97e8862b249f7afd4d2", func := "grapevine/grapevinelaw08.SpanFirst", spec := "spanFirst", unfollowed := true, recurses := true, apart := false, narrowed := true }
def SpanFirstUptoSaid : Prop := spanFirstUptoRow.holds Try.pinned (OpenSpec.upto spanFirstSpec)

/-- 'grapevinelaw08.SpanPuts', WHERE WHAT IT READS IS OF BULK AT MOST 1048576: true; the input reads as it did. -/
def spanPutsUptoRow : OpenClaim := { program := "ytpeacoppclmmlaa", sum := "9e7cf45ddaeef5e9c197eeb6c005f659a5473bea481ed97e8862b249f7afd4d2", func := "grapevine/grapevinelaw08.SpanPuts", spec := "spanPuts", unfollowed := true, recurses := true, apart := false, narrowed := true }
def SpanPutsUptoSaid : Prop := spanPutsUptoRow.holds Try.pinned (OpenSpec.upto spanPutsSpec)

/-- 'grapevinelaw08.SpanParts', WHERE WHAT IT READS IS OF BULK AT MOST 1048576: true; the input reads as it did. -/
def spanPartsUptoRow : OpenClaim := { program := "ytpeacoppclmmlaa", sum := "9e7cf45ddaeef5e9c197eeb6c005f659a5473bea481ed97e8862b249f7afd4d2", func := "grapevine/grapevinelaw08.SpanParts", spec := "spanParts", unfollowed := true, recurses := true, apart := false, narrowed := true }
def SpanPartsUptoSaid : Prop := spanPartsUptoRow.holds Try.pinned (OpenSpec.upto spanPartsSpec)

/-- 'grapevinelaw13.ParcelChecks', WHERE WHAT IT READS IS OF BULK AT MOST 1048576: true; the input reads as it did. -/
def parcelChecksUptoRow : OpenClaim := { program := "ytpeacoppclmmlaa", sum := "9e7cf45ddaeef5e9c197eeb6c005f659a5473bea481ed97e8862b249f7afd4d2", func := "grapevine/grapevinelaw13.ParcelChecks", spec := "parcelChecks", unfollowed := true, recurses := true, apart := false, narrowed := true }
def ParcelChecksUptoSaid : Prop := parcelChecksUptoRow.holds Try.pinned (OpenSpec.upto parcelChecksSpec)

/-- 'grapevinelaw13.ParcelPuts', WHERE WHAT IT READS IS OF BULK AT MOST 1048576: true; the input reads as it did. -/
def parcelPutsUptoRow : OpenClaim := { program := "ytpeacoppclmmlaa", sum := "9e7cf45ddaeef5e9c197eeb6c005f659a5473bea481ed97e8862b249f7afd4d2", func := "grapevine/grapevinelaw13.ParcelPuts", spec := "parcelPuts", unfollowed := true, recurses := true, apart := false, narrowed := true }
def ParcelPutsUptoSaid : Prop := parcelPutsUptoRow.holds Try.pinned (OpenSpec.upto parcelPutsSpec)

/-- 'grapevinelaw13.ParcelUnused', WHERE WHAT IT READS IS OF BULK AT MOST 1048576: true; the input reads as it did. -/
def parcelUnusedUptoRow : OpenClaim := { program := "ytpeacoppclmmlaa", sum := "9e7cf45ddaeef5e9c197eeb6c005f659a5473bea481ed97e8862b249f7afd4d2", func := "grapevine/grapevinelaw13.ParcelUnused", spec := "parcelUnused", unfollowed := true, recurses := true, apart := false, narrowed := true }
def ParcelUnusedUptoSaid : Prop := parcelUnusedUptoRow.holds Try.pinned (OpenSpec.upto parcelUnusedSpec)

/-- 'grapevinelaw08.SpanTakes', WHERE WHAT IT READS IS OF BULK AT MOST 1048576: true; the input reads as it did. -/
def spanTakesUptoRow : OpenClaim := { program := "ytpeacoppclmmlaa", sum := "9e7cf45ddaeef5e9c197eeb6c005f659a5473bea481ed97e8862b249f7afd4d2", func := "grapevine/grapevinelaw08.SpanTakes", spec := "spanTakes", unfollowed := true, recurses := true, apart := false, narrowed := true }
def SpanTakesUptoSaid : Prop := spanTakesUptoRow.holds Try.pinned (OpenSpec.upto spanTakesSpec)

/-- 'grapevinelaw13.ParcelPlain', WHERE WHAT IT READS IS OF BULK AT MOST 1048576: true; the input reads as it did. -/
def parcelPlainUptoRow : OpenClaim := { program := "ytpeacoppclmmlaa", sum := "9e7cf45ddaeef5e9c197eeb6c005f659a5473bea481ed97e8862b249f7afd4d2", func := "grapevine/grapevinelaw13.ParcelPlain", spec := "parcelPlain", unfollowed := true, recurses := true, apart := false, narrowed := true }
def ParcelPlainUptoSaid : Prop := parcelPlainUptoRow.holds Try.pinned (OpenSpec.upto parcelPlainSpec)

/-- 'grapevinelaw08.SpanBack', WHERE WHAT IT READS IS OF BULK AT MOST 1048576: true; the input reads as it did. -/
def spanBackUptoRow : OpenClaim := { program := "ytpeacoppclmmlaa", sum := "9e7cf45ddaeef5e9c197eeb6c005f659a5473bea481ed97e8862b249f7afd4d2", func := "grapevine/grapevinelaw08.SpanBack", spec := "spanBack", unfollowed := true, recurses := true, apart := false, narrowed := true }
def SpanBackUptoSaid : Prop := spanBackUptoRow.holds Try.pinned (OpenSpec.upto spanBackSpec)

/-- 'grapevinelaw08.SpanOnce', WHERE WHAT IT READS IS OF BULK AT MOST 1048576: true; the input reads as it did. -/
def spanOnceUptoRow : OpenClaim := { program := "ytpeacoppclmmlaa", sum := "9e7cf45ddaeef5e9c197eeb6c005f659a5473bea481ed97e8862b249f7afd4d2", func := "grapevine/grapevinelaw08.SpanOnce", spec := "spanOnce", unfollowed := true, recurses := true, apart := false, narrowed := true }
def SpanOnceUptoSaid : Prop := spanOnceUptoRow.holds Try.pinned (OpenSpec.upto spanOnceSpec)

/-- 'grapevinelaw13.ParcelTakes', WHERE WHAT IT READS IS OF BULK AT MOST 1048576: true; the input reads as it did. -/
def parcelTakesUptoRow : OpenClaim := { program := "ytpeacoppclmmlaa", sum := "9e7cf45ddaeef5e9c197eeb6c005f659a5473bea481ed97e8862b249f7afd4d2", func := "grapevine/grapevinelaw13.ParcelTakes", spec := "parcelTakes", unfollowed := true, recurses := true, apart := false, narrowed := true }
def ParcelTakesUptoSaid : Prop := parcelTakesUptoRow.holds Try.pinned (OpenSpec.upto parcelTakesSpec)

/-- 'grapevinelaw13.ParcelBack', WHERE WHAT IT READS IS OF BULK AT MOST 1048576: true; the input reads as it did. -/
def parcelBackUptoRow : OpenClaim := { program := "ytpeacoppclmmlaa", sum := "9e7cf45ddaeef5e9c197eeb6c005f659a5473bea481ed97e8862b249f7afd4d2", func := "grapevine/grapevinelaw13.ParcelBack", spec := "parcelBack", unfollowed := true, recurses := true, apart := false, narrowed := true }
def ParcelBackUptoSaid : Prop := parcelBackUptoRow.holds Try.pinned (OpenSpec.upto parcelBackSpec)

/-- 'grapevinelaw13.ParcelOnce', WHERE WHAT IT READS IS OF BULK AT MOST 1048576: true; the input reads as it did. -/
def parcelOnceUptoRow : OpenClaim := { program := "ytpeacoppclmmlaa", sum := "9e7cf45ddaeef5e9c197eeb6c005f659a5473bea481ed97e8862b249f7afd4d2", func := "grapevine/grapevinelaw13.ParcelOnce", spec := "parcelOnce", unfollowed := true, recurses := true, apart := false, narrowed := true }
def ParcelOnceUptoSaid : Prop := parcelOnceUptoRow.holds Try.pinned (OpenSpec.upto parcelOnceSpec)

end Rows
end Go.Proofs.Ytpeacoppclmmlaa
