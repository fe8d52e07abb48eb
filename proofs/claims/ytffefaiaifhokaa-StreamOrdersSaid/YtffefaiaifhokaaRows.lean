/-
  No cell of these rows narrows 'for every input' (looked for: loops, veiled, ifaces, maps, wideKeys, modest, calm, conditions, laid).
  DERIVED. THE GIVEN ROWS OF THIS SEAT. 6 by the template 'for every input the law returns true; each argument reads behind the call as it read before'; 0 by the template 'total and deterministic' (their statements: YtffefaiaifhokaaTotals.lean).
  GIVEN WITH THE SEED: the statements are not yours to turn. If you find one false, say at which input.
  Laid BY PROGRAM, IN A SANDBOX (cutbox-rows.mjs): the forced cells as the released guide's own fill.sh prints them over the translation f02c0224073aa6d3… (all of the seat's roots in one cut). By AI agents, Wed Nov 11 2026. No macro, syntax, notation, axiom, sorry.
-/
import Derived.Test.YtffefaiaifhokaaChecked
import GoSem.Claim
import GoSem.ClaimJoined
import GoSem.ClaimMapViews
import Derived.JoinedTies
import Derived.KernelRfl
namespace Go.Proofs.Ytffefaiaifhokaa
/- THE CELL 'sum', in the pinned program and in every row, IS THE sha256 OF THE DUMP (.gsa) THAT YtffefaiaifhokaaProg.lean LOADS. Nothing in Lean hashes anything: it is a label: what it is worth is what the hold of that sum in a sandbox is worth. -/
noncomputable def Try.pinned : Pinned := { name := "ytffefaiaifhokaa", sum := "f02c0224073aa6d3e6fc321c5e03cbb2d2a6a0af9fcb3ce00fa9930ad98035a4", checked := Try.checked }
namespace Rows
def none {H : Type} : Left H := { results := [], args := [] }

/-- 'grapevinelaw15.StreamOrders': WHATEVER THE INPUT: true; the input reads as it did. -/
def streamOrdersSpec : ChangeSpec := { name := "streamOrders", fn := fun _ => fun
  | [d1, d2] => { results := [.lit (.bool true)], args := [d1, d2] }
  | _ => none }
def streamOrdersRow : OpenClaim := { program := "ytffefaiaifhokaa", sum := "f02c0224073aa6d3e6fc321c5e03cbb2d2a6a0af9fcb3ce00fa9930ad98035a4", func := "grapevine/grapevinelaw15.StreamOrders", spec := "streamOrders", inPlace := ["maps.clone"], unfollowed := true, recurses := true, apart := false }
def StreamOrdersSaid : Prop := streamOrdersRow.holds Try.pinned (OpenSpec.ofChange streamOrdersSpec)

/-- ITS FALSE NEIGHBOUR: 'it returns false'. Refute it at one input. -/
def streamOrdersWrong : ChangeSpec := { name := "streamOrders", fn := fun _ => fun
  | [d1, d2] => { results := [.lit (.bool false)], args := [d1, d2] }
  | _ => none }
def StreamOrdersWrongFalsely : Prop := streamOrdersRow.holds Try.pinned (OpenSpec.ofChange streamOrdersWrong)

/-- 'grapevinelaw15.StreamPlays': WHATEVER THE INPUT: true; the input reads as it did. -/
def streamPlaysSpec : ChangeSpec := { name := "streamPlays", fn := fun _ => fun
  | [d] => { results := [.lit (.bool true)], args := [d] }
  | _ => none }
def streamPlaysRow : OpenClaim := { program := "ytffefaiaifhokaa", sum := "f02c0224073aa6d3e6fc321c5e03cbb2d2a6a0af9fcb3ce00fa9930ad98035a4", func := "grapevine/grapevinelaw15.StreamPlays", spec := "streamPlays", inPlace := ["maps.clone"], unfollowed := true, recurses := true, apart := false }
def StreamPlaysSaid : Prop := streamPlaysRow.holds Try.pinned (OpenSpec.ofChange streamPlaysSpec)

/-- ITS FALSE NEIGHBOUR: 'it returns false'. Refute it at one input. -/
def streamPlaysWrong : ChangeSpec := { name := "streamPlays", fn := fun _ => fun
  | [d] => { results := [.lit (.bool false)], args := [d] }
  | _ => none }
def StreamPlaysWrongFalsely : Prop := streamPlaysRow.holds Try.pinned (OpenSpec.ofChange streamPlaysWrong)

/-- 'grapevinelaw15.StreamTells': WHATEVER THE INPUT: true; the input reads as it did. -/
def streamTellsSpec : ChangeSpec := { name := "streamTells", fn := fun _ => fun
  | [d1, d2] => { results := [.lit (.bool true)], args := [d1, d2] }
  | _ => none }
def streamTellsRow : OpenClaim := { program := "ytffefaiaifhokaa", sum := "f02c0224073aa6d3e6fc321c5e03cbb2d2a6a0af9fcb3ce00fa9930ad98035a4", func := "grapevine/grapevinelaw15.StreamTells", spec := "streamTells", inPlace := ["maps.clone"], unfollowed := true, recurses := true, apart := false }
def StreamTellsSaid : Prop := streamTellsRow.holds Try.pinned (OpenSpec.ofChange streamTellsSpec)

/-- ITS FALSE NEIGHBOUR: 'it returns false'. Refute it at one input. -/
def streamTellsWrong : ChangeSpec := { name := "streamTells", fn := fun _ => fun
  | [d1, d2] => { results := [.lit (.bool false)], args := [d1, d2] }
  | _ => none }
def StreamTellsWrongFalsely : Prop := streamTellsRow.holds Try.pinned (OpenSpec.ofChange streamTellsWrong)

/-- 'grapevinelaw15.StreamLoses': WHATEVER THE INPUT: true; the input reads as it did. -/
def streamLosesSpec : ChangeSpec := { name := "streamLoses", fn := fun _ => fun
  | [d1, d2] => { results := [.lit (.bool true)], args := [d1, d2] }
  | _ => none }
def streamLosesRow : OpenClaim := { program := "ytffefaiaifhokaa", sum := "f02c0224073aa6d3e6fc321c5e03cbb2d2a6a0af9fcb3ce00fa9930ad98035a4", func := "grapevine/grapevinelaw15.StreamLoses", spec := "streamLoses", inPlace := ["maps.clone"], unfollowed := true, recurses := true, apart := false }
def StreamLosesSaid : Prop := streamLosesRow.holds Try.pinned (OpenSpec.ofChange streamLosesSpec)

/-- ITS FALSE NEIGHBOUR: 'it returns false'. Refute it at one input. -/
def streamLosesWrong : ChangeSpec := { name := "streamLoses", fn := fun _ => fun
  | [d1, d2] => { results := [.lit (.bool false)], args := [d1, d2] }
  | _ => none }
def StreamLosesWrongFalsely : Prop := streamLosesRow.holds Try.pinned (OpenSpec.ofChange streamLosesWrong)

/-- 'grapevinelaw15.StreamForks': WHATEVER THE INPUT: true; the input reads as it did. -/
def streamForksSpec : ChangeSpec := { name := "streamForks", fn := fun _ => fun
  | [d1, d2] => { results := [.lit (.bool true)], args := [d1, d2] }
  | _ => none }
def streamForksRow : OpenClaim := { program := "ytffefaiaifhokaa", sum := "f02c0224073aa6d3e6fc321c5e03cbb2d2a6a0af9fcb3ce00fa9930ad98035a4", func := "grapevine/grapevinelaw15.StreamForks", spec := "streamForks", inPlace := ["maps.clone"], unfollowed := true, recurses := true, apart := false }
def StreamForksSaid : Prop := streamForksRow.holds Try.pinned (OpenSpec.ofChange streamForksSpec)

/-- ITS FALSE NEIGHBOUR: 'it returns false'. Refute it at one input. -/
def streamForksWrong : ChangeSpec := { name := "streamForks", fn := fun _ => fun
  | [d1, d2] => { results := [.lit (.bool false)], args := [d1, d2] }
  | _ => none }
def StreamForksWrongFalsely : Prop := streamForksRow.holds Try.pinned (OpenSpec.ofChange streamForksWrong)

/-- 'grapevinelaw15.StreamNone': WHATEVER THE INPUT: true; the input reads as it did. -/
def streamNoneSpec : ChangeSpec := { name := "streamNone", fn := fun _ => fun
  | [d1, d2, d3] => { results := [.lit (.bool true)], args := [d1, d2, d3] }
  | _ => none }
def streamNoneRow : OpenClaim := { program := "ytffefaiaifhokaa", sum := "f02c0224073aa6d3e6fc321c5e03cbb2d2a6a0af9fcb3ce00fa9930ad98035a4", func := "grapevine/grapevinelaw15.StreamNone", spec := "streamNone", inPlace := ["maps.clone"], unfollowed := true, recurses := true, apart := false }
def StreamNoneSaid : Prop := streamNoneRow.holds Try.pinned (OpenSpec.ofChange streamNoneSpec)

/-- ITS FALSE NEIGHBOUR: 'it returns false'. Refute it at one input. -/
def streamNoneWrong : ChangeSpec := { name := "streamNone", fn := fun _ => fun
  | [d1, d2, d3] => { results := [.lit (.bool false)], args := [d1, d2, d3] }
  | _ => none }
def StreamNoneWrongFalsely : Prop := streamNoneRow.holds Try.pinned (OpenSpec.ofChange streamNoneWrong)

/- THE SECOND FORM. 'bulk': how many values and letters a reading holds, each counted each time it is reached (what is shared counts as often as it is met; a slice's spare places count too). A statement '..UptoSaid' is the law's where the arguments, and the package variables that the reading takes, are together of bulk at most 1048576: NARROWER than '..Said'. Prove '..Said' where nothing that the law and all that it calls make is longer than what came in: it says more and counts as full. Else prove '..UptoSaid'. A law counts once. -/
mutual
def uptoBulk {H : Type} : DataW H → Nat
  | .lit (.string bytes) => bytes.length + 1
  | .lit _ => 1
  | .nil => 1
  | .ptr d => uptoBulk d + 1
  | .slice elems spare => uptoBulkAll elems + uptoBulkAll spare + 1
  | .agg parts => uptoBulkAll parts + 1
  | .iface _ d => uptoBulk d + 1
  | .map entries => uptoBulkEntries entries + 1
  | .held _ => 1
def uptoBulkAll {H : Type} : List (DataW H) → Nat
  | [] => 0
  | d :: r => uptoBulk d + uptoBulkAll r
def uptoBulkEntries {H : Type} : List (Lit × DataW H) → Nat
  | [] => 0
  | x :: r => uptoBulkEntry x + uptoBulkEntries r
def uptoBulkEntry {H : Type} : Lit × DataW H → Nat
  | (.string bytes, d) => bytes.length + uptoBulk d + 1
  | (_, d) => uptoBulk d + 1
 end
def uptoSmall : (H : Type) → List (DataW H) → Bool := fun _ ds => decide (uptoBulkAll ds ≤ 1048576)
def OpenSpec.upto (s : _root_.Go.ChangeSpec) : _root_.Go.OpenSpec := { _root_.Go.OpenSpec.ofChange s with cond := some uptoSmall }

/-- 'grapevinelaw15.StreamOrders', WHERE WHAT IT READS IS OF BULK AT MOST 1048576: true; the input reads as it did. -/
def streamOrdersUptoRow : OpenClaim := { program := "ytffefaiaifhokaa", sum := "f02c0224073aa6d3e6fc321c5e03cbb2d2a6a0af9fcb3ce00fa9930ad98035a4", func := "grapevine/grapevinelaw15.StreamOrders", spec := "streamOrders", inPlace := ["maps.clone"], unfollowed := true, recurses := true, apart := false, narrowed := true }
def StreamOrdersUptoSaid : Prop := streamOrdersUptoRow.holds Try.pinned (OpenSpec.upto streamOrdersSpec)

/-- 'grapevinelaw15.StreamPlays', WHERE WHAT IT READS IS OF BULK AT MOST 1048576: true; the input reads as it did. -/
def streamPlaysUptoRow : OpenClaim := { program := "ytffefaiaifhokaa", sum := "f02c0224073aa6d3e6fc321c5e03cbb2d2a6a0af9fcb3ce00fa9930ad98035a4", func := "grapevine/grapevinelaw15.StreamPlays", spec := "streamPlays", inPlace := ["maps.clone"], unfollowed := true, recurses := true, apart := false, narrowed := true }
def StreamPlaysUptoSaid : Prop := streamPlaysUptoRow.holds Try.pinned (OpenSpec.upto streamPlaysSpec)

/-- 'grapevinelaw15.StreamTells', WHERE WHAT IT READS IS OF BULK AT MOST 1048576: true; the input reads as it did. -/
def streamTellsUptoRow : OpenClaim := { program := "ytffefaiaifhokaa", sum := "f02c0224073aa6d3e6fc321c5e03cbb2d2a6a0af9fcb3ce00fa9930ad98035a4", func := "grapevine/grapevinelaw15.StreamTells", spec := "streamTells", inPlace := ["maps.clone"], unfollowed := true, recurses := true, apart := false, narrowed := true }
def StreamTellsUptoSaid : Prop := streamTellsUptoRow.holds Try.pinned (OpenSpec.upto streamTellsSpec)

/-- 'grapevinelaw15.StreamLoses', WHERE WHAT IT READS IS OF BULK AT MOST 1048576: true; the input reads as it did. -/
def streamLosesUptoRow : OpenClaim := { program := "ytffefaiaifhokaa", sum := "f02c0224073aa6d3e6fc321c5e03cbb2d2a6a0af9fcb3ce00fa9930ad98035a4", func := "grapevine/grapevinelaw15.StreamLoses", spec := "streamLoses", inPlace := ["maps.clone"], unfollowed := true, recurses := true, apart := false, narrowed := true }
def StreamLosesUptoSaid : Prop := streamLosesUptoRow.holds Try.pinned (OpenSpec.upto streamLosesSpec)

/-- 'grapevinelaw15.StreamForks', WHERE WHAT IT READS IS OF BULK AT MOST 1048576: true; the input reads as it did. -/
def streamForksUptoRow : OpenClaim := { program := "ytffefaiaifhokaa", sum := "f02c0224073aa6d3e6fc321c5e03cbb2d2a6a0af9fcb3ce00fa9930ad98035a4", func := "grapevine/grapevinelaw15.StreamForks", spec := "streamForks", inPlace := ["maps.clone"], unfollowed := true, recurses := true, apart := false, narrowed := true }
def StreamForksUptoSaid : Prop := streamForksUptoRow.holds Try.pinned (OpenSpec.upto streamForksSpec)

/-- 'grapevinelaw15.StreamNone', WHERE WHAT IT READS IS OF BULK AT MOST 1048576: true; the input reads as it did. -/
def streamNoneUptoRow : OpenClaim := { program := "ytffefaiaifhokaa", sum := "f02c0224073aa6d3e6fc321c5e03cbb2d2a6a0af9fcb3ce00fa9930ad98035a4", func := "grapevine/grapevinelaw15.StreamNone", spec := "streamNone", inPlace := ["maps.clone"], unfollowed := true, recurses := true, apart := false, narrowed := true }
def StreamNoneUptoSaid : Prop := streamNoneUptoRow.holds Try.pinned (OpenSpec.upto streamNoneSpec)

end Rows
end Go.Proofs.Ytffefaiaifhokaa
