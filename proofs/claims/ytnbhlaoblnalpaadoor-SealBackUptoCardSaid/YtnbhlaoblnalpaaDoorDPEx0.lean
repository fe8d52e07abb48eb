-- PRINTED by gprint.py (a session's own driver over the kit's print): not trusted; Lean checks it.
import Derived.Test.YtnbhlaoblnalpaaDoorProg
import Derived.Below
import Derived.Deep.Draws
import Derived.Deep.AppendLies
import Derived.Maps.AppendAt
import Derived.OwnWalk
import Derived.Laws.BytesArg
import Derived.Laws.MakeOwn
import Derived.Laws.OwnMore
import Derived.Deep.OwnRows
import Derived.Tactics
import Derived.Lib.ConvBytes
import Derived.Laws.Slices
import Derived.WalkKit
import Derived.KernelRfl
import Derived.RowKit3
import Derived.Deep.LoopGhost
import Derived.Deep.QuietTactic
import Derived.BigQuiet
import Derived.WideLaws
import Derived.Deep.DeepCutAuto
import Derived.Deep.CutBlock
import Derived.Deep.RegionHeld3
import Derived.Laws.Rows
import Derived.Lib.AppendStr
import Derived.ArgAppend
import Derived.Laws.IdiomCopy
import Derived.OrdersHeld
import Derived.Laws.BitsLemmas
import Derived.RowKit
import Derived.ScopeJumps
import Derived.WalkMore
import Derived.Lib.SlBytesConst
import Derived.Test.YtnbhlaoblnalpaaDoorDWWords
import Derived.Test.YtnbhlaoblnalpaaDoorDWLast
import Derived.Test.YtnbhlaoblnalpaaDoorDWTab
import Derived.Test.YtnbhlaoblnalpaaDoorDWFour
import Derived.Test.YtnbhlaoblnalpaaDoorDWQPut
import Derived.Test.YtnbhlaoblnalpaaDoorDWApart
import Derived.Test.YtnbhlaoblnalpaaDoorDWArr
import Derived.Test.YtnbhlaoblnalpaaDoorDWZeros
import Derived.Test.YtnbhlaoblnalpaaDoorDWFoot
import Derived.Test.YtnbhlaoblnalpaaDoorDWKept
import Derived.Test.YtnbhlaoblnalpaaDoorDWShare
import Derived.Test.YtnbhlaoblnalpaaDoorDWN
import Derived.Test.YtnbhlaoblnalpaaDoorDWFootNe
import Derived.Test.YtnbhlaoblnalpaaDoorDWAt
import Derived.Test.YtnbhlaoblnalpaaDoorDWEqStruct
import Derived.Test.YtnbhlaoblnalpaaDoorDWRepsOne
import Derived.Test.YtnbhlaoblnalpaaDoorDWInv
import Derived.Test.YtnbhlaoblnalpaaDoorDWInvWords
import Derived.Test.YtnbhlaoblnalpaaDoorDWGuard
import Derived.Test.YtnbhlaoblnalpaaDoorDWNEv
import Derived.Test.YtnbhlaoblnalpaaDoorDWMore
namespace Go.Proofs.YtnbhlaoblnalpaaDoor.PE
open Go.RowKit Go.Proofs.YtnbhlaoblnalpaaDoorW.PrintWords Go.Proofs.YtnbhlaoblnalpaaDoorW.PrintLast Go.Proofs.YtnbhlaoblnalpaaDoorW.PrintMore
attribute [local go_sem] max2_int min2_int max_two min_two max_three min_three max_four min_four   -- for this text's walks alone
set_option linter.unusedVariables false
set_option linter.unusedSimpArgs false



theorem info5 : (Tryd.prog.info? 5).map (fun i => (i.zero, i.size, i.bytes)) = some (some (.int .u8 0), 1, 1) := by kernel_rfl
-- the values' own types
/-! #### struct type 39 -/
/-! #### struct type 45 -/
structure S45 where
  f0 : (List Int)
  f1 : (List Int)
  f2 : (List Int)
def k45 : Kd S45 := Kd.iso (Kd.pair (Kd.slice 5 (Kd.int .u8)) (Kd.pair (Kd.slice 5 (Kd.int .u8)) (Kd.slice 5 (Kd.int .u8)))) (fun x : S45 => (x.f0, x.f1, x.f2))
theorem k45_open {w : World} {x : S45} {cs : List Value} (h : k45.K w x cs) : ∃ A0 c0 A1 c1 A2 c2, cs = [.slice A0 x.f0.length c0, .slice A1 x.f1.length c1, .slice A2 x.f2.length c2] ∧ x.f0.length ≤ c0 ∧ (Kd.int .u8).C w A0 x.f0.length x.f0 ∧ x.f1.length ≤ c1 ∧ (Kd.int .u8).C w A1 x.f1.length x.f1 ∧ x.f2.length ≤ c2 ∧ (Kd.int .u8).C w A2 x.f2.length x.f2 := by
  obtain ⟨_, _, rfl, ⟨A0, c0, rfl, l0, g0⟩, ⟨_, _, rfl, ⟨A1, c1, rfl, l1, g1⟩, ⟨A2, c2, rfl, l2, g2⟩⟩⟩ := h
  exact ⟨A0, c0, A1, c1, A2, c2, rfl, l0, g0, l1, g1, l2, g2⟩
end Go.Proofs.YtnbhlaoblnalpaaDoor.PE
