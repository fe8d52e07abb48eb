-- PRINTED by gprint.py (a session's own driver over the kit's print): not trusted; Lean checks it.
import Derived.Test.YtnbhlaoblnalpaaDoorProg
import Derived.Below
import Derived.Deep.Draws
import Derived.Deep.AppendLies
import Derived.Maps.AppendAt
import Derived.OwnWalk
import Derived.Laws.BytesArg
import Derived.Laws.MakeOwn
import Derived.Laws.OwnMore
import Derived.Deep.OwnRows
import Derived.Tactics
import Derived.Lib.ConvBytes
import Derived.Laws.Slices
import Derived.WalkKit
import Derived.KernelRfl
import Derived.RowKit3
import Derived.Deep.LoopGhost
import Derived.Deep.QuietTactic
import Derived.BigQuiet
import Derived.WideLaws
import Derived.Deep.DeepCutAuto
import Derived.Deep.CutBlock
import Derived.Deep.RegionHeld3
import Derived.Laws.Rows
import Derived.Lib.AppendStr
import Derived.ArgAppend
import Derived.Laws.IdiomCopy
import Derived.OrdersHeld
import Derived.Laws.BitsLemmas
import Derived.RowKit
import Derived.ScopeJumps
import Derived.WalkMore
import Derived.Lib.SlBytesConst
import Derived.Test.YtnbhlaoblnalpaaDoorBWWords
import Derived.Test.YtnbhlaoblnalpaaDoorBWLast
import Derived.Test.YtnbhlaoblnalpaaDoorBWTab
import Derived.Test.YtnbhlaoblnalpaaDoorBWFour
import Derived.Test.YtnbhlaoblnalpaaDoorBWQPut
import Derived.Test.YtnbhlaoblnalpaaDoorBWApart
import Derived.Test.YtnbhlaoblnalpaaDoorBWArr
import Derived.Test.YtnbhlaoblnalpaaDoorBWZeros
import Derived.Test.YtnbhlaoblnalpaaDoorBWFoot
import Derived.Test.YtnbhlaoblnalpaaDoorBWKept
import Derived.Test.YtnbhlaoblnalpaaDoorBWShare
import Derived.Test.YtnbhlaoblnalpaaDoorBWN
import Derived.Test.YtnbhlaoblnalpaaDoorBWFootNe
import Derived.Test.YtnbhlaoblnalpaaDoorBWAt
import Derived.Test.YtnbhlaoblnalpaaDoorBWEqStruct
import Derived.Test.YtnbhlaoblnalpaaDoorBWRepsOne
import Derived.Test.YtnbhlaoblnalpaaDoorBWInv
import Derived.Test.YtnbhlaoblnalpaaDoorBWInvWords
import Derived.Test.YtnbhlaoblnalpaaDoorBWGuard
import Derived.Test.YtnbhlaoblnalpaaDoorBWNEv
import Derived.Test.YtnbhlaoblnalpaaDoorBWMore
namespace Go.Proofs.YtnbhlaoblnalpaaDoor.PE
open Go.RowKit Go.Proofs.YtnbhlaoblnalpaaDoorW.PrintWords Go.Proofs.YtnbhlaoblnalpaaDoorW.PrintLast Go.Proofs.YtnbhlaoblnalpaaDoorW.PrintMore
attribute [local go_sem] max2_int min2_int max_two min_two max_three min_three max_four min_four   -- for this text's walks alone
set_option linter.unusedVariables false
set_option linter.unusedSimpArgs false



def errW : Option Int → Value
  | none => .nilIface
  | some c => .iface 0 (.int .i64 c)
theorem errW_none : errW none = .nilIface := rfl
theorem errW_some (c : Int) : errW (some c) = .iface 0 (.int .i64 c) := rfl

theorem info5 : (Tryd.prog.info? 5).map (fun i => (i.zero, i.size, i.bytes)) = some (some (.int .u8 0), 1, 1) := by kernel_rfl
-- the values' own types
/-! #### struct type 39 -/
end Go.Proofs.YtnbhlaoblnalpaaDoor.PE
