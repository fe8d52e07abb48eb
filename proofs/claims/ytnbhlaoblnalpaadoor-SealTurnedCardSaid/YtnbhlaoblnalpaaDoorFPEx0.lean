-- PRINTED by gprint.py (a session's own driver over the kit's print): not trusted; Lean checks it.
import Derived.Test.YtnbhlaoblnalpaaDoorProg
import Derived.Below
import Derived.Deep.Draws
import Derived.Deep.AppendLies
import Derived.Maps.AppendAt
import Derived.OwnWalk
import Derived.Laws.BytesArg
import Derived.Laws.MakeOwn
import Derived.Laws.OwnMore
import Derived.Deep.OwnRows
import Derived.Tactics
import Derived.Lib.ConvBytes
import Derived.Laws.Slices
import Derived.WalkKit
import Derived.KernelRfl
import Derived.RowKit3
import Derived.Deep.LoopGhost
import Derived.Deep.QuietTactic
import Derived.BigQuiet
import Derived.WideLaws
import Derived.Deep.DeepCutAuto
import Derived.Deep.CutBlock
import Derived.Deep.RegionHeld3
import Derived.Laws.Rows
import Derived.Lib.AppendStr
import Derived.ArgAppend
import Derived.Laws.IdiomCopy
import Derived.OrdersHeld
import Derived.Laws.BitsLemmas
import Derived.RowKit
import Derived.ScopeJumps
import Derived.WalkMore
import Derived.Lib.SlBytesConst
import Derived.Test.YtnbhlaoblnalpaaDoorFWWords
import Derived.Test.YtnbhlaoblnalpaaDoorFWLast
import Derived.Test.YtnbhlaoblnalpaaDoorFWTab
import Derived.Test.YtnbhlaoblnalpaaDoorFWFour
import Derived.Test.YtnbhlaoblnalpaaDoorFWQPut
import Derived.Test.YtnbhlaoblnalpaaDoorFWApart
import Derived.Test.YtnbhlaoblnalpaaDoorFWArr
import Derived.Test.YtnbhlaoblnalpaaDoorFWZeros
import Derived.Test.YtnbhlaoblnalpaaDoorFWFoot
import Derived.Test.YtnbhlaoblnalpaaDoorFWKept
import Derived.Test.YtnbhlaoblnalpaaDoorFWShare
import Derived.Test.YtnbhlaoblnalpaaDoorFWN
import Derived.Test.YtnbhlaoblnalpaaDoorFWFootNe
import Derived.Test.YtnbhlaoblnalpaaDoorFWAt
import Derived.Test.YtnbhlaoblnalpaaDoorFWEqStruct
import Derived.Test.YtnbhlaoblnalpaaDoorFWRepsOne
import Derived.Test.YtnbhlaoblnalpaaDoorFWInv
import Derived.Test.YtnbhlaoblnalpaaDoorFWInvWords
import Derived.Test.YtnbhlaoblnalpaaDoorFWGuard
import Derived.Test.YtnbhlaoblnalpaaDoorFWNEv
import Derived.Test.YtnbhlaoblnalpaaDoorFWMore
namespace Go.Proofs.YtnbhlaoblnalpaaDoor.PE
open Go.RowKit Go.Proofs.YtnbhlaoblnalpaaDoorW.PrintWords Go.Proofs.YtnbhlaoblnalpaaDoorW.PrintLast Go.Proofs.YtnbhlaoblnalpaaDoorW.PrintMore
attribute [local go_sem] max2_int min2_int max_two min_two max_three min_three max_four min_four   -- for this text's walks alone
set_option linter.unusedVariables false
set_option linter.unusedSimpArgs false



theorem info5 : (Tryd.prog.info? 5).map (fun i => (i.zero, i.size, i.bytes)) = some (some (.int .u8 0), 1, 1) := by kernel_rfl
-- the values' own types
/-! #### struct type 39 -/
/-! #### struct type 45 -/
end Go.Proofs.YtnbhlaoblnalpaaDoor.PE
