-- PRINTED by gprint.py (a session's own driver over the kit's print): not trusted; Lean checks it.
import Derived.Test.YtpeacoppclmmlaaPUPPx0
import Derived.Test.YtpeacoppclmmlaaPUPPx4
import Derived.Test.YtpeacoppclmmlaaPUPPx7
import Derived.Test.YtpeacoppclmmlaaPUPPx8
namespace Go.Proofs.Ytpeacoppclmmlaa.PP
open Go.RowKit Go.Proofs.YtpeacoppclmmlaaW.PrintWords Go.Proofs.YtpeacoppclmmlaaW.PrintLast Go.Proofs.YtpeacoppclmmlaaW.PrintMore
attribute [local go_sem] max2_int min2_int max_two min_two max_three min_three max_four min_four   -- for this text's walks alone
set_option linter.unusedVariables false
set_option linter.unusedSimpArgs false

/-! ### grapevinelaw13_ParcelChecks: function 13 -/
/-! ### grapevineref02_Uint: function 66 -/
def grapevineref02_Uint.l0 : Nat → Int → List Int → Option (List Int)
 | 0, _, _ => none
 | k + 1, x0, x3 => if x0 > 127 then (if x3.length < 140737488355328 then (grapevineref02_Uint.l0 k (IntKind.u64.wrap (Int.tdiv x0 128)) (x3 ++ [(IntKind.u64.wrap (128 + (Int.tmod x0 128))) % 256])) else (none)) else (if x3.length < 140737488355328 then (some (x3 ++ [(x0) % 256])) else (none))
def grapevineref02_Uint.f (k : Nat) (a0 : Int) : Option (List Int) := grapevineref02_Uint.l0 k a0 (([] : List Int))
end Go.Proofs.Ytpeacoppclmmlaa.PP
