-- PRINTED by gprint.py (a session's own driver over the kit's print): not trusted; Lean checks it.
import Derived.Test.YtpeacoppclmmlaaDPSx0
import Derived.Test.YtpeacoppclmmlaaDPSx4
import Derived.Test.YtpeacoppclmmlaaDPSx5
import Derived.Test.YtpeacoppclmmlaaDPSx11
namespace Go.Proofs.Ytpeacoppclmmlaa.PS
open Go.RowKit Go.Proofs.YtpeacoppclmmlaaW.PrintWords Go.Proofs.YtpeacoppclmmlaaW.PrintLast Go.Proofs.YtpeacoppclmmlaaW.PrintMore
attribute [local go_sem] max2_int min2_int max_two min_two max_three min_three max_four min_four   -- for this text's walks alone
set_option linter.unusedVariables false
set_option linter.unusedSimpArgs false

/-! ### grapevineref08_Put: function 43 -/
def grapevineref08_Put.l0 : Nat → List (S43) → List Int → Int → Option (List Int × Int)
  | 0, _, _, _ => none
  | k + 1, x0, x4, x5 => if x5 < (x0.length : Int) then (if x5 > 0 then (if 0 ≤ (wrap64 (x5 - 1)) then (if (wrap64 (x5 - 1)) < (x0.length : Int) then (if 0 ≤ x5 then ((grapevineref02_Uint.f k (IntKind.u64.wrap (wrap64 ((wrap64 (((rd_T43 x0 x5).f0) - ((rd_T43 x0 (wrap64 (x5 - 1))).f1))) - 1)))).bind fun t458 => (if x4.length + t458.length < 140737488355328 then ((some (x4 ++ t458 : List Int)).bind fun y461 => ((grapevineref02_Uint.f k (IntKind.u64.wrap (wrap64 (((rd_T43 x0 x5).f1) - ((rd_T43 x0 x5).f0))))).bind fun t466 => (if y461.length + t466.length < 140737488355328 then ((some (y461 ++ t466 : List Int)).bind fun y469 => (if y469.length < 140737488355328 then (grapevineref08_Put.l0 k x0 (y469 ++ [((rd_T43 x0 x5).f2) % 256]) (wrap64 (x5 + 1))) else (none))) else (none)))) else (none))) else (none)) else (none)) else (none)) else (if 0 ≤ x5 then ((grapevineref02_Uint.f k (IntKind.u64.wrap (wrap64 ((wrap64 ((rd_T43 x0 x5).f0)) - 1)))).bind fun t477 => (if x4.length + t477.length < 140737488355328 then ((some (x4 ++ t477 : List Int)).bind fun y480 => ((grapevineref02_Uint.f k (IntKind.u64.wrap (wrap64 (((rd_T43 x0 x5).f1) - ((rd_T43 x0 x5).f0))))).bind fun t485 => (if y480.length + t485.length < 140737488355328 then ((some (y480 ++ t485 : List Int)).bind fun y488 => (if y488.length < 140737488355328 then (grapevineref08_Put.l0 k x0 (y488 ++ [((rd_T43 x0 x5).f2) % 256]) (wrap64 (x5 + 1))) else (none))) else (none)))) else (none))) else (none))) else (some (x4, 0))
def grapevineref08_Put.f (k : Nat) (l0 : List (S43)) : Option (List Int × Int) := (grapevineref08_Right.f k l0).bind fun t452 => (if t452 = true then (if (l0.length : Int) > 256 then (some (([] : List Int), 6)) else ((grapevineref02_Uint.f k (IntKind.u64.wrap ((l0.length : Int)))).bind fun t453 => (grapevineref08_Put.l0 k l0 t453 0))) else (some (([] : List Int), 2)))
/-! ### grapevinelaw08_SpanPuts: function 11 -/
end Go.Proofs.Ytpeacoppclmmlaa.PS
