-- PRINTED by gprint.py (a session's own driver over the kit's print): not trusted; Lean checks it.
import Derived.Test.YtpeacoppclmmlaaPUPPx0
import Derived.Test.YtpeacoppclmmlaaPUPPx7
import Derived.Test.YtpeacoppclmmlaaPUPPx9
namespace Go.Proofs.Ytpeacoppclmmlaa.PP
open Go.RowKit Go.Proofs.YtpeacoppclmmlaaW.PrintWords Go.Proofs.YtpeacoppclmmlaaW.PrintLast Go.Proofs.YtpeacoppclmmlaaW.PrintMore
attribute [local go_sem] max2_int min2_int max_two min_two max_three min_three max_four min_four   -- for this text's walks alone
set_option linter.unusedVariables false
set_option linter.unusedSimpArgs false

/-! ### grapevineref08_Put: function 43 -/
def grapevineref08_Put.l0 : Nat → List (S43) → List Int → Int → Option (List Int × Int)
 | 0, _, _, _ => none
 | k + 1, x0, x4, x5 => if x5 < (x0.length : Int) then (if x5 > 0 then (if 0 ≤ (wrap64 (x5 - 1)) then (if (wrap64 (x5 - 1)) < (x0.length : Int) then (if 0 ≤ x5 then ((grapevineref02_Uint.f k (IntKind.u64.wrap (wrap64 ((wrap64 (((rd_T43 x0 x5).f0) - ((rd_T43 x0 (wrap64 (x5 - 1))).f1))) - 1)))).bind fun t190 => (if x4.length + t190.length < 140737488355328 then ((some (x4 ++ t190 : List Int)).bind fun y193 => ((grapevineref02_Uint.f k (IntKind.u64.wrap (wrap64 (((rd_T43 x0 x5).f1) - ((rd_T43 x0 x5).f0))))).bind fun t198 => (if y193.length + t198.length < 140737488355328 then ((some (y193 ++ t198 : List Int)).bind fun y201 => (if y201.length < 140737488355328 then (grapevineref08_Put.l0 k x0 (y201 ++ [((rd_T43 x0 x5).f2) % 256]) (wrap64 (x5 + 1))) else (none))) else (none)))) else (none))) else (none)) else (none)) else (none)) else (if 0 ≤ x5 then ((grapevineref02_Uint.f k (IntKind.u64.wrap (wrap64 ((wrap64 ((rd_T43 x0 x5).f0)) - 1)))).bind fun t209 => (if x4.length + t209.length < 140737488355328 then ((some (x4 ++ t209 : List Int)).bind fun y212 => ((grapevineref02_Uint.f k (IntKind.u64.wrap (wrap64 (((rd_T43 x0 x5).f1) - ((rd_T43 x0 x5).f0))))).bind fun t217 => (if y212.length + t217.length < 140737488355328 then ((some (y212 ++ t217 : List Int)).bind fun y220 => (if y220.length < 140737488355328 then (grapevineref08_Put.l0 k x0 (y220 ++ [((rd_T43 x0 x5).f2) % 256]) (wrap64 (x5 + 1))) else (none))) else (none)))) else (none))) else (none))) else (some (x4, 0))
def grapevineref08_Put.f (k : Nat) (l0 : List (S43)) : Option (List Int × Int) := (grapevineref08_Right.f k l0).bind fun t184 => (if t184 = true then (if (l0.length : Int) > 256 then (some (([] : List Int), 6)) else ((grapevineref02_Uint.f k (IntKind.u64.wrap ((l0.length : Int)))).bind fun t185 => (grapevineref08_Put.l0 k l0 t185 0))) else (some (([] : List Int), 2)))
/-! ### grapevineref13_num: function 73 -/
end Go.Proofs.Ytpeacoppclmmlaa.PP
