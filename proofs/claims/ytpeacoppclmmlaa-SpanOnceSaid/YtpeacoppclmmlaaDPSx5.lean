-- PRINTED by gprint.py (a session's own driver over the kit's print): not trusted; Lean checks it.
import Derived.Test.YtpeacoppclmmlaaDPSx0
namespace Go.Proofs.Ytpeacoppclmmlaa.PS
open Go.RowKit Go.Proofs.YtpeacoppclmmlaaW.PrintWords Go.Proofs.YtpeacoppclmmlaaW.PrintLast Go.Proofs.YtpeacoppclmmlaaW.PrintMore
attribute [local go_sem] max2_int min2_int max_two min_two max_three min_three max_four min_four   -- for this text's walks alone
set_option linter.unusedVariables false
set_option linter.unusedSimpArgs false

/-! ### grapevineref08_Right: function 34 -/
mutual
def grapevineref08_Right.l0 : Nat → List (S43) → Int → Option (Bool)
  | 0, _, _ => none
  | k + 1, x0, x3 => if x3 < (x0.length : Int) then (if 0 ≤ x3 then (if ((rd_T43 x0 x3).f2) < 1 then (grapevineref08_Right.j1 k x0 x3 true) else (if ((rd_T43 x0 x3).f2) > 3 then (grapevineref08_Right.j1 k x0 x3 true) else (if ((rd_T43 x0 x3).f0) < 1 then (grapevineref08_Right.j1 k x0 x3 true) else (if ((rd_T43 x0 x3).f1) < ((rd_T43 x0 x3).f0) then (grapevineref08_Right.j1 k x0 x3 true) else (grapevineref08_Right.j1 k x0 x3 (decide (((rd_T43 x0 x3).f1) > 1099511627776))))))) else (none)) else (some true)
def grapevineref08_Right.j1 : Nat → List (S43) → Int → Bool → Option (Bool)
  | 0, _, _, _ => none
  | k + 1, x0, x3, x52 => if x52 = true then (some false) else (if x3 > 0 then (if 0 ≤ x3 then (if x3 < (x0.length : Int) then (if 0 ≤ (wrap64 (x3 - 1)) then (if (wrap64 (x3 - 1)) < (x0.length : Int) then (if ((rd_T43 x0 x3).f0) ≤ ((rd_T43 x0 (wrap64 (x3 - 1))).f1) then (some false) else (if (wrap64 (((rd_T43 x0 x3).f0) - 1)) = ((rd_T43 x0 (wrap64 (x3 - 1))).f1) then (if ((rd_T43 x0 x3).f2) = ((rd_T43 x0 (wrap64 (x3 - 1))).f2) then (some false) else (grapevineref08_Right.l0 k x0 (wrap64 (x3 + 1)))) else (grapevineref08_Right.l0 k x0 (wrap64 (x3 + 1))))) else (none)) else (none)) else (none)) else (none)) else (grapevineref08_Right.l0 k x0 (wrap64 (x3 + 1))))
end
def grapevineref08_Right.f (k : Nat) (l0 : List (S43)) : Option (Bool) := grapevineref08_Right.l0 k l0 0
/-! ### grapevineref08_put: function 87 -/
end Go.Proofs.Ytpeacoppclmmlaa.PS
