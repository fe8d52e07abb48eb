-- PRINTED by gprint.py (a session's own driver over the kit's print): not trusted; Lean checks it.
import Derived.Test.YtpeacoppclmmlaaPOPPx0
namespace Go.Proofs.Ytpeacoppclmmlaa.PP
open Go.RowKit Go.Proofs.YtpeacoppclmmlaaW.PrintWords Go.Proofs.YtpeacoppclmmlaaW.PrintLast Go.Proofs.YtpeacoppclmmlaaW.PrintMore
attribute [local go_sem] max2_int min2_int max_two min_two max_three min_three max_four min_four   -- for this text's walks alone
set_option linter.unusedVariables false
set_option linter.unusedSimpArgs false

/-! ### grapevineref02_TakeUint: function 76 -/
mutual
def grapevineref02_TakeUint.j0 : Nat → List Int → Int → Bool → Option (Int × Int × Int)
 | 0, _, _, _ => none
 | k + 1, x0, x1, x18 => if x18 = true then (some (0, 0, 2)) else (grapevineref02_TakeUint.l0 k x0 x1 0 1 0)
def grapevineref02_TakeUint.l0 : Nat → List Int → Int → Int → Int → Int → Option (Int × Int × Int)
 | 0, _, _, _, _, _ => none
 | k + 1, x0, x1, x7, x8, x9 => if x9 < 10 then (if (wrap64 (x1 + x9)) ≥ (x0.length : Int) then (some (0, 0, 3)) else (if 0 ≤ (wrap64 (x1 + x9)) then (if (wrap64 (x1 + x9)) < (x0.length : Int) then (if x9 = 9 then (grapevineref02_TakeUint.j2 k x0 x1 x7 x8 x9 (rd x0 (wrap64 (x1 + x9))) (decide ((rd x0 (wrap64 (x1 + x9))) > 1))) else (grapevineref02_TakeUint.j2 k x0 x1 x7 x8 x9 (rd x0 (wrap64 (x1 + x9))) false)) else (none)) else (none))) else (some (0, 0, 6))
def grapevineref02_TakeUint.j2 : Nat → List Int → Int → Int → Int → Int → Int → Bool → Option (Int × Int × Int)
 | 0, _, _, _, _, _, _, _ => none
 | k + 1, x0, x1, x7, x8, x9, x10, x40 => if x40 = true then (some (0, 0, 6)) else (if x10 < 128 then (if x10 = 0 then (if x9 > 0 then (some (0, 0, 4)) else (some (IntKind.u64.wrap (x7 + (IntKind.u64.wrap ((IntKind.u64.wrap (Int.tmod x10 128)) * x8))), wrap64 ((wrap64 (x1 + x9)) + 1), 0))) else (some (IntKind.u64.wrap (x7 + (IntKind.u64.wrap ((IntKind.u64.wrap (Int.tmod x10 128)) * x8))), wrap64 ((wrap64 (x1 + x9)) + 1), 0))) else (grapevineref02_TakeUint.l0 k x0 x1 (IntKind.u64.wrap (x7 + (IntKind.u64.wrap ((IntKind.u64.wrap (Int.tmod x10 128)) * x8)))) (IntKind.u64.wrap (x8 * 128)) (wrap64 (x9 + 1))))
end
def grapevineref02_TakeUint.f (k : Nat) (l0 : List Int) (a1 : Int) : Option (Int × Int × Int) := if a1 < 0 then (grapevineref02_TakeUint.j0 k l0 a1 true) else (grapevineref02_TakeUint.j0 k l0 a1 (decide (a1 > (l0.length : Int))))
/-! ### grapevineref08_Take: function 51 -/
mutual
def grapevineref08_Take.l0 : Nat → List Int → Int → Int → List (S43) → Int → Int → Option ((List (S43)) × Int × Int)
 | 0, _, _, _, _, _, _ => none
 | k + 1, x0, x7, x8, x10, x11, x12 => if x12 < (wrap64 (x7)) then ((grapevineref02_TakeUint.f k x0 x8).bind fun bt382 => (if bt382.2.2 = 0 then ((grapevineref02_TakeUint.f k x0 bt382.2.1).bind fun bt385 => (if bt385.2.2 = 0 then (if bt385.2.1 = (x0.length : Int) then (some (([] : List (S43)), 0, 3)) else (if bt382.1 > 1099511627776 then (grapevineref08_Take.j1 k x0 x7 x10 x11 x12 bt382.1 bt385.1 bt385.2.1 true) else (grapevineref08_Take.j1 k x0 x7 x10 x11 x12 bt382.1 bt385.1 bt385.2.1 (decide (bt385.1 > 1099511627776))))) else (some (([] : List (S43)), 0, bt385.2.2)))) else (some (([] : List (S43)), 0, bt382.2.2)))) else (some (x10, x8, 0))
def grapevineref08_Take.j1 : Nat → List Int → Int → List (S43) → Int → Int → Int → Int → Int → Bool → Option ((List (S43)) × Int × Int)
 | 0, _, _, _, _, _, _, _, _, _ => none
 | k + 1, x0, x7, x10, x11, x12, x13, x16, x17, x68 => if x68 = true then (some (([] : List (S43)), 0, 4)) else (if 0 ≤ x17 then (if x17 < (x0.length : Int) then (if (wrap64 ((wrap64 ((wrap64 (x11 + 1)) + (wrap64 (x13)))) + (wrap64 (x16)))) > 1099511627776 then (some (([] : List (S43)), 0, 4)) else (if (wrap64 (rd x0 x17)) < 1 then (some (([] : List (S43)), 0, 4)) else (if (wrap64 (rd x0 x17)) > 3 then (some (([] : List (S43)), 0, 4)) else (if x12 > 0 then (if x13 = 0 then (if 0 ≤ (wrap64 (x12 - 1)) then (if (wrap64 (x12 - 1)) < (x10.length : Int) then (if (wrap64 (rd x0 x17)) = ((rd_T43 x10 (wrap64 (x12 - 1))).f2) then (some (([] : List (S43)), 0, 4)) else (if x10.length < 5864062014805 then (grapevineref08_Take.l0 k x0 x7 (wrap64 (x17 + 1)) (x10 ++ [(⟨wrap64 ((wrap64 (x11 + 1)) + (wrap64 (x13))), wrap64 ((wrap64 ((wrap64 (x11 + 1)) + (wrap64 (x13)))) + (wrap64 (x16))), wrap64 (rd x0 x17)⟩ : S43)]) (wrap64 ((wrap64 ((wrap64 (x11 + 1)) + (wrap64 (x13)))) + (wrap64 (x16)))) (wrap64 (x12 + 1))) else (none))) else (none)) else (none)) else (if x10.length < 5864062014805 then (grapevineref08_Take.l0 k x0 x7 (wrap64 (x17 + 1)) (x10 ++ [(⟨wrap64 ((wrap64 (x11 + 1)) + (wrap64 (x13))), wrap64 ((wrap64 ((wrap64 (x11 + 1)) + (wrap64 (x13)))) + (wrap64 (x16))), wrap64 (rd x0 x17)⟩ : S43)]) (wrap64 ((wrap64 ((wrap64 (x11 + 1)) + (wrap64 (x13)))) + (wrap64 (x16)))) (wrap64 (x12 + 1))) else (none))) else (if x10.length < 5864062014805 then (grapevineref08_Take.l0 k x0 x7 (wrap64 (x17 + 1)) (x10 ++ [(⟨wrap64 ((wrap64 (x11 + 1)) + (wrap64 (x13))), wrap64 ((wrap64 ((wrap64 (x11 + 1)) + (wrap64 (x13)))) + (wrap64 (x16))), wrap64 (rd x0 x17)⟩ : S43)]) (wrap64 ((wrap64 ((wrap64 (x11 + 1)) + (wrap64 (x13)))) + (wrap64 (x16)))) (wrap64 (x12 + 1))) else (none)))))) else (none)) else (none))
end
def grapevineref08_Take.f (k : Nat) (l0 : List Int) (a1 : Int) : Option ((List (S43)) × Int × Int) := (grapevineref02_TakeUint.f k l0 a1).bind fun bt376 => (if bt376.2.2 = 0 then (if bt376.1 > 256 then (some (([] : List (S43)), 0, 6)) else (grapevineref08_Take.l0 k l0 bt376.1 bt376.2.1 (([] : List (S43))) 0 0)) else (some (([] : List (S43)), 0, bt376.2.2)))
end Go.Proofs.Ytpeacoppclmmlaa.PP
