import Derived.Test.YtoandmnefgimoaaDoorLNPLx0
import Derived.Test.YtoandmnefgimoaaDoorLNPLx2
namespace Go.Proofs.YtoandmnefgimoaaDoor.PL
open Go.RowKit Go.Proofs.YtoandmnefgimoaaDoorW.PrintWords Go.Proofs.YtoandmnefgimoaaDoorW.PrintLast Go.Proofs.YtoandmnefgimoaaDoorW.PrintMore
set_option linter.unusedVariables false
set_option linter.unusedSimpArgs false
def link_Link_Lives.f : Option Int := some 0
def lives.T3 : Bool × List (List Nat × List Nat) := (true, [([], []), ([0], [0]), ([1], [1]), ([2], [2]), ([], []), ([4], [4]), ([5], [5]), ([6], [6]), ([3, 0, 1, 2, 3], [3]), ([7, 8, 0, 1, 2, 3, 4, 5, 6, 7, 8], [7])])
def lives.B3 : List Nat := [0, 1, 3, 7, 0, 16, 48, 112, 15, 511]
theorem lives.tab3 : rtab .any (opsOf Tryd.f19 3) = lives.T3 := by kernel_rfl
theorem lives.bits3 : waitsOk lives.T3.2 lives.B3 = true := by kernel_rfl
set_option maxHeartbeats 4000000 in
set_option maxRecDepth 100000 in
theorem lives_nil (w : World) :
 Calls Tryd.prog 19 #[.pointer none] w fun e w' => e = .returned (.tuple #[.int .i64 0, .int .i64 0]) ∧ w = w' := by
 go_enter Tryd.func19, Tryd.ntmps19
 go_wp2
 go_ret2
 exact ⟨rfl, rfl⟩
end Go.Proofs.YtoandmnefgimoaaDoor.PL
