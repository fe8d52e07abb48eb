import Derived.Test.YtoandmnefgimoaaDoorLNPLx0
import Derived.Test.YtoandmnefgimoaaDoorLNPLx2
namespace Go.Proofs.YtoandmnefgimoaaDoor.PL
open Go.RowKit Go.Proofs.YtoandmnefgimoaaDoorW.PrintWords Go.Proofs.YtoandmnefgimoaaDoorW.PrintLast Go.Proofs.YtoandmnefgimoaaDoorW.PrintMore
set_option linter.unusedVariables false
set_option linter.unusedSimpArgs false
def link_Link_Alive.f : Option Int := some 0
set_option maxHeartbeats 4000000 in
set_option maxRecDepth 100000 in
theorem alive_nil (now : Int) (w : World) :
 Calls Tryd.prog 18 #[.pointer none, .int .i64 now] w fun e w' => e = .returned (.bool false) ∧ w = w' := by
 go_enter Tryd.func18, Tryd.ntmps18
 go_wp2
 go_ret
 exact ⟨rfl, rfl⟩
end Go.Proofs.YtoandmnefgimoaaDoor.PL
