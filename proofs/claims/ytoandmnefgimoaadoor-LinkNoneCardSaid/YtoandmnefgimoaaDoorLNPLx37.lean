import Derived.Test.YtoandmnefgimoaaDoorLNPLx0
namespace Go.Proofs.YtoandmnefgimoaaDoor.PL
open Go.RowKit Go.Proofs.YtoandmnefgimoaaDoorW.PrintWords Go.Proofs.YtoandmnefgimoaaDoorW.PrintLast Go.Proofs.YtoandmnefgimoaaDoorW.PrintMore
set_option linter.unusedVariables false
set_option linter.unusedSimpArgs false
def link_Link_Fork.f : Option Int := some 0
set_option maxHeartbeats 4000000 in
set_option maxRecDepth 100000 in
theorem fork_nil (w : World) :
 Calls Tryd.prog 20 #[.pointer none] w fun e w' => e = .returned (.pointer none) ∧ w = w' := by
 go_enter Tryd.func20, Tryd.ntmps20
 go_wp2
 go_ret
 exact ⟨rfl, rfl⟩
end Go.Proofs.YtoandmnefgimoaaDoor.PL
