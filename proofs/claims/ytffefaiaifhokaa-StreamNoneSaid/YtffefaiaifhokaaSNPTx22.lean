-- PRINTED by gprint.py (a session's own driver over the kit's print): not trusted; Lean checks it.
import Derived.Test.YtffefaiaifhokaaSNPTx0
namespace Go.Proofs.Ytffefaiaifhokaa.PT
open Go.RowKit Go.Proofs.YtffefaiaifhokaaW.PrintWords Go.Proofs.YtffefaiaifhokaaW.PrintLast Go.Proofs.YtffefaiaifhokaaW.PrintMore
set_option linter.unusedVariables false
set_option linter.unusedSimpArgs false

/-! ### stream_Stream_Lose: function 23 -/
-- GIVEN-ALONE: typed by mk_stream.py
def stream_Stream_Lose.f : Option Int := some 0
set_option maxHeartbeats 4000000 in
set_option maxRecDepth 100000 in
theorem lose_nil (t : Int) (w : World) :
 Calls Try.prog 23 #[.pointer none, .int .i64 t] w fun e w' => e = .returned (.int .i64 1) ∧ w = w' := by
 go_enter Try.func23, Try.ntmps23
 go_wp2
 go_ret
 exact ⟨rfl, rfl⟩


end Go.Proofs.Ytffefaiaifhokaa.PT
