/-
  PLAIN LAW: the reference's made (out of the ticks where something changes) is zip; Same; At; Horizon; live.
-/
import Derived.Test.YtpeacoppclmmlaaDSpanC
import Derived.Test.YtpeacoppclmmlaaDPSx7
import Derived.Test.YtpeacoppclmmlaaDPSx8
import Derived.Test.YtpeacoppclmmlaaDPSx4
set_option linter.unusedSimpArgs false
set_option linter.unusedVariables false
namespace Go.Proofs.Ytpeacoppclmmlaa.PS
open Go.RowKit Go.Proofs.YtpeacoppclmmlaaW.PrintWords Go.Proofs.YtpeacoppclmmlaaW.PrintMore

/-! ### the edges -/
/-! ### told -/
/-! ### made -/
/-! ### Same, At -/
deriving instance DecidableEq for S43
/-! ### Horizon -/
/-! ### Join; live -/
theorem live_rounds : grapevinelaw08_live.f 20 = some true := by decide +kernel
theorem live_ev : Ev (fun k => grapevinelaw08_live.f k) true := Ev.of grapevinelaw08_live.mono live_rounds
end Go.Proofs.Ytpeacoppclmmlaa.PS
