/-
  PLAIN LAW: live (layer 13).
-/
import Derived.Test.YtpeacoppclmmlaaPBParC
import Derived.Test.YtpeacoppclmmlaaPBPPx7
namespace Go.Proofs.Ytpeacoppclmmlaa.PP
open Go.RowKit Go.Proofs.YtpeacoppclmmlaaW.PrintWords Go.Proofs.YtpeacoppclmmlaaW.PrintMore
theorem live_rounds : grapevinelaw13_live.f 20 = some true := by decide +kernel
theorem live_ev : Ev (fun k => grapevinelaw13_live.f k) true := Ev.of grapevinelaw13_live.mono live_rounds
end Go.Proofs.Ytpeacoppclmmlaa.PP
