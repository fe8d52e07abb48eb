/-
  PLAIN LAW: ParcelTakes.
-/
import Derived.Test.YtpeacoppclmmlaaPTParAll
import Derived.Test.YtpeacoppclmmlaaPTPPx25
set_option linter.unusedSimpArgs false
set_option linter.unusedVariables false
namespace Go.Proofs.Ytpeacoppclmmlaa.Pure
open Go.RowKit Go.Proofs.YtpeacoppclmmlaaW.PrintWords Go.Proofs.YtpeacoppclmmlaaW.PrintLast Go.Proofs.YtpeacoppclmmlaaW.PrintMore Go.Proofs.Ytpeacoppclmmlaa.PP
theorem ParcelTakes : grapevinelaw13_ParcelTakes.Pure := by
  intro l hl hs hx
  have hb := Oct.bytes_of hx
  have hlen : l.length ≤ 9223372036854775000 := by omega
  obtain ⟨n1, n2⟩ := takeP_len l
  refine Ev.rounds (g := fun k => grapevinelaw13_ParcelTakes.f k l) ?_
  refine Ev.bind (PTake_ev hb hlen) (Ev.bind (RTake_ev hb hlen) (Ev.bind live_ev ?_))
  simp only [if_true]
  refine Ev.bind (Same_self _ _ _ _ _ _ _ _ (by omega) (by omega)) ?_
  simp only [if_true, beq_self_eq_true]
  exact Ev.now _
end Go.Proofs.Ytpeacoppclmmlaa.Pure
