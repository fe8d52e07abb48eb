/-
  PLAIN LAW: LinkBounds.
-/
import Derived.Test.YtoandmnefgimoaaDoorLBPLQLinkBounds
import Derived.Test.YtoandmnefgimoaaDoorLBLnkB
import Derived.Test.YtoandmnefgimoaaDoorLBPLx25
set_option linter.unusedVariables false
set_option linter.unusedSimpArgs false
namespace Go.Proofs.YtoandmnefgimoaaDoor.Pure
open Go.RowKit Go.Proofs.YtoandmnefgimoaaDoorW.PrintWords Go.Proofs.YtoandmnefgimoaaDoorW.PrintLast Go.Proofs.YtoandmnefgimoaaDoorW.PrintMore Go.Proofs.YtoandmnefgimoaaDoor.Open Go.Proofs.YtoandmnefgimoaaDoor.PL Go.Proofs.YtoandmnefgimoaaDoor.Crc
theorem LinkBounds : grapevinelaw14_LinkBounds.PureQ := by
  unfold grapevinelaw14_LinkBounds.PureQ
  intro a l ha hl
  have ha' := u8_wf ha
  have h1 := Int.tmod_nonneg 32 ha'.1
  have h2 := Int.tmod_lt_of_pos a (show (0 : Int) < 32 by decide)
  refine Ev.rounds (g := fun k => grapevinelaw14_LinkBounds.f k a l) ?_
  obtain ⟨L, e, h⟩ := Lnk.deeds_ev (n := 1 + Int.tmod a 32) (by omega) 200 l ⟨1, 0, 1 + Int.tmod a 32, 0, 0, -1, 0, []⟩ ⟨rfl, rfl, ⟨by show (0 : Int) ≤ 0; decide, by show (0 : Int) ≤ 1073741824; decide⟩, ⟨by show (0 : Int) ≤ 0; decide, by show (0 : Int) ≤ 1099511627776; decide⟩, by show ((0 : Nat) : Int) ≤ _; omega, fun x hx => absurd hx (by simp), rfl⟩ hl.2
  have hn := h.len
  have hm := h.made
  obtain ⟨L2, e2⟩ := Lnk.pulls_ev L.ws.length L rfl h.own h.oth ⟨by omega, by omega⟩ h.ws
  unfold grapevinelaw14_LinkBounds.f
  refine Ev.bind e (Lnk.evif (by omega) (Ev.bind e2 (Ev.bind Lnk.live_ev (Lnk.evif rfl (Ev.now _)))))
end Go.Proofs.YtoandmnefgimoaaDoor.Pure
