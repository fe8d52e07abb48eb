/-
  PLAIN LAW: StreamOrders.
-/
import Derived.Test.YtffefaiaifhokaaSOOrdD
import Derived.Test.YtffefaiaifhokaaSOPTQStreamOrders
set_option linter.unusedSimpArgs false
set_option linter.unusedVariables false
namespace Go.Proofs.Ytffefaiaifhokaa.Pure
open Go.RowKit Go.Proofs.YtffefaiaifhokaaW.PrintWords Go.Proofs.YtffefaiaifhokaaW.PrintLast Go.Proofs.YtffefaiaifhokaaW.PrintMore Go.Proofs.Ytffefaiaifhokaa.Open Go.Proofs.Ytffefaiaifhokaa.PT
theorem StreamOrders : grapevinelaw15_StreamOrders.PureQ := by
  intro l turn hl ht
  have hlive : ∃ k2, grapevinelaw15_live.f k2 = some true := ⟨64, by decide +kernel⟩
  obtain ⟨ps, e, q⟩ := bodies_ev_l l (by have := hl.1.2; omega) (fun p hp => by
    have hg := hl.2 p hp
    have g6 : p.f6.length * 24 ≤ 140737488351232 := hg.2.2.2.2.2.2.1.1.2
    have g7 : p.f7.length * 40 ≤ 140737488351232 := hg.2.2.2.2.2.2.2.1.2
    exact ⟨by omega, by omega, fun y hy => by
      have h1 := hg.2.2.2.2.2.2.2.2 y hy
      have h2 : y.f2.length * 1 ≤ 140737488351232 := h1.2.2.1.2
      omega, fun y hy => u32_wf (hg.2.2.2.2.2.2.2.2 y hy).2.1⟩) (min l.length 8) 0 [] 0 (by omega) (by simp) (fun p hp => absurd hp (by simp)) rfl (by decide)
  obtain ⟨k, hk⟩ := Ev.rounds (g := fun k => grapevinelaw15_bodies.f k l) e
  refine ⟨k, ?_⟩
  unfold grapevinelaw15_StreamOrders.f
  rw [hk, Option.bind_some, if_pos ⟨hlive, Orders_ex ps q turn (u8_wf ht)⟩]
end Go.Proofs.Ytffefaiaifhokaa.Pure
