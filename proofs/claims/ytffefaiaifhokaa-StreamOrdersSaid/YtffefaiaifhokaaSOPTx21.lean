-- PRINTED by gprint.py (a session's own driver over the kit's print): not trusted; Lean checks it.
import Derived.Test.YtffefaiaifhokaaSOPTx0
import Derived.Test.YtffefaiaifhokaaSOPTx20
namespace Go.Proofs.Ytffefaiaifhokaa.PT
open Go.RowKit Go.Proofs.YtffefaiaifhokaaW.PrintWords Go.Proofs.YtffefaiaifhokaaW.PrintLast Go.Proofs.YtffefaiaifhokaaW.PrintMore
set_option linter.unusedVariables false
set_option linter.unusedSimpArgs false

/-! ### stream_Stream_Map: function 13 -/
-- GIVEN-ALONE: typed by mk_orders.py
def stream_Stream_Map.f : Option Int := some 0
set_option maxHeartbeats 40000000 in
set_option maxRecDepth 100000 in
theorem map_calls (g b : Nat) (A0 : Option Addr) (c0 : Nat) (K : List S38) (w : World) (hb : w.heap[g]? = some (.cells #[.slice A0 K.length c0, .map (some b)] 81 (0, 0))) (hr : Kd.C k38 w A0 K.length K) (hc : K.length ≤ c0) (h : api_Span_45.f K = some K) :
 Calls Try.prog 13 #[.pointer (some ⟨g, 0, none⟩)] w fun e w' => ∃ v, e = .returned v ∧ Kd.R k38 38 w' w.heap.size (fun _ => True) v K ∧ Below w.heap.size w w' := by
 have z0 := (blk_cell hb 0).trans rfl
 have HR0 := Aside0.mk hr
 have HC0 := Aside0.mk hc
 have HF := Aside0.mk h
 clear hb hr hc h
 go_enter Try.func13, Try.ntmps13
 go_wp2_with (first | ((with_reducible refine gate_dst (N := 9) rfl ?_); (try (refine gate_guard (by rfl) ?_; dsimp only)); refine goesL_ (some 9) rfl rfl Try.func45 (by kernel_rfl) rfl #[.slice A0 K.length c0] rfl (by (try simp only [List.map_toArray, List.map_cons, List.map_nil]); first | done | rfl | (simp only [List.length_drop, List.length_take]; rfl)) ?_; refine (api_Span_45.calls A0 c0 K K _ HR0.out HC0.out HF.out).mono ?_; rintro e_ w1 ⟨v0, rfl, ho, hb⟩; refine ⟨_, rfl, ?_⟩; have HO := Aside0.mk ho; have HB1 := Aside0.mk hb; clear ho hb))
 go_ret
 exact ⟨_, rfl, HO.out, HB1.out⟩


end Go.Proofs.Ytffefaiaifhokaa.PT
