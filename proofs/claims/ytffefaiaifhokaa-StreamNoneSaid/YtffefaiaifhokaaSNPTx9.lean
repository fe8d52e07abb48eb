-- PRINTED by gprint.py (a session's own driver over the kit's print): not trusted; Lean checks it.
import Derived.Test.YtffefaiaifhokaaSNPTx0
import Derived.Test.YtffefaiaifhokaaSNPTx16
namespace Go.Proofs.Ytffefaiaifhokaa.PT
open Go.RowKit Go.Proofs.YtffefaiaifhokaaW.PrintWords Go.Proofs.YtffefaiaifhokaaW.PrintLast Go.Proofs.YtffefaiaifhokaaW.PrintMore
set_option linter.unusedVariables false
set_option linter.unusedSimpArgs false

/-! ### stream_Stream_tidy: function 35 -/
-- GIVEN-ALONE: typed by mk_stream.py
def stream_Stream_tidy.f : Option Int := some 0
/-- A stream without items: nothing is let go. -/
theorem tidy0_calls (g b : Nat) (v : Value) (w : World) (hb : w.heap[g]? = some (.cells #[v, .map (some b)] 81 (0, 0))) (hm : Mp w b 0 (.map [])) :
 Calls Try.prog 35 #[.pointer (some ⟨g, 0, none⟩)] w fun e w' => e = .returned (.tuple #[]) ∧ Below w.heap.size w w' := by
 have hu := Try.underlying81
 have z1 := (blk_cell hb 1).trans rfl
 go_enter Try.func35, Try.ntmps35
 go_wp2_with (first | ((with_reducible refine gate_dst (N := 7) rfl ?_); refine wpList_range_own _ rfl _ 79 rfl 3 42 (Go.Maps.int_keyed Try.underlying3) Try.underlying79 R0 b 0 (.map []) rfl hm ?_; intro w1 hrg hg hs; have HRG := Aside0.mk hrg; have HGR := Aside0.mk hg; clear hrg hg hs))
 (try simp only [Act.put, List.setIfInBounds_toArray, List.set_cons_zero, List.set_cons_succ])
 go_loopg [] 1 (fun kq w' => Aside0 (w'.ranges Try.prog 3 R0 b w.heap.size 0 (.map []) (Go.Maps.has (.map [])) 0) ∧ Aside0 (Below w.heap.size w w'))
 case atStart => exact ⟨HRG, ⟨HGR.out.os, HGR.out.tape, HGR.out.output, HGR.out.size, fun i hi => HGR.out.block i hi (by simp)⟩⟩
 case round =>
  obtain ⟨HRG2, HB2⟩ := hrel
  go_wp2_with (first | ((with_reducible refine gate_dst (N := 8) rfl ?_); refine wpList_next_ranges _ rfl _ rfl 3 (Go.Maps.int_keyed Try.underlying3) R0 (Value.int .i64) (fun v : Value => v) (fun key kl h => by obtain ⟨x, h1, _, _⟩ := Go.Maps.keyOf_int_inv Try.underlying3 h; exact ⟨x, h1⟩) (fun v y _ => ⟨v, rfl⟩) b w.heap.size 0 (.map []) _ 0 rfl HRG2.out ?_ (fun x c kl y w' cnt' _ _ _ _ _ hlt => absurd hlt (Nat.not_lt_zero _)); intro _ _))
  go_end0
  exact ⟨rfl, HB2.out⟩


end Go.Proofs.Ytffefaiaifhokaa.PT
