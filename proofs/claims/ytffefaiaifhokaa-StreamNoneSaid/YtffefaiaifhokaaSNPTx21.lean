-- PRINTED by gprint.py (a session's own driver over the kit's print): not trusted; Lean checks it.
import Derived.Test.YtffefaiaifhokaaSNPTx0
namespace Go.Proofs.Ytffefaiaifhokaa.PT
open Go.RowKit Go.Proofs.YtffefaiaifhokaaW.PrintWords Go.Proofs.YtffefaiaifhokaaW.PrintLast Go.Proofs.YtffefaiaifhokaaW.PrintMore
set_option linter.unusedVariables false
set_option linter.unusedSimpArgs false

/-! ### stream_Stream_Tell: function 18 -/
-- GIVEN-ALONE: typed by mk_stream.py
def stream_Stream_Tell.f : Option Int := some 0
set_option maxHeartbeats 4000000 in
set_option maxRecDepth 100000 in
theorem tell_nil (p f t l : Int) (w : World) :
 Calls Try.prog 18 #[.pointer none, .int .i64 p, .int .i64 f, .int .i64 t, .int .u32 l] w fun e w' => e = .returned (.tuple #[.slice none 0 0, .int .i64 1]) ∧ Below w.heap.size w w' := by
 go_enter Try.func18, Try.ntmps18
 go_wp2_with (first | ((with_reducible refine gate_dst (N := 6) rfl ?_); refine box_event ?hg (N := 6) ?hd (cs := #[.int .i64 p]) (t := 3) ?hr ?_; (case hd => rfl); (case hg => rfl); (case hr => first | (go_simp; done) | (go_simp; rfl)); intro ga hg w1 hbox hb; have HB1 := Aside0.mk hb; have Gga := Aside0.mk (show w.heap.size ≤ ga by rw [hg]; exact Nat.le_refl _); have Ega := Aside0.mk hg; have BA1 := Aside0.mk hbox; clear hb hbox hg) | ((with_reducible refine gate_dst (N := 8) rfl ?_); refine box_event ?hg (N := 8) ?hd (cs := #[.int .i64 t]) (t := 3) ?hr ?_; (case hd => rfl); (case hg => rfl); (case hr => first | (go_simp; done) | (go_simp; rfl)); intro gb hg w2 hbox hb; have HB2 := Aside0.mk (below_step HB1.out hb); have BA2 := Aside0.mk (blk_below BA1.out hb); have Ggb := Aside0.mk (show w.heap.size ≤ gb by (rw [hg]; exact below_size HB1.out)); have Nga_gb := Aside0.mk (show ga ≠ gb from fun e_ => absurd (blk_lt BA1.out) (by rw [e_, hg]; exact Nat.lt_irrefl _)); have Egb := Aside0.mk hg; have BB2 := Aside0.mk hbox; clear hb hbox hg))
 go_ret2
 exact ⟨rfl, HB2.out⟩


end Go.Proofs.Ytffefaiaifhokaa.PT
