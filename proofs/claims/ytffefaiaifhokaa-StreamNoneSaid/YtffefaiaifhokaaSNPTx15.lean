-- PRINTED by gprint.py (a session's own driver over the kit's print): not trusted; Lean checks it.
import Derived.Test.YtffefaiaifhokaaSNPTx0
import Derived.Test.YtffefaiaifhokaaSNPTx16
namespace Go.Proofs.Ytffefaiaifhokaa.PT
open Go.RowKit Go.Proofs.YtffefaiaifhokaaW.PrintWords Go.Proofs.YtffefaiaifhokaaW.PrintLast Go.Proofs.YtffefaiaifhokaaW.PrintMore
set_option linter.unusedVariables false
set_option linter.unusedSimpArgs false

/-! ### stream_Stream_Item: function 14 -/
-- GIVEN-ALONE: typed by mk_stream.py
def stream_Stream_Item.f : Option Int := some 0
theorem putZit3_0_3 {W : World} {g t : Nat} {c0 c1 c2 : Value} (h : W.heap[g]? = some (.cells #[c0, c1, c2] t (0, 0))) (d0 d1 d2 : Value) : (((W.setCell ⟨g, 0, none⟩ d0).setCell ⟨g, 1, none⟩ d1).setCell ⟨g, 2, none⟩ d2).heap[g]? = some (.cells #[d0, d1, d2] t (0, 0)) := by
 have h0 : (W.setCell ⟨g, 0, none⟩ d0).heap[g]? = some (.cells #[d0, c1, c2] t (0, 0)) := blk_put h 0 _ rfl
 have h1 : ((W.setCell ⟨g, 0, none⟩ d0).setCell ⟨g, 1, none⟩ d1).heap[g]? = some (.cells #[d0, d1, c2] t (0, 0)) := blk_put h0 1 _ rfl
 exact blk_put h1 2 _ rfl
set_option maxHeartbeats 4000000 in
set_option maxRecDepth 100000 in
theorem item_nil (t : Int) (w : World) :
 Calls Try.prog 14 #[.pointer none, .int .i64 t] w fun e w' => e = .returned (.tuple #[.agg #[.int .i64 0, .int .u32 0, .slice none 0 0], .bool false]) ∧ Below w.heap.size w w' := by
 have hu := Try.underlying42
 go_enter Try.func14, Try.ntmps14
 go_wp2_with (first | ((with_reducible refine gate_dst (N := 4) rfl ?_); refine box_event ?hg (N := 4) ?hd (cs := #[.int .i64 0, .int .u32 0, .slice none 0 0]) (t := 42) ?hr ?_; (case hd => rfl); (case hg => rfl); (case hr => first | (go_simp; done) | (go_simp; rfl)); intro gr hg w1 hbox hb; have HB1 := Aside0.mk hb; have Ggr := Aside0.mk (show w.heap.size ≤ gr by rw [hg]; exact Nat.le_refl _); have Egr := Aside0.mk hg; have BR1 := Aside0.mk hbox; have zBR1_0 : w1.cell? ⟨gr, 0, none⟩ = some (.int .i64 0) := (blk_cell BR1.out 0).trans rfl; have fBR1_0 := blk_frozen BR1.out 0; have zBR1_1 : w1.cell? ⟨gr, 1, none⟩ = some (.int .u32 0) := (blk_cell BR1.out 1).trans rfl; have fBR1_1 := blk_frozen BR1.out 1; have zBR1_2 : w1.cell? ⟨gr, 2, none⟩ = some (.slice none 0 0) := (blk_cell BR1.out 2).trans rfl; have fBR1_2 := blk_frozen BR1.out 2; clear hb hbox hg) | ((with_reducible refine gate_store (t := 42) (p := 4) (v := .tmp 10) rfl ?_); refine store_event rfl (t := 42) (p := 4) (v := .tmp 10) rfl rfl (w1 := (((w1.setCell ⟨gr, 0, none⟩ (.int .i64 0)).setCell ⟨gr, 1, none⟩ (.int .u32 0)).setCell ⟨gr, 2, none⟩ (.slice none 0 0))) ?hr ?_; (case hr => first | (go_simp; done) | (go_simp; rfl)); intro w2 hw_; have BR2 := Aside0.mk (show w2.heap[gr]? = some (.cells #[.int .i64 0, .int .u32 0, .slice none 0 0] 42 (0, 0)) by (rw [hw_]; exact putZit3_0_3 BR1.out (.int .i64 0) (.int .u32 0) (.slice none 0 0))); have hf_ : ∀ i, i ≠ gr → w2.heap[i]? = w1.heap[i]? := fun i hi => (by rw [hw_]; rw [far1L _ _ _ _ _ hi, far1L _ _ _ _ _ hi, far1L _ _ _ _ _ hi]); have HB2 := Aside0.mk (show Below w.heap.size w w2 by (rw [hw_]; exact below_set (below_set (below_set (HB1.out) Ggr.out) Ggr.out) Ggr.out)); clear hf_; clear hw_))
 (try rw [Exit.noGoto_ret])
 refine bodyPost_ret (results_ct rfl _ _ gr 42 #[.int .i64 0, .int .u32 0, .slice none 0 0] (0, 0) _ rfl BR2.out Try.underlying42 rfl (by kernel_rfl)) rfl ?_
 exact ⟨rfl, HB2.out⟩


end Go.Proofs.Ytffefaiaifhokaa.PT
