-- PRINTED by gprint.py (a session's own driver over the kit's print): not trusted; Lean checks it.
import Derived.Test.YtffefaiaifhokaaSOPTx0
import Derived.Test.YtffefaiaifhokaaSOPTx6
import Derived.Test.YtffefaiaifhokaaSOPTx14
import Derived.Test.YtffefaiaifhokaaSOPTx16
import Derived.Test.YtffefaiaifhokaaSOPTx17
namespace Go.Proofs.Ytffefaiaifhokaa.PT
open Go.RowKit Go.Proofs.YtffefaiaifhokaaW.PrintWords Go.Proofs.YtffefaiaifhokaaW.PrintLast Go.Proofs.YtffefaiaifhokaaW.PrintMore
set_option linter.unusedVariables false
set_option linter.unusedSimpArgs false

/-! ### stream_Stream_Item: function 14 -/
-- GIVEN-ALONE: typed by mk_orders.py
def stream_Stream_Item.f : Option Int := some 0
theorem putIt3_0_3 {W : World} {g t : Nat} {c0 c1 c2 : Value} (h : W.heap[g]? = some (.cells #[c0, c1, c2] t (0, 0))) (d0 d1 d2 : Value) : (((W.setCell ⟨g, 0, none⟩ d0).setCell ⟨g, 1, none⟩ d1).setCell ⟨g, 2, none⟩ d2).heap[g]? = some (.cells #[d0, d1, d2] t (0, 0)) := by
 have h0 : (W.setCell ⟨g, 0, none⟩ d0).heap[g]? = some (.cells #[d0, c1, c2] t (0, 0)) := blk_put h 0 _ rfl
 have h1 : ((W.setCell ⟨g, 0, none⟩ d0).setCell ⟨g, 1, none⟩ d1).heap[g]? = some (.cells #[d0, d1, c2] t (0, 0)) := blk_put h0 1 _ rfl
 exact blk_put h1 2 _ rfl
set_option maxHeartbeats 40000000 in
set_option maxRecDepth 100000 in
theorem item_calls (g b : Nat) (ok : Nat → Prop) (v0 : Value) (X : List S42) (x : S42) (t : Int) (w : World) (hb : w.heap[g]? = some (.cells #[v0, .map (some b)] 81 (0, 0))) (hm : MapS w b ok X) (hw : (Lit.int .i64 t).wf = true) (hx : getI X t = some x) (h : stream_copied.f x.f0 x.f1 x.f2 = some (x.f0, x.f1, x.f2)) :
 Calls Try.prog 14 #[.pointer (some ⟨g, 0, none⟩), .int .i64 t] w fun e w' => ∃ v, e = .returned (.tuple #[.agg #[.int .i64 x.f0, .int .u32 x.f1, v], .bool true]) ∧ Kd.R (Kd.int .u8) 5 w' w.heap.size (fun _ => True) v x.f2 ∧ Below w.heap.size w w' := by
 have hu := Try.underlying42
 have BG0 := Aside0.mk hb
 have HM0 := Aside0.mk hm
 have HW := Aside0.mk hw
 have HX := Aside0.mk hx
 have HF := Aside0.mk h
 clear hb hm hw hx h
 go_enter Try.func14, Try.ntmps14
 go_wp2_with (first | ((with_reducible refine gate_dst (N := 4) rfl ?_); refine box_event ?hg (N := 4) ?hd (cs := #[.int .i64 0, .int .u32 0, .slice none 0 0]) (t := 42) ?hr ?_; (case hd => rfl); (case hg => rfl); (case hr => first | (go_simp; done) | (go_simp; rfl)); intro gr hg w1 hbox hb; have BR1 := Aside0.mk hbox; have Egr := Aside0.mk hg; have HB1 := Aside0.mk hb; have BG1 := Aside0.mk (blk_below BG0.out hb); have z1_1 := (blk_cell BG1.out 1).trans rfl; have HM1 := Aside0.mk (HM0.out.below hb); obtain ⟨Ay, cy, hlk, _, hcy, hFy⟩ := MapS.look_some HM1.out HW.out HX.out; have HLK := Aside0.mk hlk; have HCY := Aside0.mk hcy; have HY1 := Aside0.mk (Kd.F_now hFy); have hlk2 := hlk; clear hbox hg hb hcy hFy hlk) | ((with_reducible refine gate_dst (N := 6) rfl ?_); refine box_event ?hg (N := 6) ?hd (cs := #[.int .i64 0, .int .u32 0, .slice none 0 0]) (t := 42) ?hr ?_; (case hd => rfl); (case hg => rfl); (case hr => first | (go_simp; done) | (go_simp; rfl)); intro gx hg w2 hbox hb; have BXa := Aside0.mk hbox; have Egx := Aside0.mk hg; have Sgx := Aside0.mk hb; have zBXa0 := (blk_cell hbox 0).trans rfl; have zBXa1 := (blk_cell hbox 1).trans rfl; have zBXa2 := (blk_cell hbox 2).trans rfl; have fBXa0 := blk_frozen hbox 0; have fBXa1 := blk_frozen hbox 1; have fBXa2 := blk_frozen hbox 2; clear hbox hg hb) | ((with_reducible refine gate_store (t := 42) (p := 6) (v := .tmp 18) rfl ?_); refine store_event rfl (t := 42) (p := 6) (v := .tmp 18) rfl rfl (w1 := (((w2.setCell ⟨gx, 0, none⟩ (.int .i64 x.f0)).setCell ⟨gx, 1, none⟩ (.int .u32 x.f1)).setCell ⟨gx, 2, none⟩ (.slice Ay x.f2.length cy))) ?hr ?_; (case hr => first | (go_simp; done) | (go_simp; rfl)); intro w3 hw_; have hb : Below w1.heap.size w1 w3 := (by rw [hw_]; exact Below.setCell (Below.setCell (Below.setCell (Sgx.out) (show w1.heap.size ≤ gx from Nat.le_of_eq Egx.out.symm) _) (show w1.heap.size ≤ gx from Nat.le_of_eq Egx.out.symm) _) (show w1.heap.size ≤ gx from Nat.le_of_eq Egx.out.symm) _); have BX := Aside0.mk (show w3.heap[gx]? = some (.cells #[.int .i64 x.f0, .int .u32 x.f1, .slice Ay x.f2.length cy] 42 (0, 0)) by (rw [hw_]; exact putIt3_0_3 BXa.out (.int .i64 x.f0) (.int .u32 x.f1) (.slice Ay x.f2.length cy))); clear hw_; have HB3 := Aside0.mk (below_step HB1.out hb); have BR3 := Aside0.mk (blk_below BR1.out hb); have HY3 := Aside0.mk (Kd.C_below HY1.out hb); have zx3_0 := (blk_cell BX.out 0).trans rfl; have zx3_1 := (blk_cell BX.out 1).trans rfl; have zx3_2 := (blk_cell BX.out 2).trans rfl; clear hlk2; (try clear hb)) | ((with_reducible refine gate_dst (N := 21) rfl ?_); (try (refine gate_guard (by rfl) ?_; dsimp only)); refine goesL_ (some 21) rfl rfl Try.func37 (by kernel_rfl) rfl #[.agg #[.int .i64 x.f0, .int .u32 x.f1, .slice Ay x.f2.length cy]] rfl (by (try simp only [List.map_toArray, List.map_cons, List.map_nil]); first | done | rfl | (simp only [List.length_drop, List.length_take]; rfl)) ?_; refine (stream_copied.calls x.f0 x.f1 Ay cy x.f2 x.f0 x.f1 x.f2 _ HY3.out HCY.out HF.out).mono ?_; rintro e_ w4 ⟨v_, rfl, ho, hb⟩; refine ⟨_, rfl, ?_⟩; obtain ⟨Az, cz, ez⟩ := Kd.R_slice ho; subst ez; have HB4 := Aside0.mk (below_step HB3.out hb); have BR4 := Aside0.mk (blk_below BR3.out hb); have HO4 := Aside0.mk (Kd.R_lower ho (below_size HB3.out)); clear ho hb; have zr4_0 := (blk_cell BR4.out 0).trans rfl; have zr4_1 := (blk_cell BR4.out 1).trans rfl; have zr4_2 := (blk_cell BR4.out 2).trans rfl; have fr4_0 := blk_frozen BR4.out 0; have fr4_1 := blk_frozen BR4.out 1; have fr4_2 := blk_frozen BR4.out 2) | ((with_reducible refine gate_store (t := 42) (p := 4) (v := .tmp 21) rfl ?_); refine store_event rfl (t := 42) (p := 4) (v := .tmp 21) rfl rfl (w1 := (((w4.setCell ⟨gr, 0, none⟩ (.int .i64 x.f0)).setCell ⟨gr, 1, none⟩ (.int .u32 x.f1)).setCell ⟨gr, 2, none⟩ (.slice Az x.f2.length cz))) ?hr ?_; (case hr => first | (go_simp; done) | (go_simp; rfl)); intro w5 hw_; have hf_ : ∀ i, i ≠ gr → w5.heap[i]? = w4.heap[i]? := fun i hi => (by rw [hw_]; rw [far1L _ _ _ _ _ hi, far1L _ _ _ _ _ hi, far1L _ _ _ _ _ hi]); have HB5 := Aside0.mk (show Below w.heap.size w w5 by (rw [hw_]; exact Below.setCell (Below.setCell (Below.setCell (HB4.out) (show w.heap.size ≤ gr from Nat.le_of_eq Egr.out.symm) _) (show w.heap.size ≤ gr from Nat.le_of_eq Egr.out.symm) _) (show w.heap.size ≤ gr from Nat.le_of_eq Egr.out.symm) _)); have BR5 := Aside0.mk (show w5.heap[gr]? = some (.cells #[.int .i64 x.f0, .int .u32 x.f1, .slice Az x.f2.length cz] 42 (0, 0)) by (rw [hw_]; exact putIt3_0_3 BR4.out (.int .i64 x.f0) (.int .u32 x.f1) (.slice Az x.f2.length cz))); have HO5 := Aside0.mk (Kd.R_mono (Kd.R_step (Kd.R_types HO4.out BR4.out (by decide)) (fun k_ hk_ _ => hf_ k_ hk_.2)) (fun _ h_ => h_.1)); clear hw_ hf_))
 (try rw [Exit.noGoto_ret])
 refine bodyPost_ret (results_ct rfl _ _ gr 42 #[.int .i64 x.f0, .int .u32 x.f1, .slice Az x.f2.length cz] (0, 0) _ rfl BR5.out Try.underlying42 rfl (by kernel_rfl)) rfl ?_
 exact ⟨_, rfl, HO5.out, HB5.out⟩


end Go.Proofs.Ytffefaiaifhokaa.PT
