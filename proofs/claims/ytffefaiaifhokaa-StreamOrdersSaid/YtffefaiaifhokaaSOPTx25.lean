-- PRINTED by gprint.py (a session's own driver over the kit's print): not trusted; Lean checks it.
import Derived.Test.YtffefaiaifhokaaSOPTx0
import Derived.Test.YtffefaiaifhokaaSOPTx6
namespace Go.Proofs.Ytffefaiaifhokaa.PT
open Go.RowKit Go.Proofs.YtffefaiaifhokaaW.PrintWords Go.Proofs.YtffefaiaifhokaaW.PrintLast Go.Proofs.YtffefaiaifhokaaW.PrintMore
set_option linter.unusedVariables false
set_option linter.unusedSimpArgs false

/-! ### grapevinelaw15_news: function 46 -/
-- GIVEN-ALONE: typed by mk_stream.py
theorem putNw8_0_8 {W : World} {g t : Nat} {c0 c1 c2 c3 c4 c5 c6 c7 : Value} (h : W.heap[g]? = some (.cells #[c0, c1, c2, c3, c4, c5, c6, c7] t (0, 0))) (d0 d1 d2 d3 d4 d5 d6 d7 : Value) : ((((((((W.setCell ⟨g, 0, none⟩ d0).setCell ⟨g, 1, none⟩ d1).setCell ⟨g, 2, none⟩ d2).setCell ⟨g, 3, none⟩ d3).setCell ⟨g, 4, none⟩ d4).setCell ⟨g, 5, none⟩ d5).setCell ⟨g, 6, none⟩ d6).setCell ⟨g, 7, none⟩ d7).heap[g]? = some (.cells #[d0, d1, d2, d3, d4, d5, d6, d7] t (0, 0)) := by
 have h0 : (W.setCell ⟨g, 0, none⟩ d0).heap[g]? = some (.cells #[d0, c1, c2, c3, c4, c5, c6, c7] t (0, 0)) := blk_put h 0 _ rfl
 have h1 : ((W.setCell ⟨g, 0, none⟩ d0).setCell ⟨g, 1, none⟩ d1).heap[g]? = some (.cells #[d0, d1, c2, c3, c4, c5, c6, c7] t (0, 0)) := blk_put h0 1 _ rfl
 have h2 : (((W.setCell ⟨g, 0, none⟩ d0).setCell ⟨g, 1, none⟩ d1).setCell ⟨g, 2, none⟩ d2).heap[g]? = some (.cells #[d0, d1, d2, c3, c4, c5, c6, c7] t (0, 0)) := blk_put h1 2 _ rfl
 have h3 : ((((W.setCell ⟨g, 0, none⟩ d0).setCell ⟨g, 1, none⟩ d1).setCell ⟨g, 2, none⟩ d2).setCell ⟨g, 3, none⟩ d3).heap[g]? = some (.cells #[d0, d1, d2, d3, c4, c5, c6, c7] t (0, 0)) := blk_put h2 3 _ rfl
 have h4 : (((((W.setCell ⟨g, 0, none⟩ d0).setCell ⟨g, 1, none⟩ d1).setCell ⟨g, 2, none⟩ d2).setCell ⟨g, 3, none⟩ d3).setCell ⟨g, 4, none⟩ d4).heap[g]? = some (.cells #[d0, d1, d2, d3, d4, c5, c6, c7] t (0, 0)) := blk_put h3 4 _ rfl
 have h5 : ((((((W.setCell ⟨g, 0, none⟩ d0).setCell ⟨g, 1, none⟩ d1).setCell ⟨g, 2, none⟩ d2).setCell ⟨g, 3, none⟩ d3).setCell ⟨g, 4, none⟩ d4).setCell ⟨g, 5, none⟩ d5).heap[g]? = some (.cells #[d0, d1, d2, d3, d4, d5, c6, c7] t (0, 0)) := blk_put h4 5 _ rfl
 have h6 : (((((((W.setCell ⟨g, 0, none⟩ d0).setCell ⟨g, 1, none⟩ d1).setCell ⟨g, 2, none⟩ d2).setCell ⟨g, 3, none⟩ d3).setCell ⟨g, 4, none⟩ d4).setCell ⟨g, 5, none⟩ d5).setCell ⟨g, 6, none⟩ d6).heap[g]? = some (.cells #[d0, d1, d2, d3, d4, d5, d6, c7] t (0, 0)) := blk_put h5 6 _ rfl
 exact blk_put h6 7 _ rfl
theorem C_one {α : Type} {d : Kd α} {W : World} {g t : Nat} {fr : Nat × Nat} {cs : Array Value} {x : α} (hb : W.heap[g]? = some (.cells cs t fr)) (hk : d.K W x cs.toList) : d.C W (some ⟨g, 0, none⟩) 1 [x] := by
 refine ⟨rfl, by decide, fun _ => ⟨_, rfl, fun j p hp => ?_⟩⟩
 cases j with
 | zero =>
  obtain rfl : x = p := Option.some.inj hp
  refine ⟨cs.toList, d.K_len hk, hk, fun i u hu => ?_⟩
  rw [Nat.zero_mul, Nat.zero_add, add_plain, cell_of_row W g i cs t fr hb, ← Array.getElem?_toList]
  exact hu
 | succ j => simp at hp
theorem alloc3 (w : World) (X Y Z : Obj) : (((w.alloc X).alloc Y).alloc Z).heap[w.heap.size]? = some X ∧ (((w.alloc X).alloc Y).alloc Z).heap[w.heap.size + 1]? = some Y ∧ (((w.alloc X).alloc Y).alloc Z).heap[w.heap.size + 2]? = some Z ∧ Below w.heap.size w (((w.alloc X).alloc Y).alloc Z) := by
 have s1 : (w.alloc X).heap.size = w.heap.size + 1 := by show (w.heap.push _).size = _; simp
 have s2 : ((w.alloc X).alloc Y).heap.size = w.heap.size + 2 := by show ((w.alloc X).heap.push _).size = _; simp [s1]
 refine ⟨?_, ?_, ?_, below_alloc (below_alloc (below_alloc (Below.refl _ _) _) _) _⟩
 ·
  rw [heap_alloc_old _ _ (by omega), heap_alloc_old _ _ (by omega)]; exact heap_alloc_new _ _
 ·
  rw [heap_alloc_old _ _ (by omega), ← s1]; exact heap_alloc_new _ _
 rw [← s2]; exact heap_alloc_new _ _
def grapevinelaw15_news.f : Option Int := some 0
set_option maxHeartbeats 4000000 in
set_option maxRecDepth 100000 in
theorem grapevinelaw15_news.calls (w : World) :
 Calls Try.prog 46 #[] w fun e w' => ∃ A6 A7 c6 c7, e = .returned (.agg #[.int .i64 1, .int .i64 0, .int .i64 0, .int .i64 0, .int .i64 1, .int .i64 5, .slice A6 ([⟨1, 4, 2⟩] : List S38).length c6, .slice A7 ([⟨5, 1, [97]⟩] : List S42).length c7]) ∧ Kd.F k38 w' (fun k => w.heap.size ≤ k) A6 ([⟨1, 4, 2⟩] : List S38).length ([⟨1, 4, 2⟩] : List S38) ∧ ([⟨1, 4, 2⟩] : List S38).length ≤ c6 ∧ Kd.F k42 w' (fun k => w.heap.size ≤ k) A7 ([⟨5, 1, [97]⟩] : List S42).length ([⟨5, 1, [97]⟩] : List S42) ∧ ([⟨5, 1, [97]⟩] : List S42).length ≤ c7 ∧ Below w.heap.size w w' := by
 have hu := Try.underlying33
 have hui := Try.underlying42
 have hus := Try.underlying38
 have kc : ∀ (w1 : World) (X : Obj) (C : Array Value) (n c : Nat), (convert 40 40 (.slice (some ⟨w1.heap.size + 1, 0, none⟩) n c)).run Try.prog ((w1.alloc X).alloc (.cells C 5)) = .ok (.slice (some ⟨w1.heap.size + 1, 0, none⟩) n c) ((w1.alloc X).alloc (.cells C 5 (C.size, C.size + 1))) := fun w1 X C n c => by
  have h := Lib.run_convert_bytes_const (P := Try.prog) (w1.alloc X) 40 5 C n c Try.underlying40 Try.underlying5
  rwa [show (w1.alloc X).heap.size = w1.heap.size + 1 by (show (w1.heap.push _).size = _; simp)] at h
 go_enter Try.func46, Try.ntmps46
 go_wp2_with (first | ((with_reducible refine gate_dst (N := 0) rfl ?_); refine box_event ?hg (N := 0) ?hd (cs := #[.int .i64 0, .int .i64 0, .int .i64 0, .int .i64 0, .int .i64 0, .int .i64 0, .slice none 0 0, .slice none 0 0]) (t := 33) ?hr ?_; (case hd => rfl); (case hg => rfl); (case hr => first | (go_simp; done) | (go_simp; rfl)); intro gr hg w1 hbox hb; have HB1 := Aside0.mk hb; have Ggr := Aside0.mk (show w.heap.size ≤ gr by rw [hg]; exact Nat.le_refl _); have Egr := Aside0.mk hg; have BR1 := Aside0.mk hbox; clear hb hbox hg) | ((with_reducible refine gate_store (t := 33) (p := 0) (v := .tmp 7) rfl ?_); obtain ⟨h1, h2, h3, h4⟩ := alloc3 w1 (.cells #[.int .i64 1, .int .i64 4, .int .i64 2] 38) (.cells #[.int .u8 97] 5 (1, 2)) (.cells #[.int .i64 5, .int .u32 1, .slice (some ⟨w1.heap.size + 1, 0, none⟩) 1 1] 42); obtain ⟨w2, hw2⟩ : ∃ x, x = ((w1.alloc (.cells #[.int .i64 1, .int .i64 4, .int .i64 2] 38)).alloc (.cells #[.int .u8 97] 5 (1, 2))).alloc (.cells #[.int .i64 5, .int .u32 1, .slice (some ⟨w1.heap.size + 1, 0, none⟩) 1 1] 42) := ⟨_, rfl⟩; rw [← hw2] at h1 h2 h3 h4; rw [← hw2]; clear hw2; have HB2 := Aside0.mk (below_step HB1.out h4); have BR2 := Aside0.mk (blk_below BR1.out h4); have HFS2 := Aside0.mk (show Kd.F k38 w2 (fun k => k = w1.heap.size) (some ⟨w1.heap.size, 0, none⟩) 1 ([⟨1, 4, 2⟩] : List S38) from fun W' hW => C_one ((hW _ rfl (blk_lt h1)).trans h1) (k38_mk W' (⟨1, 4, 2⟩ : S38))); have HFI2 := Aside0.mk (show Kd.F k42 w2 (fun k => k = w1.heap.size + 1 ∨ k = w1.heap.size + 2) (some ⟨w1.heap.size + 2, 0, none⟩) 1 ([⟨5, 1, [97]⟩] : List S42) from fun W' hW => C_one ((hW _ (Or.inr rfl) (blk_lt h3)).trans h3) (k42_mk W' (⟨5, 1, [97]⟩ : S42) (Nat.le_refl 1) (C_one (d := Kd.int .u8) ((hW _ (Or.inl rfl) (blk_lt h2)).trans h2) rfl))); clear h1 h2 h3 h4; have zr2_0 := (blk_cell BR2.out 0).trans rfl; have zr2_1 := (blk_cell BR2.out 1).trans rfl; have zr2_2 := (blk_cell BR2.out 2).trans rfl; have zr2_3 := (blk_cell BR2.out 3).trans rfl; have zr2_4 := (blk_cell BR2.out 4).trans rfl; have zr2_5 := (blk_cell BR2.out 5).trans rfl; have zr2_6 := (blk_cell BR2.out 6).trans rfl; have zr2_7 := (blk_cell BR2.out 7).trans rfl; have fr2_0 := blk_frozen BR2.out 0; have fr2_1 := blk_frozen BR2.out 1; have fr2_2 := blk_frozen BR2.out 2; have fr2_3 := blk_frozen BR2.out 3; have fr2_4 := blk_frozen BR2.out 4; have fr2_5 := blk_frozen BR2.out 5; have fr2_6 := blk_frozen BR2.out 6; have fr2_7 := blk_frozen BR2.out 7; refine store_event rfl (t := 33) (p := 0) (v := .tmp 7) rfl rfl (w1 := ((((((((w2.setCell ⟨gr, 0, none⟩ (.int .i64 1)).setCell ⟨gr, 1, none⟩ (.int .i64 0)).setCell ⟨gr, 2, none⟩ (.int .i64 0)).setCell ⟨gr, 3, none⟩ (.int .i64 0)).setCell ⟨gr, 4, none⟩ (.int .i64 1)).setCell ⟨gr, 5, none⟩ (.int .i64 5)).setCell ⟨gr, 6, none⟩ (.slice (some ⟨w1.heap.size, 0, none⟩) 1 1)).setCell ⟨gr, 7, none⟩ (.slice (some ⟨w1.heap.size + 2, 0, none⟩) 1 1))) ?hr ?_; (case hr => first | (go_simp; done) | (go_simp; rfl)); intro w3 hw_; have BR3 := Aside0.mk (show w3.heap[gr]? = some (.cells #[.int .i64 1, .int .i64 0, .int .i64 0, .int .i64 0, .int .i64 1, .int .i64 5, .slice (some ⟨w1.heap.size, 0, none⟩) 1 1, .slice (some ⟨w1.heap.size + 2, 0, none⟩) 1 1] 33 (0, 0)) by (rw [hw_]; exact putNw8_0_8 BR2.out (.int .i64 1) (.int .i64 0) (.int .i64 0) (.int .i64 0) (.int .i64 1) (.int .i64 5) (.slice (some ⟨w1.heap.size, 0, none⟩) 1 1) (.slice (some ⟨w1.heap.size + 2, 0, none⟩) 1 1))); have hf_ : ∀ i, i ≠ gr → w3.heap[i]? = w2.heap[i]? := fun i hi => (by rw [hw_]; rw [far1L _ _ _ _ _ hi, far1L _ _ _ _ _ hi, far1L _ _ _ _ _ hi, far1L _ _ _ _ _ hi, far1L _ _ _ _ _ hi, far1L _ _ _ _ _ hi, far1L _ _ _ _ _ hi, far1L _ _ _ _ _ hi]); have HB3 := Aside0.mk (show Below w.heap.size w w3 by (rw [hw_]; exact below_set (below_set (below_set (below_set (below_set (below_set (below_set (below_set (HB2.out) Ggr.out) Ggr.out) Ggr.out) Ggr.out) Ggr.out) Ggr.out) Ggr.out) Ggr.out)); have HFS3 := Aside0.mk (Kd.F_step HFS2.out (fun k_ hk_ hlt_ => hf_ k_ (by have h1_ := blk_lt BR1.out; have h2_ : k_ = w1.heap.size := hk_; omega))); have HFI3 := Aside0.mk (Kd.F_step HFI2.out (fun k_ hk_ hlt_ => hf_ k_ (by have h1_ := blk_lt BR1.out; have h2_ : k_ = w1.heap.size + 1 ∨ k_ = w1.heap.size + 2 := hk_; omega))); clear hf_; clear hw_))
 refine bodyPost_ret (results_cell_row rfl _ _ gr 33 #[.int .i64 1, .int .i64 0, .int .i64 0, .int .i64 0, .int .i64 1, .int .i64 5, .slice (some ⟨w1.heap.size, 0, none⟩) 1 1, .slice (some ⟨w1.heap.size + 2, 0, none⟩) 1 1] (0, 0) _ rfl BR3.out Try.underlying33 rfl (by kernel_rfl)) rfl ?_
 have hs_ := below_size HB1.out
 exact ⟨_, _, _, _, rfl, Kd.F_mono HFS3.out (fun k_ h_ => by have h1_ : k_ = w1.heap.size := h_; omega), Nat.le_refl 1, Kd.F_mono HFI3.out (fun k_ h_ => by have h1_ : k_ = w1.heap.size + 1 ∨ k_ = w1.heap.size + 2 := h_; omega), Nat.le_refl 1, HB3.out⟩


end Go.Proofs.Ytffefaiaifhokaa.PT
