-- PRINTED by gprint.py (a session's own driver over the kit's print): not trusted; Lean checks it.
import Derived.Test.YtffefaiaifhokaaSOPTx0
import Derived.Test.YtffefaiaifhokaaSOPTx6
import Derived.Test.YtffefaiaifhokaaSOPTx16
namespace Go.Proofs.Ytffefaiaifhokaa.PT
open Go.RowKit Go.Proofs.YtffefaiaifhokaaW.PrintWords Go.Proofs.YtffefaiaifhokaaW.PrintLast Go.Proofs.YtffefaiaifhokaaW.PrintMore
set_option linter.unusedVariables false
set_option linter.unusedSimpArgs false

/-! ### stream_Stream_Next: function 30 -/
-- GIVEN-ALONE: typed by mk_stream.py
def stream_Stream_Next.f : Option Int := some 0
theorem putNx13_0_3 {W : World} {g t : Nat} {c0 c1 c2 : Value} (h : W.heap[g]? = some (.cells #[c0, c1, c2] t (0, 0))) (d0 d1 d2 : Value) : (((W.setCell ⟨g, 0, none⟩ d0).setCell ⟨g, 1, none⟩ d1).setCell ⟨g, 2, none⟩ d2).heap[g]? = some (.cells #[d0, d1, d2] t (0, 0)) := by
 have h0 : (W.setCell ⟨g, 0, none⟩ d0).heap[g]? = some (.cells #[d0, c1, c2] t (0, 0)) := blk_put h 0 _ rfl
 have h1 : ((W.setCell ⟨g, 0, none⟩ d0).setCell ⟨g, 1, none⟩ d1).heap[g]? = some (.cells #[d0, d1, c2] t (0, 0)) := blk_put h0 1 _ rfl
 exact blk_put h1 2 _ rfl
theorem putNx16_0_6 {W : World} {g t : Nat} {c0 c1 c2 c3 c4 c5 : Value} (h : W.heap[g]? = some (.cells #[c0, c1, c2, c3, c4, c5] t (0, 0))) (d0 d1 d2 d3 d4 d5 : Value) : ((((((W.setCell ⟨g, 0, none⟩ d0).setCell ⟨g, 1, none⟩ d1).setCell ⟨g, 2, none⟩ d2).setCell ⟨g, 3, none⟩ d3).setCell ⟨g, 4, none⟩ d4).setCell ⟨g, 5, none⟩ d5).heap[g]? = some (.cells #[d0, d1, d2, d3, d4, d5] t (0, 0)) := by
 have h0 : (W.setCell ⟨g, 0, none⟩ d0).heap[g]? = some (.cells #[d0, c1, c2, c3, c4, c5] t (0, 0)) := blk_put h 0 _ rfl
 have h1 : ((W.setCell ⟨g, 0, none⟩ d0).setCell ⟨g, 1, none⟩ d1).heap[g]? = some (.cells #[d0, d1, c2, c3, c4, c5] t (0, 0)) := blk_put h0 1 _ rfl
 have h2 : (((W.setCell ⟨g, 0, none⟩ d0).setCell ⟨g, 1, none⟩ d1).setCell ⟨g, 2, none⟩ d2).heap[g]? = some (.cells #[d0, d1, d2, c3, c4, c5] t (0, 0)) := blk_put h1 2 _ rfl
 have h3 : ((((W.setCell ⟨g, 0, none⟩ d0).setCell ⟨g, 1, none⟩ d1).setCell ⟨g, 2, none⟩ d2).setCell ⟨g, 3, none⟩ d3).heap[g]? = some (.cells #[d0, d1, d2, d3, c4, c5] t (0, 0)) := blk_put h2 3 _ rfl
 have h4 : (((((W.setCell ⟨g, 0, none⟩ d0).setCell ⟨g, 1, none⟩ d1).setCell ⟨g, 2, none⟩ d2).setCell ⟨g, 3, none⟩ d3).setCell ⟨g, 4, none⟩ d4).heap[g]? = some (.cells #[d0, d1, d2, d3, d4, c5] t (0, 0)) := blk_put h3 4 _ rfl
 exact blk_put h4 5 _ rfl
set_option maxHeartbeats 100000000 in
set_option maxRecDepth 100000 in
theorem next_live1 (g b : Nat) (A2 A1 : Option Addr) (c2 c1 : Nat) (w : World) (hb : w.heap[g]? = some (.cells #[.slice A2 ([⟨1, 4, 2⟩, ⟨5, 5, 1⟩] : List S38).length c2, .map (some b)] 81 (0, 0))) (hK : Kd.C k38 w A2 ([⟨1, 4, 2⟩, ⟨5, 5, 1⟩] : List S38).length ([⟨1, 4, 2⟩, ⟨5, 5, 1⟩] : List S38)) (hc2 : ([⟨1, 4, 2⟩, ⟨5, 5, 1⟩] : List S38).length ≤ c2) (hm : Mp w b 1 (.map [(.int .i64 5, .held (.agg #[.int .i64 5, .int .u32 1, .slice A1 1 c1]))])) (hB : Kd.C (Kd.int .u8) w A1 ([97] : List Int).length [97]) (hc1 : 1 ≤ c1) :
 Calls Try.prog 30 #[.pointer (some ⟨g, 0, none⟩), .int .i64 0, .int .i64 1] w fun e w' => (∃ A c, e = .returned (.tuple #[.agg #[.int .i64 1, .int .i64 5, .int .i64 5, .int .i64 5, .int .u32 1, .slice A 1 c], .int .i64 0]) ∧ Kd.C (Kd.int .u8) w' A ([97] : List Int).length [97] ∧ 1 ≤ c) ∧ Below w.heap.size w w' := by
 have hu := Try.underlying73
 have hus := Try.underlying81
 have hui := Try.underlying42
 have hup := Try.underlying38
 have BG := Aside0.mk hb
 have HK := Aside0.mk hK
 have HC2 := Aside0.mk hc2
 have HM := Aside0.mk hm
 have HY := Aside0.mk hB
 have HC1 := Aside0.mk hc1
 clear hb hK hc2 hm hB hc1
 go_enter Try.func30, Try.ntmps30
 go_wp2_with (first | ((with_reducible refine gate_dst (N := 6) rfl ?_); refine box_event ?hg (N := 6) ?hd (cs := #[.int .i64 0, .int .i64 0, .int .i64 0, .int .i64 0, .int .u32 0, .slice none 0 0]) (t := 73) ?hr ?_; (case hd => rfl); (case hg => rfl); (case hr => first | (go_simp; done) | (go_simp; rfl)); intro gr hg w1 hbox hb; have HB1 := Aside0.mk hb; have Ggr := Aside0.mk (show w.heap.size ≤ gr by rw [hg]; exact Nat.le_refl _); have Egr := Aside0.mk hg; have BR1 := Aside0.mk hbox; have zg_0 := (blk_cell (blk_below BG.out HB1.out) 0).trans rfl; clear hb hbox hg))
 go_step3
 go_wp2
 go_step3
 go_wp2
 go_loopg [39, 8] 3 (fun kq v39 v8 w' => ∃ i : Int, v39 = .int .i64 i ∧ Aside0 (3 ≤ kq + i.toNat) ∧ ((i = 0 ∧ v8 = .int .i64 1) ∨ (i = 1 ∧ v8 = .int .i64 5)) ∧ Aside0 (Below w.heap.size w w') ∧ Aside0 (w'.heap[gr]? = some (.cells #[.int .i64 0, .int .i64 0, .int .i64 0, .int .i64 0, .int .u32 0, .slice none 0 0] 73 (0, 0))))
 case atStart => exact ⟨0, rfl, ⟨by decide⟩, Or.inl ⟨rfl, rfl⟩, HB1, BR1⟩
 case round =>
  obtain ⟨i, rfl, HI_, hcase, HB0, BR0⟩ := hrel
  have HKr := Kd.C_below HK.out HB0.out
  have zg_1 := (blk_cell (blk_below BG.out HB0.out) 1).trans rfl
  rcases hcase with ⟨rfl, rfl⟩ | ⟨rfl, rfl⟩
  ·
   obtain ⟨ad, hA, q0, q1, q2⟩ := at_T38 HKr 0 (by decide) (by decide)
   subst hA
   replace q0 : wr.cell? ad = some (.int .i64 1) := q0
   have q1' : wr.cell? ⟨ad.block, ad.off + 1, none⟩ = some (.int .i64 4) := q1
   have q2' : wr.cell? ⟨ad.block, ad.off + 2, none⟩ = some (.int .i64 2) := q2
   go_wp2_with (first | ((with_reducible refine gate_dst (N := 10) rfl ?_); refine box_event ?hg (N := 10) ?hd (cs := #[.int .i64 0, .int .i64 0, .int .i64 0]) (t := 38) ?hr ?_; (case hd => rfl); (case hg => rfl); (case hr => first | (go_simp; done) | (go_simp; rfl)); intro gx hg w1 hbox hb; have HB1 := Aside0.mk (below_step HB0.out hb); have BR1 := Aside0.mk (blk_below BR0.out hb); have Ggx := Aside0.mk (show w.heap.size ≤ gx by (rw [hg]; exact below_size HB0.out)); have Ngr_gx := Aside0.mk (show gr ≠ gx from fun e_ => absurd (blk_lt BR0.out) (by rw [e_, hg]; exact Nat.lt_irrefl _)); have Egx := Aside0.mk hg; have BX1 := Aside0.mk hbox; have zBX1_0 : w1.cell? ⟨gx, 0, none⟩ = some (.int .i64 0) := (blk_cell BX1.out 0).trans rfl; have fBX1_0 := blk_frozen BX1.out 0; have zBX1_1 : w1.cell? ⟨gx, 1, none⟩ = some (.int .i64 0) := (blk_cell BX1.out 1).trans rfl; have fBX1_1 := blk_frozen BX1.out 1; have zBX1_2 : w1.cell? ⟨gx, 2, none⟩ = some (.int .i64 0) := (blk_cell BX1.out 2).trans rfl; have fBX1_2 := blk_frozen BX1.out 2; clear hb hbox hg) | ((with_reducible refine gate_store (t := 38) (p := 10) (v := .tmp 42) rfl ?_); refine store_event rfl (t := 38) (p := 10) (v := .tmp 42) rfl rfl (w1 := (((w1.setCell ⟨gx, 0, none⟩ (.int .i64 1)).setCell ⟨gx, 1, none⟩ (.int .i64 4)).setCell ⟨gx, 2, none⟩ (.int .i64 2))) ?hr ?_; (case hr => first | (go_simp; done) | (go_simp; rfl)); intro w2 hw_; have BX2 := Aside0.mk (show w2.heap[gx]? = some (.cells #[.int .i64 1, .int .i64 4, .int .i64 2] 38 (0, 0)) by (rw [hw_]; exact putNx13_0_3 BX1.out (.int .i64 1) (.int .i64 4) (.int .i64 2))); have hf_ : ∀ i, i ≠ gx → w2.heap[i]? = w1.heap[i]? := fun i hi => (by rw [hw_]; rw [far1L _ _ _ _ _ hi, far1L _ _ _ _ _ hi, far1L _ _ _ _ _ hi]); have HB2 := Aside0.mk (show Below w.heap.size w w2 by (rw [hw_]; exact below_set (below_set (below_set (HB1.out) Ggx.out) Ggx.out) Ggx.out)); have BR2 := Aside0.mk ((hf_ gr Ngr_gx.out).trans BR1.out); clear hf_; have zBX2_0 : w2.cell? ⟨gx, 0, none⟩ = some (.int .i64 1) := (blk_cell BX2.out 0).trans rfl; have fBX2_0 := blk_frozen BX2.out 0; have zBX2_1 : w2.cell? ⟨gx, 1, none⟩ = some (.int .i64 4) := (blk_cell BX2.out 1).trans rfl; have fBX2_1 := blk_frozen BX2.out 1; have zBX2_2 : w2.cell? ⟨gx, 2, none⟩ = some (.int .i64 2) := (blk_cell BX2.out 2).trans rfl; have fBX2_2 := blk_frozen BX2.out 2; clear hw_))
   cases gk with
   | zero => exact absurd HI_.out (by decide)
   | succ k2 =>
    go_roundg k2
    case measure => omega
    case rel => exact ⟨1, (by first | rfl | decide), ⟨by have h1_ := HI_.out; simp at h1_ ⊢; omega⟩, Or.inr ⟨rfl, rfl⟩, HB2, BR2⟩
  obtain ⟨ad, hA, q0, q1, q2⟩ := at_T38 HKr 1 (by decide) (by decide)
  subst hA
  replace q0 : wr.cell? ⟨ad.block, ad.off + 3, none⟩ = some (.int .i64 5) := q0
  have q1' : wr.cell? ⟨ad.block, ad.off + 4, none⟩ = some (.int .i64 5) := q1
  have q2' : wr.cell? ⟨ad.block, ad.off + 5, none⟩ = some (.int .i64 1) := q2
  replace q1 : wr.cell? ⟨ad.block, ad.off + 3 + 1, none⟩ = some (.int .i64 5) := q1
  replace q2 : wr.cell? ⟨ad.block, ad.off + 3 + 2, none⟩ = some (.int .i64 1) := q2
  go_wp2_with (first | ((with_reducible refine gate_dst (N := 10) rfl ?_); refine box_event ?hg (N := 10) ?hd (cs := #[.int .i64 0, .int .i64 0, .int .i64 0]) (t := 38) ?hr ?_; (case hd => rfl); (case hg => rfl); (case hr => first | (go_simp; done) | (go_simp; rfl)); intro gx hg w1 hbox hb; have HB1 := Aside0.mk (below_step HB0.out hb); have BR1 := Aside0.mk (blk_below BR0.out hb); have Ggx := Aside0.mk (show w.heap.size ≤ gx by (rw [hg]; exact below_size HB0.out)); have Ngr_gx := Aside0.mk (show gr ≠ gx from fun e_ => absurd (blk_lt BR0.out) (by rw [e_, hg]; exact Nat.lt_irrefl _)); have Egx := Aside0.mk hg; have BX1 := Aside0.mk hbox; have zBX1_0 : w1.cell? ⟨gx, 0, none⟩ = some (.int .i64 0) := (blk_cell BX1.out 0).trans rfl; have fBX1_0 := blk_frozen BX1.out 0; have zBX1_1 : w1.cell? ⟨gx, 1, none⟩ = some (.int .i64 0) := (blk_cell BX1.out 1).trans rfl; have fBX1_1 := blk_frozen BX1.out 1; have zBX1_2 : w1.cell? ⟨gx, 2, none⟩ = some (.int .i64 0) := (blk_cell BX1.out 2).trans rfl; have fBX1_2 := blk_frozen BX1.out 2; clear hb hbox hg) | ((with_reducible refine gate_store (t := 38) (p := 10) (v := .tmp 42) rfl ?_); refine store_event rfl (t := 38) (p := 10) (v := .tmp 42) rfl rfl (w1 := (((w1.setCell ⟨gx, 0, none⟩ (.int .i64 5)).setCell ⟨gx, 1, none⟩ (.int .i64 5)).setCell ⟨gx, 2, none⟩ (.int .i64 1))) ?hr ?_; (case hr => first | (go_simp; done) | (go_simp; rfl)); intro w2 hw_; have BX2 := Aside0.mk (show w2.heap[gx]? = some (.cells #[.int .i64 5, .int .i64 5, .int .i64 1] 38 (0, 0)) by (rw [hw_]; exact putNx13_0_3 BX1.out (.int .i64 5) (.int .i64 5) (.int .i64 1))); have hf_ : ∀ i, i ≠ gx → w2.heap[i]? = w1.heap[i]? := fun i hi => (by rw [hw_]; rw [far1L _ _ _ _ _ hi, far1L _ _ _ _ _ hi, far1L _ _ _ _ _ hi]); have HB2 := Aside0.mk (show Below w.heap.size w w2 by (rw [hw_]; exact below_set (below_set (below_set (HB1.out) Ggx.out) Ggx.out) Ggx.out)); have BR2 := Aside0.mk ((hf_ gr Ngr_gx.out).trans BR1.out); clear hf_; have zBX2_0 : w2.cell? ⟨gx, 0, none⟩ = some (.int .i64 5) := (blk_cell BX2.out 0).trans rfl; have fBX2_0 := blk_frozen BX2.out 0; have zBX2_1 : w2.cell? ⟨gx, 1, none⟩ = some (.int .i64 5) := (blk_cell BX2.out 1).trans rfl; have fBX2_1 := blk_frozen BX2.out 1; have zBX2_2 : w2.cell? ⟨gx, 2, none⟩ = some (.int .i64 1) := (blk_cell BX2.out 2).trans rfl; have fBX2_2 := blk_frozen BX2.out 2; clear hw_))
  go_loopg [8] 2 (fun kq v8 w' => v8 = .int .i64 5 ∧ Aside0 (Below w.heap.size w w') ∧ Aside0 (w'.heap[gr]? = some (.cells #[.int .i64 0, .int .i64 0, .int .i64 0, .int .i64 0, .int .u32 0, .slice none 0 0] 73 (0, 0))) ∧ Aside0 (w'.heap[gx]? = some (.cells #[.int .i64 5, .int .i64 5, .int .i64 1] 38 (0, 0))))
  case atStart => exact ⟨rfl, HB2, BR2, BX2⟩
  case round =>
   obtain ⟨rfl, HB0, BR0, BX0⟩ := hrel
   have zx_1 := (blk_cell BX0.out 1).trans rfl
   have zg_2 := (blk_cell (blk_below BG.out HB0.out) 1).trans rfl
   have HMr := HM.out.below HB0.out
   obtain ⟨v, ps, hrun, hv_⟩ := World.ownsMap.lookup HMr (Go.Maps.int_keyed Try.underlying3) Try.underlying79 (z := .agg #[.int .i64 0, .int .u32 0, .slice none 0 0]) (zd := .held (.agg #[.int .i64 0, .int .u32 0, .slice none 0 0])) (zp := []) (by kernel_rfl) rfl (key := .int .i64 5) (kl := .int .i64 5) (Go.Maps.keyOf_int_mk Try.underlying3 (by decide))
   have hv2 : (DataW.held v : DataW Value) = .held (.agg #[.int .i64 5, .int .u32 1, .slice A1 1 c1]) := (Prod.mk.inj (Option.some.inj hv_)).1
   injection hv2 with hv3
   subst hv3
   clear hv_
   go_wp2_with (first | ((with_reducible refine gate_dst (N := 11) rfl ?_); refine box_event ?hg (N := 11) ?hd (cs := #[.int .i64 0, .int .u32 0, .slice none 0 0]) (t := 42) ?hr ?_; (case hd => rfl); (case hg => rfl); (case hr => first | (go_simp; done) | (go_simp; rfl)); intro gy hg w1 hbox hb; have HB1 := Aside0.mk (below_step HB0.out hb); have BR1 := Aside0.mk (blk_below BR0.out hb); have Ggy := Aside0.mk (show w.heap.size ≤ gy by (rw [hg]; exact below_size HB0.out)); have Ngr_gy := Aside0.mk (show gr ≠ gy from fun e_ => absurd (blk_lt BR0.out) (by rw [e_, hg]; exact Nat.lt_irrefl _)); have Egy := Aside0.mk hg; have BY1 := Aside0.mk hbox; have zBY1_0 : w1.cell? ⟨gy, 0, none⟩ = some (.int .i64 0) := (blk_cell BY1.out 0).trans rfl; have fBY1_0 := blk_frozen BY1.out 0; have zBY1_1 : w1.cell? ⟨gy, 1, none⟩ = some (.int .u32 0) := (blk_cell BY1.out 1).trans rfl; have fBY1_1 := blk_frozen BY1.out 1; have zBY1_2 : w1.cell? ⟨gy, 2, none⟩ = some (.slice none 0 0) := (blk_cell BY1.out 2).trans rfl; have fBY1_2 := blk_frozen BY1.out 2; clear hb hbox hg) | ((with_reducible refine gate_store (t := 42) (p := 11) (v := .tmp 79) rfl ?_); refine store_event rfl (t := 42) (p := 11) (v := .tmp 79) rfl rfl (w1 := (((w1.setCell ⟨gy, 0, none⟩ (.int .i64 5)).setCell ⟨gy, 1, none⟩ (.int .u32 1)).setCell ⟨gy, 2, none⟩ (.slice A1 1 c1))) ?hr ?_; (case hr => first | (go_simp; done) | (go_simp; rfl)); intro w2 hw_; have BY2 := Aside0.mk (show w2.heap[gy]? = some (.cells #[.int .i64 5, .int .u32 1, .slice A1 1 c1] 42 (0, 0)) by (rw [hw_]; exact putNx13_0_3 BY1.out (.int .i64 5) (.int .u32 1) (.slice A1 1 c1))); have hf_ : ∀ i, i ≠ gy → w2.heap[i]? = w1.heap[i]? := fun i hi => (by rw [hw_]; rw [far1L _ _ _ _ _ hi, far1L _ _ _ _ _ hi, far1L _ _ _ _ _ hi]); have HB2 := Aside0.mk (show Below w.heap.size w w2 by (rw [hw_]; exact below_set (below_set (below_set (HB1.out) Ggy.out) Ggy.out) Ggy.out)); have BR2 := Aside0.mk ((hf_ gr Ngr_gy.out).trans BR1.out); clear hf_; have zBY2_0 : w2.cell? ⟨gy, 0, none⟩ = some (.int .i64 5) := (blk_cell BY2.out 0).trans rfl; have fBY2_0 := blk_frozen BY2.out 0; have zBY2_1 : w2.cell? ⟨gy, 1, none⟩ = some (.int .u32 1) := (blk_cell BY2.out 1).trans rfl; have fBY2_1 := blk_frozen BY2.out 1; have zBY2_2 : w2.cell? ⟨gy, 2, none⟩ = some (.slice A1 1 c1) := (blk_cell BY2.out 2).trans rfl; have fBY2_2 := blk_frozen BY2.out 2; clear hw_) | ((with_reducible refine gate_dst (N := 90) rfl ?_); (try (refine gate_guard (by rfl) ?_; dsimp only)); refine goesL_ (some 90) rfl rfl Try.func37 (by kernel_rfl) rfl #[.agg #[.int .i64 5, .int .u32 1, .slice A1 1 c1]] rfl (by (try simp only [List.map_toArray, List.map_cons, List.map_nil]); first | done | rfl | (simp only [List.length_drop, List.length_take]; rfl)) ?_; refine (stream_copied.calls 5 1 A1 c1 [97] 5 1 [97] _ (Kd.C_below HY.out HB2.out) HC1.out rfl).mono ?_; rintro e_ w3 ⟨v_, rfl, ho, hb⟩; refine ⟨_, rfl, ?_⟩; have HB3 := Aside0.mk (below_step HB2.out hb); have BR3 := Aside0.mk (blk_below BR2.out hb); have BY3 := Aside0.mk (blk_below BY2.out hb); obtain ⟨A, c, e1⟩ := Kd.R_slice ho; subst e1; have HL_ := Aside0.mk (Kd.R_reads' ho).2.1; have HO3 := Aside0.mk (Kd.R_lower ho (below_size HB2.out)); have zr3_0 := (blk_cell BR3.out 0).trans rfl; have zr3_1 := (blk_cell BR3.out 1).trans rfl; have zr3_2 := (blk_cell BR3.out 2).trans rfl; have zr3_3 := (blk_cell BR3.out 3).trans rfl; have zr3_4 := (blk_cell BR3.out 4).trans rfl; have zr3_5 := (blk_cell BR3.out 5).trans rfl; have fr3_0 := blk_frozen BR3.out 0; have fr3_1 := blk_frozen BR3.out 1; have fr3_2 := blk_frozen BR3.out 2; have fr3_3 := blk_frozen BR3.out 3; have fr3_4 := blk_frozen BR3.out 4; have fr3_5 := blk_frozen BR3.out 5; clear ho hb) | ((with_reducible refine gate_store (t := 73) (p := 6) (v := .tmp 91) rfl ?_); refine store_event rfl (t := 73) (p := 6) (v := .tmp 91) rfl rfl (w1 := ((((((w3.setCell ⟨gr, 0, none⟩ (.int .i64 1)).setCell ⟨gr, 1, none⟩ (.int .i64 5)).setCell ⟨gr, 2, none⟩ (.int .i64 5)).setCell ⟨gr, 3, none⟩ (.int .i64 5)).setCell ⟨gr, 4, none⟩ (.int .u32 1)).setCell ⟨gr, 5, none⟩ (.slice A 1 c))) ?hr ?_; (case hr => first | (go_simp; done) | (go_simp; rfl)); intro w4 hw_; have BR4 := Aside0.mk (show w4.heap[gr]? = some (.cells #[.int .i64 1, .int .i64 5, .int .i64 5, .int .i64 5, .int .u32 1, .slice A 1 c] 73 (0, 0)) by (rw [hw_]; exact putNx16_0_6 BR3.out (.int .i64 1) (.int .i64 5) (.int .i64 5) (.int .i64 5) (.int .u32 1) (.slice A 1 c))); have hf_ : ∀ i, i ≠ gr → w4.heap[i]? = w3.heap[i]? := fun i hi => (by rw [hw_]; rw [far1L _ _ _ _ _ hi, far1L _ _ _ _ _ hi, far1L _ _ _ _ _ hi, far1L _ _ _ _ _ hi, far1L _ _ _ _ _ hi, far1L _ _ _ _ _ hi]); have HB4 := Aside0.mk (show Below w.heap.size w w4 by (rw [hw_]; exact below_set (below_set (below_set (below_set (below_set (below_set (HB3.out) Ggr.out) Ggr.out) Ggr.out) Ggr.out) Ggr.out) Ggr.out)); have BY4 := Aside0.mk ((hf_ gy (Ne.symm Ngr_gy.out)).trans BY3.out); have HO4 := Aside0.mk (Kd.R_mono (Kd.R_step (Kd.R_types HO3.out BR3.out (by decide)) (fun k_ hk_ _ => hf_ k_ hk_.2)) (fun _ h_ => h_.1)); clear hf_; clear hw_))
   (try rw [Exit.noGoto_ret])
   refine bodyPost_ret (results_ct rfl _ _ gr 73 #[.int .i64 1, .int .i64 5, .int .i64 5, .int .i64 5, .int .u32 1, .slice A 1 c] (0, 0) _ rfl BR4.out Try.underlying73 rfl (by kernel_rfl)) rfl ?_
   exact ⟨⟨A, c, rfl, (Kd.R_reads' HO4.out).2.2, HL_.out⟩, HB4.out⟩
theorem putNx23_0_3 {W : World} {g t : Nat} {c0 c1 c2 : Value} (h : W.heap[g]? = some (.cells #[c0, c1, c2] t (0, 0))) (d0 d1 d2 : Value) : (((W.setCell ⟨g, 0, none⟩ d0).setCell ⟨g, 1, none⟩ d1).setCell ⟨g, 2, none⟩ d2).heap[g]? = some (.cells #[d0, d1, d2] t (0, 0)) := by
 have h0 : (W.setCell ⟨g, 0, none⟩ d0).heap[g]? = some (.cells #[d0, c1, c2] t (0, 0)) := blk_put h 0 _ rfl
 have h1 : ((W.setCell ⟨g, 0, none⟩ d0).setCell ⟨g, 1, none⟩ d1).heap[g]? = some (.cells #[d0, d1, c2] t (0, 0)) := blk_put h0 1 _ rfl
 exact blk_put h1 2 _ rfl
theorem putNx26_0_6 {W : World} {g t : Nat} {c0 c1 c2 c3 c4 c5 : Value} (h : W.heap[g]? = some (.cells #[c0, c1, c2, c3, c4, c5] t (0, 0))) (d0 d1 d2 d3 d4 d5 : Value) : ((((((W.setCell ⟨g, 0, none⟩ d0).setCell ⟨g, 1, none⟩ d1).setCell ⟨g, 2, none⟩ d2).setCell ⟨g, 3, none⟩ d3).setCell ⟨g, 4, none⟩ d4).setCell ⟨g, 5, none⟩ d5).heap[g]? = some (.cells #[d0, d1, d2, d3, d4, d5] t (0, 0)) := by
 have h0 : (W.setCell ⟨g, 0, none⟩ d0).heap[g]? = some (.cells #[d0, c1, c2, c3, c4, c5] t (0, 0)) := blk_put h 0 _ rfl
 have h1 : ((W.setCell ⟨g, 0, none⟩ d0).setCell ⟨g, 1, none⟩ d1).heap[g]? = some (.cells #[d0, d1, c2, c3, c4, c5] t (0, 0)) := blk_put h0 1 _ rfl
 have h2 : (((W.setCell ⟨g, 0, none⟩ d0).setCell ⟨g, 1, none⟩ d1).setCell ⟨g, 2, none⟩ d2).heap[g]? = some (.cells #[d0, d1, d2, c3, c4, c5] t (0, 0)) := blk_put h1 2 _ rfl
 have h3 : ((((W.setCell ⟨g, 0, none⟩ d0).setCell ⟨g, 1, none⟩ d1).setCell ⟨g, 2, none⟩ d2).setCell ⟨g, 3, none⟩ d3).heap[g]? = some (.cells #[d0, d1, d2, d3, c4, c5] t (0, 0)) := blk_put h2 3 _ rfl
 have h4 : (((((W.setCell ⟨g, 0, none⟩ d0).setCell ⟨g, 1, none⟩ d1).setCell ⟨g, 2, none⟩ d2).setCell ⟨g, 3, none⟩ d3).setCell ⟨g, 4, none⟩ d4).heap[g]? = some (.cells #[d0, d1, d2, d3, d4, c5] t (0, 0)) := blk_put h3 4 _ rfl
 exact blk_put h4 5 _ rfl
set_option maxHeartbeats 100000000 in
set_option maxRecDepth 100000 in
theorem next_live2 (g b : Nat) (A2 A1 : Option Addr) (c2 c1 : Nat) (w : World) (hb : w.heap[g]? = some (.cells #[.slice A2 ([⟨1, 4, 2⟩, ⟨5, 5, 1⟩] : List S38).length c2, .map (some b)] 81 (0, 0))) (hK : Kd.C k38 w A2 ([⟨1, 4, 2⟩, ⟨5, 5, 1⟩] : List S38).length ([⟨1, 4, 2⟩, ⟨5, 5, 1⟩] : List S38)) (hc2 : ([⟨1, 4, 2⟩, ⟨5, 5, 1⟩] : List S38).length ≤ c2) (hm : Mp w b 1 (.map [(.int .i64 5, .held (.agg #[.int .i64 5, .int .u32 1, .slice A1 1 c1]))])) (hB : Kd.C (Kd.int .u8) w A1 ([97] : List Int).length [97]) (hc1 : 1 ≤ c1) :
 Calls Try.prog 30 #[.pointer (some ⟨g, 0, none⟩), .int .i64 0, .int .i64 2] w fun e w' => e = .returned (.tuple #[.agg #[.int .i64 0, .int .i64 0, .int .i64 5, .int .i64 0, .int .u32 0, .slice none 0 0], .int .i64 0]) ∧ Below w.heap.size w w' := by
 have hu := Try.underlying73
 have hus := Try.underlying81
 have hui := Try.underlying42
 have hup := Try.underlying38
 have BG := Aside0.mk hb
 have HK := Aside0.mk hK
 have HC2 := Aside0.mk hc2
 have HM := Aside0.mk hm
 have HY := Aside0.mk hB
 have HC1 := Aside0.mk hc1
 clear hb hK hc2 hm hB hc1
 go_enter Try.func30, Try.ntmps30
 go_wp2_with (first | ((with_reducible refine gate_dst (N := 6) rfl ?_); refine box_event ?hg (N := 6) ?hd (cs := #[.int .i64 0, .int .i64 0, .int .i64 0, .int .i64 0, .int .u32 0, .slice none 0 0]) (t := 73) ?hr ?_; (case hd => rfl); (case hg => rfl); (case hr => first | (go_simp; done) | (go_simp; rfl)); intro gr hg w1 hbox hb; have HB1 := Aside0.mk hb; have Ggr := Aside0.mk (show w.heap.size ≤ gr by rw [hg]; exact Nat.le_refl _); have Egr := Aside0.mk hg; have BR1 := Aside0.mk hbox; have zg_0 := (blk_cell (blk_below BG.out HB1.out) 0).trans rfl; clear hb hbox hg))
 go_step3
 go_wp2
 go_step3
 go_wp2
 go_loopg [39, 8] 3 (fun kq v39 v8 w' => ∃ i : Int, v39 = .int .i64 i ∧ Aside0 (3 ≤ kq + i.toNat) ∧ ((i = 0 ∧ v8 = .int .i64 1) ∨ (i = 1 ∧ v8 = .int .i64 5) ∨ (i = 2 ∧ v8 = .int .i64 6)) ∧ Aside0 (Below w.heap.size w w') ∧ Aside0 (w'.heap[gr]? = some (.cells #[.int .i64 0, .int .i64 0, .int .i64 0, .int .i64 0, .int .u32 0, .slice none 0 0] 73 (0, 0))))
 case atStart => exact ⟨0, rfl, ⟨by decide⟩, Or.inl ⟨rfl, rfl⟩, HB1, BR1⟩
 case round =>
  obtain ⟨i, rfl, HI_, hcase, HB0, BR0⟩ := hrel
  have HKr := Kd.C_below HK.out HB0.out
  have zg_1 := (blk_cell (blk_below BG.out HB0.out) 1).trans rfl
  rcases hcase with ⟨rfl, rfl⟩ | ⟨rfl, rfl⟩ | ⟨rfl, rfl⟩
  ·
   obtain ⟨ad, hA, q0, q1, q2⟩ := at_T38 HKr 0 (by decide) (by decide)
   subst hA
   replace q0 : wr.cell? ad = some (.int .i64 1) := q0
   have q1' : wr.cell? ⟨ad.block, ad.off + 1, none⟩ = some (.int .i64 4) := q1
   have q2' : wr.cell? ⟨ad.block, ad.off + 2, none⟩ = some (.int .i64 2) := q2
   go_wp2_with (first | ((with_reducible refine gate_dst (N := 10) rfl ?_); refine box_event ?hg (N := 10) ?hd (cs := #[.int .i64 0, .int .i64 0, .int .i64 0]) (t := 38) ?hr ?_; (case hd => rfl); (case hg => rfl); (case hr => first | (go_simp; done) | (go_simp; rfl)); intro gx hg w1 hbox hb; have HB1 := Aside0.mk (below_step HB0.out hb); have BR1 := Aside0.mk (blk_below BR0.out hb); have Ggx := Aside0.mk (show w.heap.size ≤ gx by (rw [hg]; exact below_size HB0.out)); have Ngr_gx := Aside0.mk (show gr ≠ gx from fun e_ => absurd (blk_lt BR0.out) (by rw [e_, hg]; exact Nat.lt_irrefl _)); have Egx := Aside0.mk hg; have BX1 := Aside0.mk hbox; have zBX1_0 : w1.cell? ⟨gx, 0, none⟩ = some (.int .i64 0) := (blk_cell BX1.out 0).trans rfl; have fBX1_0 := blk_frozen BX1.out 0; have zBX1_1 : w1.cell? ⟨gx, 1, none⟩ = some (.int .i64 0) := (blk_cell BX1.out 1).trans rfl; have fBX1_1 := blk_frozen BX1.out 1; have zBX1_2 : w1.cell? ⟨gx, 2, none⟩ = some (.int .i64 0) := (blk_cell BX1.out 2).trans rfl; have fBX1_2 := blk_frozen BX1.out 2; clear hb hbox hg) | ((with_reducible refine gate_store (t := 38) (p := 10) (v := .tmp 42) rfl ?_); refine store_event rfl (t := 38) (p := 10) (v := .tmp 42) rfl rfl (w1 := (((w1.setCell ⟨gx, 0, none⟩ (.int .i64 1)).setCell ⟨gx, 1, none⟩ (.int .i64 4)).setCell ⟨gx, 2, none⟩ (.int .i64 2))) ?hr ?_; (case hr => first | (go_simp; done) | (go_simp; rfl)); intro w2 hw_; have BX2 := Aside0.mk (show w2.heap[gx]? = some (.cells #[.int .i64 1, .int .i64 4, .int .i64 2] 38 (0, 0)) by (rw [hw_]; exact putNx23_0_3 BX1.out (.int .i64 1) (.int .i64 4) (.int .i64 2))); have hf_ : ∀ i, i ≠ gx → w2.heap[i]? = w1.heap[i]? := fun i hi => (by rw [hw_]; rw [far1L _ _ _ _ _ hi, far1L _ _ _ _ _ hi, far1L _ _ _ _ _ hi]); have HB2 := Aside0.mk (show Below w.heap.size w w2 by (rw [hw_]; exact below_set (below_set (below_set (HB1.out) Ggx.out) Ggx.out) Ggx.out)); have BR2 := Aside0.mk ((hf_ gr Ngr_gx.out).trans BR1.out); clear hf_; have zBX2_0 : w2.cell? ⟨gx, 0, none⟩ = some (.int .i64 1) := (blk_cell BX2.out 0).trans rfl; have fBX2_0 := blk_frozen BX2.out 0; have zBX2_1 : w2.cell? ⟨gx, 1, none⟩ = some (.int .i64 4) := (blk_cell BX2.out 1).trans rfl; have fBX2_1 := blk_frozen BX2.out 1; have zBX2_2 : w2.cell? ⟨gx, 2, none⟩ = some (.int .i64 2) := (blk_cell BX2.out 2).trans rfl; have fBX2_2 := blk_frozen BX2.out 2; clear hw_))
   cases gk with
   | zero => exact absurd HI_.out (by decide)
   | succ k2 =>
    go_roundg k2
    case measure => omega
    case rel => exact ⟨1, (by first | rfl | decide), ⟨by have h1_ := HI_.out; simp at h1_ ⊢; omega⟩, Or.inr (Or.inl ⟨rfl, rfl⟩), HB2, BR2⟩
  ·
   obtain ⟨ad, hA, q0, q1, q2⟩ := at_T38 HKr 1 (by decide) (by decide)
   subst hA
   replace q0 : wr.cell? ⟨ad.block, ad.off + 3, none⟩ = some (.int .i64 5) := q0
   have q1' : wr.cell? ⟨ad.block, ad.off + 4, none⟩ = some (.int .i64 5) := q1
   have q2' : wr.cell? ⟨ad.block, ad.off + 5, none⟩ = some (.int .i64 1) := q2
   replace q1 : wr.cell? ⟨ad.block, ad.off + 3 + 1, none⟩ = some (.int .i64 5) := q1
   replace q2 : wr.cell? ⟨ad.block, ad.off + 3 + 2, none⟩ = some (.int .i64 1) := q2
   go_wp2_with (first | ((with_reducible refine gate_dst (N := 10) rfl ?_); refine box_event ?hg (N := 10) ?hd (cs := #[.int .i64 0, .int .i64 0, .int .i64 0]) (t := 38) ?hr ?_; (case hd => rfl); (case hg => rfl); (case hr => first | (go_simp; done) | (go_simp; rfl)); intro gx hg w1 hbox hb; have HB1 := Aside0.mk (below_step HB0.out hb); have BR1 := Aside0.mk (blk_below BR0.out hb); have Ggx := Aside0.mk (show w.heap.size ≤ gx by (rw [hg]; exact below_size HB0.out)); have Ngr_gx := Aside0.mk (show gr ≠ gx from fun e_ => absurd (blk_lt BR0.out) (by rw [e_, hg]; exact Nat.lt_irrefl _)); have Egx := Aside0.mk hg; have BX1 := Aside0.mk hbox; have zBX1_0 : w1.cell? ⟨gx, 0, none⟩ = some (.int .i64 0) := (blk_cell BX1.out 0).trans rfl; have fBX1_0 := blk_frozen BX1.out 0; have zBX1_1 : w1.cell? ⟨gx, 1, none⟩ = some (.int .i64 0) := (blk_cell BX1.out 1).trans rfl; have fBX1_1 := blk_frozen BX1.out 1; have zBX1_2 : w1.cell? ⟨gx, 2, none⟩ = some (.int .i64 0) := (blk_cell BX1.out 2).trans rfl; have fBX1_2 := blk_frozen BX1.out 2; clear hb hbox hg) | ((with_reducible refine gate_store (t := 38) (p := 10) (v := .tmp 42) rfl ?_); refine store_event rfl (t := 38) (p := 10) (v := .tmp 42) rfl rfl (w1 := (((w1.setCell ⟨gx, 0, none⟩ (.int .i64 5)).setCell ⟨gx, 1, none⟩ (.int .i64 5)).setCell ⟨gx, 2, none⟩ (.int .i64 1))) ?hr ?_; (case hr => first | (go_simp; done) | (go_simp; rfl)); intro w2 hw_; have BX2 := Aside0.mk (show w2.heap[gx]? = some (.cells #[.int .i64 5, .int .i64 5, .int .i64 1] 38 (0, 0)) by (rw [hw_]; exact putNx23_0_3 BX1.out (.int .i64 5) (.int .i64 5) (.int .i64 1))); have hf_ : ∀ i, i ≠ gx → w2.heap[i]? = w1.heap[i]? := fun i hi => (by rw [hw_]; rw [far1L _ _ _ _ _ hi, far1L _ _ _ _ _ hi, far1L _ _ _ _ _ hi]); have HB2 := Aside0.mk (show Below w.heap.size w w2 by (rw [hw_]; exact below_set (below_set (below_set (HB1.out) Ggx.out) Ggx.out) Ggx.out)); have BR2 := Aside0.mk ((hf_ gr Ngr_gx.out).trans BR1.out); clear hf_; have zBX2_0 : w2.cell? ⟨gx, 0, none⟩ = some (.int .i64 5) := (blk_cell BX2.out 0).trans rfl; have fBX2_0 := blk_frozen BX2.out 0; have zBX2_1 : w2.cell? ⟨gx, 1, none⟩ = some (.int .i64 5) := (blk_cell BX2.out 1).trans rfl; have fBX2_1 := blk_frozen BX2.out 1; have zBX2_2 : w2.cell? ⟨gx, 2, none⟩ = some (.int .i64 1) := (blk_cell BX2.out 2).trans rfl; have fBX2_2 := blk_frozen BX2.out 2; clear hw_))
   cases gk with
   | zero => exact absurd HI_.out (by decide)
   | succ k2 =>
    go_loopg [8] 2 (fun kq v8 w' => ((v8 = .int .i64 5 ∧ Aside0 (2 ≤ kq)) ∨ (v8 = .int .i64 6 ∧ Aside0 (1 ≤ kq))) ∧ Aside0 (Below w.heap.size w w') ∧ Aside0 (w'.heap[gr]? = some (.cells #[.int .i64 0, .int .i64 0, .int .i64 0, .int .i64 0, .int .u32 0, .slice none 0 0] 73 (0, 0))) ∧ Aside0 (w'.heap[gx]? = some (.cells #[.int .i64 5, .int .i64 5, .int .i64 1] 38 (0, 0))))
    case atStart => exact ⟨Or.inl ⟨rfl, ⟨by decide⟩⟩, HB2, BR2, BX2⟩
    case round =>
     obtain ⟨hv, HB0, BR0, BX0⟩ := hrel
     rcases hv with ⟨rfl, HK5⟩ | ⟨rfl, HK6⟩
     ·
      have zx_1 := (blk_cell BX0.out 1).trans rfl
      have zg_2 := (blk_cell (blk_below BG.out HB0.out) 1).trans rfl
      have HMr := HM.out.below HB0.out
      obtain ⟨v, ps, hrun, hv_⟩ := World.ownsMap.lookup HMr (Go.Maps.int_keyed Try.underlying3) Try.underlying79 (z := .agg #[.int .i64 0, .int .u32 0, .slice none 0 0]) (zd := .held (.agg #[.int .i64 0, .int .u32 0, .slice none 0 0])) (zp := []) (by kernel_rfl) rfl (key := .int .i64 5) (kl := .int .i64 5) (Go.Maps.keyOf_int_mk Try.underlying3 (by decide))
      have hv2 : (DataW.held v : DataW Value) = .held (.agg #[.int .i64 5, .int .u32 1, .slice A1 1 c1]) := (Prod.mk.inj (Option.some.inj hv_)).1
      injection hv2 with hv3
      subst hv3
      clear hv_
      go_wp2_with (first | ((with_reducible refine gate_dst (N := 11) rfl ?_); refine box_event ?hg (N := 11) ?hd (cs := #[.int .i64 0, .int .u32 0, .slice none 0 0]) (t := 42) ?hr ?_; (case hd => rfl); (case hg => rfl); (case hr => first | (go_simp; done) | (go_simp; rfl)); intro gy hg w1 hbox hb; have HB1 := Aside0.mk (below_step HB0.out hb); have BR1 := Aside0.mk (blk_below BR0.out hb); have BX1 := Aside0.mk (blk_below BX0.out hb); have Ggy := Aside0.mk (show w.heap.size ≤ gy by (rw [hg]; exact below_size HB0.out)); have Ngr_gy := Aside0.mk (show gr ≠ gy from fun e_ => absurd (blk_lt BR0.out) (by rw [e_, hg]; exact Nat.lt_irrefl _)); have Ngx_gy := Aside0.mk (show gx ≠ gy from fun e_ => absurd (blk_lt BX0.out) (by rw [e_, hg]; exact Nat.lt_irrefl _)); have Egy := Aside0.mk hg; have BY1 := Aside0.mk hbox; have zBY1_0 : w1.cell? ⟨gy, 0, none⟩ = some (.int .i64 0) := (blk_cell BY1.out 0).trans rfl; have fBY1_0 := blk_frozen BY1.out 0; have zBY1_1 : w1.cell? ⟨gy, 1, none⟩ = some (.int .u32 0) := (blk_cell BY1.out 1).trans rfl; have fBY1_1 := blk_frozen BY1.out 1; have zBY1_2 : w1.cell? ⟨gy, 2, none⟩ = some (.slice none 0 0) := (blk_cell BY1.out 2).trans rfl; have fBY1_2 := blk_frozen BY1.out 2; clear hb hbox hg) | ((with_reducible refine gate_store (t := 42) (p := 11) (v := .tmp 79) rfl ?_); refine store_event rfl (t := 42) (p := 11) (v := .tmp 79) rfl rfl (w1 := (((w1.setCell ⟨gy, 0, none⟩ (.int .i64 5)).setCell ⟨gy, 1, none⟩ (.int .u32 1)).setCell ⟨gy, 2, none⟩ (.slice A1 1 c1))) ?hr ?_; (case hr => first | (go_simp; done) | (go_simp; rfl)); intro w2 hw_; have BY2 := Aside0.mk (show w2.heap[gy]? = some (.cells #[.int .i64 5, .int .u32 1, .slice A1 1 c1] 42 (0, 0)) by (rw [hw_]; exact putNx23_0_3 BY1.out (.int .i64 5) (.int .u32 1) (.slice A1 1 c1))); have hf_ : ∀ i, i ≠ gy → w2.heap[i]? = w1.heap[i]? := fun i hi => (by rw [hw_]; rw [far1L _ _ _ _ _ hi, far1L _ _ _ _ _ hi, far1L _ _ _ _ _ hi]); have HB2 := Aside0.mk (show Below w.heap.size w w2 by (rw [hw_]; exact below_set (below_set (below_set (HB1.out) Ggy.out) Ggy.out) Ggy.out)); have BR2 := Aside0.mk ((hf_ gr Ngr_gy.out).trans BR1.out); have BX2 := Aside0.mk ((hf_ gx Ngx_gy.out).trans BX1.out); clear hf_; have zBY2_0 : w2.cell? ⟨gy, 0, none⟩ = some (.int .i64 5) := (blk_cell BY2.out 0).trans rfl; have fBY2_0 := blk_frozen BY2.out 0; have zBY2_1 : w2.cell? ⟨gy, 1, none⟩ = some (.int .u32 1) := (blk_cell BY2.out 1).trans rfl; have fBY2_1 := blk_frozen BY2.out 1; have zBY2_2 : w2.cell? ⟨gy, 2, none⟩ = some (.slice A1 1 c1) := (blk_cell BY2.out 2).trans rfl; have fBY2_2 := blk_frozen BY2.out 2; clear hw_))
      cases gk with
      | zero => exact absurd HK5.out (by decide)
      | succ k3 =>
       go_roundg k3
       case measure => omega
       case rel => exact ⟨Or.inr ⟨rfl, ⟨by have := HK5.out; omega⟩⟩, HB2, BR2, BX2⟩
     have zx_1 := (blk_cell BX0.out 1).trans rfl
     go_wp2
     go_roundg k2
     case measure => omega
     case rel => exact ⟨2, (by first | rfl | decide), ⟨by have h1_ := HI_.out; simp at h1_ ⊢; omega⟩, Or.inr (Or.inr ⟨rfl, rfl⟩), HB0, BR0⟩
  have zBR0_0 : wr.cell? ⟨gr, 0, none⟩ = some (.int .i64 0) := (blk_cell BR0.out 0).trans rfl
  have fBR0_0 := blk_frozen BR0.out 0
  have zBR0_1 : wr.cell? ⟨gr, 1, none⟩ = some (.int .i64 0) := (blk_cell BR0.out 1).trans rfl
  have fBR0_1 := blk_frozen BR0.out 1
  have zBR0_2 : wr.cell? ⟨gr, 2, none⟩ = some (.int .i64 0) := (blk_cell BR0.out 2).trans rfl
  have fBR0_2 := blk_frozen BR0.out 2
  have zBR0_3 : wr.cell? ⟨gr, 3, none⟩ = some (.int .i64 0) := (blk_cell BR0.out 3).trans rfl
  have fBR0_3 := blk_frozen BR0.out 3
  have zBR0_4 : wr.cell? ⟨gr, 4, none⟩ = some (.int .u32 0) := (blk_cell BR0.out 4).trans rfl
  have fBR0_4 := blk_frozen BR0.out 4
  have zBR0_5 : wr.cell? ⟨gr, 5, none⟩ = some (.slice none 0 0) := (blk_cell BR0.out 5).trans rfl
  have fBR0_5 := blk_frozen BR0.out 5
  go_wp2_with (first | ((with_reducible refine gate_store (t := 73) (p := 6) (v := .tmp 95) rfl ?_); refine store_event rfl (t := 73) (p := 6) (v := .tmp 95) rfl rfl (w1 := ((((((wr.setCell ⟨gr, 0, none⟩ (.int .i64 0)).setCell ⟨gr, 1, none⟩ (.int .i64 0)).setCell ⟨gr, 2, none⟩ (.int .i64 5)).setCell ⟨gr, 3, none⟩ (.int .i64 0)).setCell ⟨gr, 4, none⟩ (.int .u32 0)).setCell ⟨gr, 5, none⟩ (.slice none 0 0))) ?hr ?_; (case hr => first | (go_simp; done) | (go_simp; rfl)); intro w1 hw_; have BR1 := Aside0.mk (show w1.heap[gr]? = some (.cells #[.int .i64 0, .int .i64 0, .int .i64 5, .int .i64 0, .int .u32 0, .slice none 0 0] 73 (0, 0)) by (rw [hw_]; exact putNx26_0_6 BR0.out (.int .i64 0) (.int .i64 0) (.int .i64 5) (.int .i64 0) (.int .u32 0) (.slice none 0 0))); have hf_ : ∀ i, i ≠ gr → w1.heap[i]? = wr.heap[i]? := fun i hi => (by rw [hw_]; rw [far1L _ _ _ _ _ hi, far1L _ _ _ _ _ hi, far1L _ _ _ _ _ hi, far1L _ _ _ _ _ hi, far1L _ _ _ _ _ hi, far1L _ _ _ _ _ hi]); have HB1 := Aside0.mk (show Below w.heap.size w w1 by (rw [hw_]; exact below_set (below_set (below_set (below_set (below_set (below_set (HB0.out) Ggr.out) Ggr.out) Ggr.out) Ggr.out) Ggr.out) Ggr.out)); clear hf_; clear hw_))
  (try rw [Exit.noGoto_ret])
  refine bodyPost_ret (results_ct rfl _ _ gr 73 #[.int .i64 0, .int .i64 0, .int .i64 5, .int .i64 0, .int .u32 0, .slice none 0 0] (0, 0) _ rfl BR1.out Try.underlying73 rfl (by kernel_rfl)) rfl ?_
  exact ⟨rfl, HB1.out⟩


end Go.Proofs.Ytffefaiaifhokaa.PT
