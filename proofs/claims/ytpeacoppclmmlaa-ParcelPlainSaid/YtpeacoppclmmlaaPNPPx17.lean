-- PRINTED by gprint.py (a session's own driver over the kit's print): not trusted; Lean checks it.
import Derived.Test.YtpeacoppclmmlaaPNPPx0
import Derived.Test.YtpeacoppclmmlaaPNPPx6
import Derived.Test.YtpeacoppclmmlaaPNPPx15
import Derived.Test.YtpeacoppclmmlaaPNPPx16
namespace Go.Proofs.Ytpeacoppclmmlaa.PP
open Go.RowKit Go.Proofs.YtpeacoppclmmlaaW.PrintWords Go.Proofs.YtpeacoppclmmlaaW.PrintLast Go.Proofs.YtpeacoppclmmlaaW.PrintMore
set_option linter.unusedVariables false
set_option linter.unusedSimpArgs false

/-! ### parcel_Plain: function 52 -/
-- GIVEN-ALONE: typed by mk_plain.py
theorem far1L (w : World) (g j : Nat) (u : Value) (i : Nat) (h : i ≠ g) : (w.setCell ⟨g, j, none⟩ u).heap[i]? = w.heap[i]? := Below.heap_setCell w ⟨g, j, none⟩ u i h
/-- Which of a parcel's numbers stands in field j. -/
def parcel_Plain.sel (a1 a2 a3 a4 a5 : Int) (j : Nat) : Int := if j = 1 then a1 else if j = 2 then a2 else if j = 3 then a3 else if j = 4 then a4 else a5
def parcel_Plain.fl (a1 a2 a3 a4 a5 : Int) : List Nat → Int → Int → Int → Int → Int → Int × Int × Int × Int × Int
 | [], p1, p2, p3, p4, p5 => (p1, p2, p3, p4, p5)
 | j :: js, p1, p2, p3, p4, p5 => parcel_Plain.fl a1 a2 a3 a4 a5 js (if j = 1 then (parcel_Plain.sel a1 a2 a3 a4 a5 j) else p1) (if j = 2 then (parcel_Plain.sel a1 a2 a3 a4 a5 j) else p2) (if j = 3 then (parcel_Plain.sel a1 a2 a3 a4 a5 j) else p3) (if j = 4 then (parcel_Plain.sel a1 a2 a3 a4 a5 j) else p4) (if j = 5 then (parcel_Plain.sel a1 a2 a3 a4 a5 j) else p5)
def parcel_Plain.its : List S62 → List S62 → Option (List S62)
 | [], acc => some acc
 | x :: xs, acc => (slices_Clone_byte_byte.f x.f2).bind fun b => if acc.length < 3518437208883 then parcel_Plain.its xs (acc ++ [⟨x.f0, x.f1, b⟩]) else none
def parcel_Plain.rows (a0 : Int) (l6 : List S43) (l7 : List S62) : Option (List S43 × List S62) :=
 if a0 = 1 then (api_Span_77.f l6).bind fun s => (parcel_Plain.its l7 []).bind fun t => some (s, t) else some ([], [])
def parcel_Plain.f (a0 a1 a2 a3 a4 a5 : Int) (l6 : List S43) (l7 : List S62) : Option (Int × Int × Int × Int × Int × Int × List S43 × List S62) :=
 (parcel_Plain.rows a0 l6 l7).bind fun q => some (a0, (parcel_Plain.fl a1 a2 a3 a4 a5 (flds a0) 0 0 0 0 0).1, (parcel_Plain.fl a1 a2 a3 a4 a5 (flds a0) 0 0 0 0 0).2.1, (parcel_Plain.fl a1 a2 a3 a4 a5 (flds a0) 0 0 0 0 0).2.2.1, (parcel_Plain.fl a1 a2 a3 a4 a5 (flds a0) 0 0 0 0 0).2.2.2.1, (parcel_Plain.fl a1 a2 a3 a4 a5 (flds a0) 0 0 0 0 0).2.2.2.2, q.1, q.2)
theorem parcel_Plain.selc {w : World} {j g t : Nat} {c0 c6 c7 : Value} {a1 a2 a3 a4 a5 : Int} (hj : j = 1 ∨ j = 2 ∨ j = 3 ∨ j = 4 ∨ j = 5) (hb : w.heap[g]? = some (.cells #[c0, .int .i64 a1, .int .i64 a2, .int .i64 a3, .int .i64 a4, .int .i64 a5, c6, c7] t (0, 0))) :
 w.cell? ⟨g, j, none⟩ = some (.int .i64 (parcel_Plain.sel a1 a2 a3 a4 a5 j)) := by
 rcases hj with rfl | rfl | rfl | rfl | rfl
 ·
  exact (blk_cell hb 1).trans rfl
 ·
  exact (blk_cell hb 2).trans rfl
 ·
  exact (blk_cell hb 3).trans rfl
 ·
  exact (blk_cell hb 4).trans rfl
 exact (blk_cell hb 5).trans rfl
theorem parcel_Plain.ex5 {w : World} {j g t : Nat} {c0 c1 c2 c3 c4 c5 c6 c7 : Value} (hj : j = 1 ∨ j = 2 ∨ j = 3 ∨ j = 4 ∨ j = 5) (hb : w.heap[g]? = some (.cells #[c0, c1, c2, c3, c4, c5, c6, c7] t (0, 0))) : ∃ z, w.cell? ⟨g, j, none⟩ = some z := by
 rcases hj with rfl | rfl | rfl | rfl | rfl
 ·
  exact ⟨c1, (blk_cell hb 1).trans rfl⟩
 ·
  exact ⟨c2, (blk_cell hb 2).trans rfl⟩
 ·
  exact ⟨c3, (blk_cell hb 3).trans rfl⟩
 ·
  exact ⟨c4, (blk_cell hb 4).trans rfl⟩
 exact ⟨c5, (blk_cell hb 5).trans rfl⟩
theorem parcel_Plain.put5 {w : World} {j g t : Nat} {c0 c6 c7 : Value} {p1 p2 p3 p4 p5 v : Int} (hj : j = 1 ∨ j = 2 ∨ j = 3 ∨ j = 4 ∨ j = 5) (hb : w.heap[g]? = some (.cells #[c0, .int .i64 p1, .int .i64 p2, .int .i64 p3, .int .i64 p4, .int .i64 p5, c6, c7] t (0, 0))) :
 (w.setCell ⟨g, j, none⟩ (.int .i64 v)).heap[g]? = some (.cells #[c0, .int .i64 (if j = 1 then v else p1), .int .i64 (if j = 2 then v else p2), .int .i64 (if j = 3 then v else p3), .int .i64 (if j = 4 then v else p4), .int .i64 (if j = 5 then v else p5), c6, c7] t (0, 0)) := by
 rcases hj with rfl | rfl | rfl | rfl | rfl
 ·
  exact blk_put hb 1 _ rfl
 ·
  exact blk_put hb 2 _ rfl
 ·
  exact blk_put hb 3 _ rfl
 ·
  exact blk_put hb 4 _ rfl
 exact blk_put hb 5 _ rfl
def parcel_Plain.T6 : Bool × List (List Nat × List Nat) := (true, [([], []), ([], []), ([0, 1], [0, 1]), ([2], [2]), ([], []), ([], []), ([4, 5], [4, 5]), ([6], [6]), ([7], [7]), ([8], [8]), ([3, 0, 1, 2, 3, 4, 5, 6, 7, 8, 9], [3]), ([10, 9, 0, 1, 2, 3, 4, 5, 6, 7, 8, 9], [9, 10])])
def parcel_Plain.B6 : List Nat := [0, 0, 3, 7, 0, 0, 48, 112, 240, 496, 1023, 2047]
theorem parcel_Plain.tab6 : rtab .any (opsOf Try.f52 6) = parcel_Plain.T6 := by kernel_rfl
theorem parcel_Plain.bits6 : waitsOk parcel_Plain.T6.2 parcel_Plain.B6 = true := by kernel_rfl
theorem put3_0_3 {W : World} {g t : Nat} {c0 c1 c2 : Value} (h : W.heap[g]? = some (.cells #[c0, c1, c2] t (0, 0))) (d0 d1 d2 : Value) : (((W.setCell ⟨g, 0, none⟩ d0).setCell ⟨g, 1, none⟩ d1).setCell ⟨g, 2, none⟩ d2).heap[g]? = some (.cells #[d0, d1, d2] t (0, 0)) := by
 have h0 : (W.setCell ⟨g, 0, none⟩ d0).heap[g]? = some (.cells #[d0, c1, c2] t (0, 0)) := blk_put h 0 _ rfl
 have h1 : ((W.setCell ⟨g, 0, none⟩ d0).setCell ⟨g, 1, none⟩ d1).heap[g]? = some (.cells #[d0, d1, c2] t (0, 0)) := blk_put h0 1 _ rfl
 exact blk_put h1 2 _ rfl
theorem put8_0_8 {W : World} {g t : Nat} {c0 c1 c2 c3 c4 c5 c6 c7 : Value} (h : W.heap[g]? = some (.cells #[c0, c1, c2, c3, c4, c5, c6, c7] t (0, 0))) (d0 d1 d2 d3 d4 d5 d6 d7 : Value) : ((((((((W.setCell ⟨g, 0, none⟩ d0).setCell ⟨g, 1, none⟩ d1).setCell ⟨g, 2, none⟩ d2).setCell ⟨g, 3, none⟩ d3).setCell ⟨g, 4, none⟩ d4).setCell ⟨g, 5, none⟩ d5).setCell ⟨g, 6, none⟩ d6).setCell ⟨g, 7, none⟩ d7).heap[g]? = some (.cells #[d0, d1, d2, d3, d4, d5, d6, d7] t (0, 0)) := by
 have h0 : (W.setCell ⟨g, 0, none⟩ d0).heap[g]? = some (.cells #[d0, c1, c2, c3, c4, c5, c6, c7] t (0, 0)) := blk_put h 0 _ rfl
 have h1 : ((W.setCell ⟨g, 0, none⟩ d0).setCell ⟨g, 1, none⟩ d1).heap[g]? = some (.cells #[d0, d1, c2, c3, c4, c5, c6, c7] t (0, 0)) := blk_put h0 1 _ rfl
 have h2 : (((W.setCell ⟨g, 0, none⟩ d0).setCell ⟨g, 1, none⟩ d1).setCell ⟨g, 2, none⟩ d2).heap[g]? = some (.cells #[d0, d1, d2, c3, c4, c5, c6, c7] t (0, 0)) := blk_put h1 2 _ rfl
 have h3 : ((((W.setCell ⟨g, 0, none⟩ d0).setCell ⟨g, 1, none⟩ d1).setCell ⟨g, 2, none⟩ d2).setCell ⟨g, 3, none⟩ d3).heap[g]? = some (.cells #[d0, d1, d2, d3, c4, c5, c6, c7] t (0, 0)) := blk_put h2 3 _ rfl
 have h4 : (((((W.setCell ⟨g, 0, none⟩ d0).setCell ⟨g, 1, none⟩ d1).setCell ⟨g, 2, none⟩ d2).setCell ⟨g, 3, none⟩ d3).setCell ⟨g, 4, none⟩ d4).heap[g]? = some (.cells #[d0, d1, d2, d3, d4, c5, c6, c7] t (0, 0)) := blk_put h3 4 _ rfl
 have h5 : ((((((W.setCell ⟨g, 0, none⟩ d0).setCell ⟨g, 1, none⟩ d1).setCell ⟨g, 2, none⟩ d2).setCell ⟨g, 3, none⟩ d3).setCell ⟨g, 4, none⟩ d4).setCell ⟨g, 5, none⟩ d5).heap[g]? = some (.cells #[d0, d1, d2, d3, d4, d5, c6, c7] t (0, 0)) := blk_put h4 5 _ rfl
 have h6 : (((((((W.setCell ⟨g, 0, none⟩ d0).setCell ⟨g, 1, none⟩ d1).setCell ⟨g, 2, none⟩ d2).setCell ⟨g, 3, none⟩ d3).setCell ⟨g, 4, none⟩ d4).setCell ⟨g, 5, none⟩ d5).setCell ⟨g, 6, none⟩ d6).heap[g]? = some (.cells #[d0, d1, d2, d3, d4, d5, d6, c7] t (0, 0)) := blk_put h5 6 _ rfl
 exact blk_put h6 7 _ rfl
set_option maxHeartbeats 100000000 in
set_option maxRecDepth 100000 in
theorem parcel_Plain.calls (a0 a1 a2 a3 a4 a5 : Int) (A6 : Option Addr) (c6 : Nat) (l6 : List S43) (A7 : Option Addr) (c7 : Nat) (l7 : List S62) (r1 : Int) (r2 : Int) (r3 : Int) (r4 : Int) (r5 : Int) (r6 : Int) (r7 : List S43) (r8 : List S62) (w : World) (hr6 : Kd.C k43 w A6 l6.length l6) (hc6 : l6.length ≤ c6) (hr7 : Kd.C k62 w A7 l7.length l7) (hc7 : l7.length ≤ c7) (h : parcel_Plain.f a0 a1 a2 a3 a4 a5 l6 l7 = some (r1, r2, r3, r4, r5, r6, r7, r8)) :
 Calls Try.prog 52 #[.agg #[.int .i64 a0, .int .i64 a1, .int .i64 a2, .int .i64 a3, .int .i64 a4, .int .i64 a5, .slice A6 l6.length c6, .slice A7 l7.length c7]] w fun e w' => ∃ v6_ v7_ : Value, e = .returned (.agg #[.int .i64 r1, .int .i64 r2, .int .i64 r3, .int .i64 r4, .int .i64 r5, .int .i64 r6, v6_, v7_]) ∧ Kd.R k43 43 w' w.heap.size (fun _ => True) v6_ r7 ∧ Kd.S k62 62 w' w.heap.size (fun _ => True) v7_ r8 ∧ Below w.heap.size w w' := by
 have hu := Try.underlying51
 have hui := Try.underlying62
 have HR6 := Aside0.mk hr6
 have HC6 := Aside0.mk hc6
 have HR7 := Aside0.mk hr7
 have HC7 := Aside0.mk hc7
 unfold parcel_Plain.f at h
 obtain ⟨⟨sp_, it_⟩, hrows, h⟩ := Option.bind_eq_some_iff.mp h
 obtain ⟨⟨q1, q2, q3, q4, q5⟩, hfl⟩ : ∃ q, parcel_Plain.fl a1 a2 a3 a4 a5 (flds a0) 0 0 0 0 0 = q := ⟨_, rfl⟩
 rw [hfl] at h
 simp only [Option.some.injEq, Prod.mk.injEq] at h
 obtain ⟨rfl, rfl, rfl, rfl, rfl, rfl, rfl, rfl⟩ := h
 have HROWS := Aside0.mk hrows
 have HFL := Aside0.mk hfl
 clear hr6 hc6 hr7 hc7 hrows hfl
 go_enter Try.func52, Try.ntmps52
 go_wp2_with (first | ((with_reducible refine gate_dst (N := 1) rfl ?_); refine box_event ?hg (N := 1) ?hd (cs := #[.int .i64 a0, .int .i64 a1, .int .i64 a2, .int .i64 a3, .int .i64 a4, .int .i64 a5, .slice A6 l6.length c6, .slice A7 l7.length c7]) (t := 51) ?hr ?_; (case hd => rfl); (case hg => rfl); (case hr => first | (go_simp; done) | (go_simp; rfl)); intro gp hg w1 hbox hb; have HB1 := Aside0.mk hb; have Ggp := Aside0.mk (show w.heap.size ≤ gp by rw [hg]; exact Nat.le_refl _); have Egp := Aside0.mk hg; have BP1 := Aside0.mk hbox; have zBP1_0 : w1.cell? ⟨gp, 0, none⟩ = some (.int .i64 a0) := (blk_cell BP1.out 0).trans rfl; have fBP1_0 := blk_frozen BP1.out 0; clear hb hbox hg) | ((with_reducible refine gate_dst (N := 2) rfl ?_); refine box_event ?hg (N := 2) ?hd (cs := #[.int .i64 0, .int .i64 0, .int .i64 0, .int .i64 0, .int .i64 0, .int .i64 0, .slice none 0 0, .slice none 0 0]) (t := 51) ?hr ?_; (case hd => rfl); (case hg => rfl); (case hr => first | (go_simp; done) | (go_simp; rfl)); intro gr hg w2 hbox hb; have HB2 := Aside0.mk (below_step HB1.out hb); have BP2 := Aside0.mk (blk_below BP1.out hb); have Ggr := Aside0.mk (show w.heap.size ≤ gr by (rw [hg]; exact below_size HB1.out)); have Ngp_gr := Aside0.mk (show gp ≠ gr from fun e_ => absurd (blk_lt BP1.out) (by rw [e_, hg]; exact Nat.lt_irrefl _)); have Egr := Aside0.mk hg; have BR2 := Aside0.mk hbox; have zq_ := (blk_cell BP2.out 0).trans rfl; clear hb hbox hg) | ((with_reducible refine gate_dst (N := 3) rfl ?_); refine box_event ?hg (N := 3) ?hd (cs := #[.int .i64 0, .int .i64 0, .int .i64 0, .int .i64 0, .int .i64 0, .int .i64 0, .slice none 0 0, .slice none 0 0]) (t := 51) ?hr ?_; (case hd => rfl); (case hg => rfl); (case hr => first | (go_simp; done) | (go_simp; rfl)); intro go hg w3 hbox hb; have HB3 := Aside0.mk (below_step HB2.out hb); have BP3 := Aside0.mk (blk_below BP2.out hb); have BR3 := Aside0.mk (blk_below BR2.out hb); have Ggo := Aside0.mk (show w.heap.size ≤ go by (rw [hg]; exact below_size HB2.out)); have Ngp_go := Aside0.mk (show gp ≠ go from fun e_ => absurd (blk_lt BP2.out) (by rw [e_, hg]; exact Nat.lt_irrefl _)); have Ngr_go := Aside0.mk (show gr ≠ go from fun e_ => absurd (blk_lt BR2.out) (by rw [e_, hg]; exact Nat.lt_irrefl _)); have Ego := Aside0.mk hg; have BO3 := Aside0.mk hbox; have zBO3_0 : w3.cell? ⟨go, 0, none⟩ = some (.int .i64 0) := (blk_cell BO3.out 0).trans rfl; have fBO3_0 := blk_frozen BO3.out 0; have zBO3_1 : w3.cell? ⟨go, 1, none⟩ = some (.int .i64 0) := (blk_cell BO3.out 1).trans rfl; have fBO3_1 := blk_frozen BO3.out 1; have zBO3_2 : w3.cell? ⟨go, 2, none⟩ = some (.int .i64 0) := (blk_cell BO3.out 2).trans rfl; have fBO3_2 := blk_frozen BO3.out 2; have zBO3_3 : w3.cell? ⟨go, 3, none⟩ = some (.int .i64 0) := (blk_cell BO3.out 3).trans rfl; have fBO3_3 := blk_frozen BO3.out 3; have zBO3_4 : w3.cell? ⟨go, 4, none⟩ = some (.int .i64 0) := (blk_cell BO3.out 4).trans rfl; have fBO3_4 := blk_frozen BO3.out 4; have zBO3_5 : w3.cell? ⟨go, 5, none⟩ = some (.int .i64 0) := (blk_cell BO3.out 5).trans rfl; have fBO3_5 := blk_frozen BO3.out 5; have zBO3_6 : w3.cell? ⟨go, 6, none⟩ = some (.slice none 0 0) := (blk_cell BO3.out 6).trans rfl; have fBO3_6 := blk_frozen BO3.out 6; have zBO3_7 : w3.cell? ⟨go, 7, none⟩ = some (.slice none 0 0) := (blk_cell BO3.out 7).trans rfl; have fBO3_7 := blk_frozen BO3.out 7; clear hb hbox hg) | ((with_reducible refine gate_store (t := 51) (p := 3) (v := .tmp 11) rfl ?_); refine store_event rfl (t := 51) (p := 3) (v := .tmp 11) rfl rfl (w1 := ((((((((w3.setCell ⟨go, 0, none⟩ (.int .i64 a0)).setCell ⟨go, 1, none⟩ (.int .i64 0)).setCell ⟨go, 2, none⟩ (.int .i64 0)).setCell ⟨go, 3, none⟩ (.int .i64 0)).setCell ⟨go, 4, none⟩ (.int .i64 0)).setCell ⟨go, 5, none⟩ (.int .i64 0)).setCell ⟨go, 6, none⟩ (.slice none 0 0)).setCell ⟨go, 7, none⟩ (.slice none 0 0))) ?hr ?_; (case hr => first | (go_simp; done) | (go_simp; rfl)); intro w4 hw_; have BO4 := Aside0.mk (show w4.heap[go]? = some (.cells #[.int .i64 a0, .int .i64 0, .int .i64 0, .int .i64 0, .int .i64 0, .int .i64 0, .slice none 0 0, .slice none 0 0] 51 (0, 0)) by (rw [hw_]; exact put8_0_8 BO3.out (.int .i64 a0) (.int .i64 0) (.int .i64 0) (.int .i64 0) (.int .i64 0) (.int .i64 0) (.slice none 0 0) (.slice none 0 0))); have hf_ : ∀ i, i ≠ go → w4.heap[i]? = w3.heap[i]? := fun i hi => (by rw [hw_]; rw [far1L _ _ _ _ _ hi, far1L _ _ _ _ _ hi, far1L _ _ _ _ _ hi, far1L _ _ _ _ _ hi, far1L _ _ _ _ _ hi, far1L _ _ _ _ _ hi, far1L _ _ _ _ _ hi, far1L _ _ _ _ _ hi]); have HB4 := Aside0.mk (show Below w.heap.size w w4 by (rw [hw_]; exact below_set (below_set (below_set (below_set (below_set (below_set (below_set (below_set (HB3.out) Ggo.out) Ggo.out) Ggo.out) Ggo.out) Ggo.out) Ggo.out) Ggo.out) Ggo.out)); have BP4 := Aside0.mk ((hf_ gp Ngp_go.out).trans BP3.out); have BR4 := Aside0.mk ((hf_ gr Ngr_go.out).trans BR3.out); clear hf_; have zBO4_0 : w4.cell? ⟨go, 0, none⟩ = some (.int .i64 a0) := (blk_cell BO4.out 0).trans rfl; have fBO4_0 := blk_frozen BO4.out 0; clear hw_) | ((with_reducible refine gate_dst (N := 12) rfl ?_); (try (refine gate_guard (by rfl) ?_; dsimp only)); refine goesL_ (some 12) rfl rfl Try.func72 (by kernel_rfl) rfl #[.pointer (some ⟨gp, 0, none⟩)] rfl (by (try simp only [List.map_toArray, List.map_cons, List.map_nil]); first | done | rfl | (simp only [List.length_drop, List.length_take]; rfl)) ?_; refine (uses_calls gp a0 _ ((blk_cell BP4.out 0).trans rfl)).mono ?_; rintro e_ w5 ⟨v_, rfl, ho, hb⟩; refine ⟨_, rfl, ?_⟩; have HB5 := Aside0.mk (below_step HB4.out hb); have BP5 := Aside0.mk (blk_below BP4.out hb); have BR5 := Aside0.mk (blk_below BR4.out hb); have BO5 := Aside0.mk (blk_below BO4.out hb); have HU5 := Aside0.mk (Kd.R_lower ho (below_size HB4.out)); obtain ⟨AHU, cHU, e_⟩ := Kd.R_slice HU5.out; subst e_; clear ho hb) | ((with_reducible refine gate_dst (N := 13) rfl ?_); (try (refine gate_guard (by rfl) ?_; dsimp only)); refine goesL_ (some 13) rfl rfl Try.func72 (by kernel_rfl) rfl #[.pointer (some ⟨go, 0, none⟩)] rfl (by (try simp only [List.map_toArray, List.map_cons, List.map_nil]); first | done | rfl | (simp only [List.length_drop, List.length_take]; rfl)) ?_; refine (uses_calls go a0 _ ((blk_cell BO5.out 0).trans rfl)).mono ?_; rintro e_ w6 ⟨v_, rfl, ho, hb⟩; refine ⟨_, rfl, ?_⟩; have HB6 := Aside0.mk (below_step HB5.out hb); have BP6 := Aside0.mk (blk_below BP5.out hb); have BR6 := Aside0.mk (blk_below BR5.out hb); have BO6 := Aside0.mk (blk_below BO5.out hb); have HU6 := Aside0.mk (Kd.R_below HU5.out hb); have HW6 := Aside0.mk (Kd.R_lower ho (below_size HB5.out)); obtain ⟨AHW, cHW, e_⟩ := Kd.R_slice HW6.out; subst e_; clear ho hb))
 go_loopg [16] 5 (fun kq v16 w' => ∃ (i p1 p2 p3 p4 p5 : Int), v16 = .int .i64 i ∧ Aside0 (0 ≤ i ∧ i ≤ ((flds a0).length : Int) ∧ (flds a0).length + 1 ≤ kq + i.toNat) ∧ Aside0 (parcel_Plain.fl a1 a2 a3 a4 a5 ((flds a0).drop i.toNat) p1 p2 p3 p4 p5 = (q1, q2, q3, q4, q5)) ∧ Aside0 (Below w.heap.size w w') ∧ Aside0 (w'.heap[gp]? = some (.cells #[.int .i64 a0, .int .i64 a1, .int .i64 a2, .int .i64 a3, .int .i64 a4, .int .i64 a5, .slice A6 l6.length c6, .slice A7 l7.length c7] 51 (0, 0))) ∧ Aside0 (w'.heap[gr]? = some (.cells #[.int .i64 0, .int .i64 0, .int .i64 0, .int .i64 0, .int .i64 0, .int .i64 0, .slice none 0 0, .slice none 0 0] 51 (0, 0))) ∧ Aside0 (w'.heap[go]? = some (.cells #[.int .i64 a0, .int .i64 p1, .int .i64 p2, .int .i64 p3, .int .i64 p4, .int .i64 p5, .slice none 0 0, .slice none 0 0] 51 (0, 0))) ∧ Aside0 (Kd.R (kptr gp) 86 w' w.heap.size (fun _ => True) (.slice AHU (flds a0).length cHU) (flds a0)) ∧ Aside0 (Kd.R (kptr go) 86 w' w.heap.size (fun _ => True) (.slice AHW (flds a0).length cHW) (flds a0)))
 case atStart => exact ⟨0, 0, 0, 0, 0, 0, rfl, ⟨by have := flds_len a0; omega⟩, HFL, HB6, BP6, BR6, BO6, HU6, HW6⟩
 case round =>
  obtain ⟨i, p1, p2, p3, p4, p5, rfl, HI, HNR, HB0, BP0, BR0, BO0, HU0, HW0⟩ := hrel
  clear HB1 HB2 HB3 HB4 HB5 HB6 BP1 BP2 BP3 BP4 BP5 BP6 BR2 BR3 BR4 BR5 BR6 BO3 BO4 BO5 BO6 HU5 HU6 HW6 HFL
  by_cases hi : i < ((flds a0).length : Int)
  case pos =>
   obtain ⟨j, hj⟩ : ∃ j : Nat, rdOf 0 (flds a0) i = j := ⟨_, rfl⟩
   have h0 := HI.out.1
   have hlt : i.toNat < (flds a0).length := by omega
   have hje : (flds a0)[i.toNat] = j := by rw [← hj]; unfold rdOf; rw [List.getD_eq_getElem?_getD, List.getElem?_eq_getElem hlt]; rfl
   have hd : (flds a0).drop i.toNat = j :: (flds a0).drop (i.toNat + 1) := by rw [List.drop_eq_getElem_cons hlt, hje]
   have HJ := Aside0.mk (flds_mem (show j ∈ (flds a0) from hje ▸ List.getElem_mem hlt))
   have hnr := HNR.out
   rw [hd] at hnr
   have HN2 := Aside0.mk hnr
   obtain ⟨gu, cu, eu, _, _, _⟩ := Kd.R_form HU0.out (by omega)
   obtain ⟨gv, cv, ev, _, _, _⟩ := Kd.R_form HW0.out (by omega)
   injection eu with eu1 _ eu3
   injection ev with ev1 _ ev3
   subst eu1
   subst eu3
   subst ev1
   subst ev3
   have hp := (Kd.R_celln (0 : Nat) HU0.out i h0 hi).1
   rw [hj] at hp
   have hz1 : wr.cell? ⟨gu, i.toNat, none⟩ = some (.pointer (some ⟨gp, j, none⟩)) := hp
   have hq := (Kd.R_celln (0 : Nat) HW0.out i h0 hi).1
   rw [hj] at hq
   have hz2 : wr.cell? ⟨gv, i.toNat, none⟩ = some (.pointer (some ⟨go, j, none⟩)) := hq
   have hz3 := parcel_Plain.selc HJ.out BP0.out
   have p0_ := eq_true h0
   have p1_ := eq_true hi
   have p2_ := eq_true hlt
   have hw_ : wrap64 (i + 1) = i + 1 := by have := flds_len a0; unfold wrap64; omega
   clear hnr hp hq hd hje hj HNR
   go_wp2
   refine start_ (n := 12) (S := fun w' => w'.cell? ⟨gu, i.toNat, none⟩ = some (.pointer (some ⟨gp, j, none⟩)) ∧ w'.cell? ⟨gv, i.toNat, none⟩ = some (.pointer (some ⟨go, j, none⟩)) ∧ w'.cell? ⟨gp, j, none⟩ = some (.int .i64 (parcel_Plain.sel a1 a2 a3 a4 a5 j))) (ds := [11]) #[false, false, false, false, false, false, false, false, false, false, false, false] (by kernel_rfl) rfl rfl ⟨hz1, hz2, hz3⟩ (fun hHeld => ?_)
   refine with_tabW parcel_Plain.tab6 parcel_Plain.bits6 (fun HT_ HW_ => ?_)
   have hb_ : Below wr.heap.size wr wr.drew := below_drew (Below.refl _ _)
   have HB1 := Aside0.mk (below_step HB0.out hb_)
   have BP1 := Aside0.mk (blk_below BP0.out hb_)
   have BR1 := Aside0.mk (blk_below BR0.out hb_)
   have BO1 := Aside0.mk (blk_below BO0.out hb_)
   have HU1 := Aside0.mk (Kd.R_below HU0.out hb_)
   have HW1 := Aside0.mk (Kd.R_below HW0.out hb_)
   clear hb_
   generalize wr.drew = w1 at HB1 BP1 BR1 BO1 HU1 HW1 hHeld ⊢
   refine pure_ (i := 0) (N := some 19) (v := ?_) (a' := ?_) #[true, false, false, false, false, false, false, false, false, false, false, false] rfl rfl (any_of HT_.out (by kernel_rfl)) (fun _ _ _ h => h) (Or.inl ⟨by rfl, ?_⟩) ?_ ?_
   rotate_left
   ·
    intro w'
    go_simp
    with_reducible rfl
   rotate_left
   ·
    simp only [Act.put, List.setIfInBounds_toArray, List.set_cons_zero, List.set_cons_succ, i64_w, i32_w]
    rfl
   refine pure_ (i := 1) (N := some 20) (v := ?_) (a' := ?_) #[true, true, false, false, false, false, false, false, false, false, false, false] rfl rfl (any_of HT_.out (by kernel_rfl)) (fun _ _ _ h => h) (Or.inl ⟨by rfl, ?_⟩) ?_ ?_
   rotate_left
   ·
    intro w'
    go_simp
    with_reducible rfl
   rotate_left
   ·
    simp only [Act.put, List.setIfInBounds_toArray, List.set_cons_zero, List.set_cons_succ, i64_w, i32_w]
    rfl
   refine pure_ (i := 2) (N := some 21) (v := ?_) (a' := ?_) #[true, true, true, false, false, false, false, false, false, false, false, false] rfl rfl (any_of HT_.out (by kernel_rfl)) (fun _ _ _ h => h) (Or.inl ⟨by rfl, ?_⟩) ?_ ?_
   rotate_left
   ·
    intro w'
    go_simp
    with_reducible rfl
   rotate_left
   ·
    simp only [Act.put, List.setIfInBounds_toArray, List.set_cons_zero, List.set_cons_succ, i64_w, i32_w]
    rfl
   refine take_ (i := 3) (N := some 22) (v := ?_) (a' := ?_) #[true, true, true, true, false, false, false, false, false, false, false, false] rfl rfl (take_ofW HT_.out HW_.out (by kernel_rfl)) (fun _ _ _ h => h) (Or.inl ⟨by rfl, ?_⟩) hHeld ?_ ?_
   rotate_left
   ·
    rintro w' ⟨s0, s1, s2⟩
    go_simp
    with_reducible rfl
   rotate_left
   ·
    simp only [Act.put, List.setIfInBounds_toArray, List.set_cons_zero, List.set_cons_succ, i64_w, i32_w]
    rfl
   refine pure_ (i := 4) (N := some 23) (v := ?_) (a' := ?_) #[true, true, true, true, true, false, false, false, false, false, false, false] rfl rfl (any_of HT_.out (by kernel_rfl)) (fun _ _ _ h => h) (Or.inl ⟨by rfl, ?_⟩) ?_ ?_
   rotate_left
   ·
    intro w'
    go_simp
    with_reducible rfl
   rotate_left
   ·
    simp only [Act.put, List.setIfInBounds_toArray, List.set_cons_zero, List.set_cons_succ, i64_w, i32_w]
    rfl
   refine pure_ (i := 5) (N := some 24) (v := ?_) (a' := ?_) #[true, true, true, true, true, true, false, false, false, false, false, false] rfl rfl (any_of HT_.out (by kernel_rfl)) (fun _ _ _ h => h) (Or.inl ⟨by rfl, ?_⟩) ?_ ?_
   rotate_left
   ·
    intro w'
    go_simp
    with_reducible rfl
   rotate_left
   ·
    simp only [Act.put, List.setIfInBounds_toArray, List.set_cons_zero, List.set_cons_succ, i64_w, i32_w]
    rfl
   refine pure_ (i := 6) (N := some 25) (v := ?_) (a' := ?_) #[true, true, true, true, true, true, true, false, false, false, false, false] rfl rfl (any_of HT_.out (by kernel_rfl)) (fun _ _ _ h => h) (Or.inl ⟨by rfl, ?_⟩) ?_ ?_
   rotate_left
   ·
    intro w'
    go_simp
    with_reducible rfl
   rotate_left
   ·
    simp only [Act.put, List.setIfInBounds_toArray, List.set_cons_zero, List.set_cons_succ, i64_w, i32_w]
    rfl
   refine take_ (i := 7) (N := some 26) (v := ?_) (a' := ?_) #[true, true, true, true, true, true, true, true, false, false, false, false] rfl rfl (take_ofW HT_.out HW_.out (by kernel_rfl)) (fun _ _ _ h => h) (Or.inl ⟨by rfl, ?_⟩) hHeld ?_ ?_
   rotate_left
   ·
    rintro w' ⟨s0, s1, s2⟩
    go_simp
    with_reducible rfl
   rotate_left
   ·
    simp only [Act.put, List.setIfInBounds_toArray, List.set_cons_zero, List.set_cons_succ, i64_w, i32_w]
    rfl
   refine pure_ (i := 8) (N := some 27) (v := ?_) (a' := ?_) #[true, true, true, true, true, true, true, true, true, false, false, false] rfl rfl (any_of HT_.out (by kernel_rfl)) (fun _ _ _ h => h) (Or.inl ⟨by rfl, ?_⟩) ?_ ?_
   rotate_left
   ·
    intro w'
    go_simp
    with_reducible rfl
   rotate_left
   ·
    simp only [Act.put, List.setIfInBounds_toArray, List.set_cons_zero, List.set_cons_succ, i64_w, i32_w]
    rfl
   refine take_ (i := 9) (N := some 28) (v := ?_) (a' := ?_) #[true, true, true, true, true, true, true, true, true, true, false, false] rfl rfl (take_ofW HT_.out HW_.out (by kernel_rfl)) (fun _ _ _ h => h) (Or.inl ⟨by rfl, ?_⟩) hHeld ?_ ?_
   rotate_left
   ·
    rintro w' ⟨s0, s1, s2⟩
    go_simp
    with_reducible rfl
   rotate_left
   ·
    simp only [Act.put, List.setIfInBounds_toArray, List.set_cons_zero, List.set_cons_succ, i64_w, i32_w]
    rfl
   refine pure_ (i := 10) (N := some 29) (v := ?_) (a' := ?_) #[true, true, true, true, true, true, true, true, true, true, true, false] rfl rfl (any_of HT_.out (by kernel_rfl)) (fun _ _ _ h => h) (Or.inl ⟨by rfl, ?_⟩) ?_ ?_
   rotate_left
   ·
    intro w'
    go_simp
    with_reducible rfl
   rotate_left
   ·
    simp only [Act.put, List.setIfInBounds_toArray, List.set_cons_zero, List.set_cons_succ, i64_w, i32_w]
    rfl
   obtain ⟨z_, hz_⟩ := parcel_Plain.ex5 HJ.out BO1.out
   have fz_ := blk_frozen BO1.out j
   refine last_ (i := 11) (N := none) #[true, true, true, true, true, true, true, true, true, true, true, true] rfl rfl (one_of HT_.out (by kernel_rfl)) (by decide) (fun K hK => ?_)
   refine skip_ (w1 := w1.setCell ⟨go, j, none⟩ (.int .i64 (parcel_Plain.sel a1 a2 a3 a4 a5 j))) (by rfl) rfl ?_ ?_
   ·
    go_simp
   obtain ⟨w2, hw_2⟩ : ∃ x, x = w1.setCell ⟨go, j, none⟩ (.int .i64 (parcel_Plain.sel a1 a2 a3 a4 a5 j)) := ⟨_, rfl⟩
   rw [← hw_2]
   have BO2 := Aside0.mk (show w2.heap[go]? = some (.cells #[.int .i64 a0, .int .i64 (if j = 1 then (parcel_Plain.sel a1 a2 a3 a4 a5 j) else p1), .int .i64 (if j = 2 then (parcel_Plain.sel a1 a2 a3 a4 a5 j) else p2), .int .i64 (if j = 3 then (parcel_Plain.sel a1 a2 a3 a4 a5 j) else p3), .int .i64 (if j = 4 then (parcel_Plain.sel a1 a2 a3 a4 a5 j) else p4), .int .i64 (if j = 5 then (parcel_Plain.sel a1 a2 a3 a4 a5 j) else p5), .slice none 0 0, .slice none 0 0] 51 (0, 0)) by (rw [hw_2]; exact parcel_Plain.put5 HJ.out BO1.out))
   have hf_ : ∀ i, i ≠ go → w2.heap[i]? = w1.heap[i]? := fun i hi => (by rw [hw_2]; rw [far1L _ _ _ _ _ hi])
   have HB2 := Aside0.mk (show Below w.heap.size w w2 by (rw [hw_2]; exact below_set (HB1.out) Ggo.out))
   have BP2 := Aside0.mk ((hf_ gp Ngp_go.out).trans BP1.out)
   have BR2 := Aside0.mk ((hf_ gr Ngr_go.out).trans BR1.out)
   have HU2 := Aside0.mk (Kd.R_mono (Kd.R_step (Kd.R_types HU1.out BO1.out (show ∀ q, q ∈ [86] → q ≠ 51 by decide)) (fun k_ hk_ _ => hf_ k_ hk_.2)) (fun _ h_ => h_.1))
   have HW2 := Aside0.mk (Kd.R_mono (Kd.R_step (Kd.R_types HW1.out BO1.out (show ∀ q, q ∈ [86] → q ≠ 51 by decide)) (fun k_ hk_ _ => hf_ k_ hk_.2)) (fun _ h_ => h_.1))
   clear hf_
   clear hw_2 hz_ fz_
   refine hK.out _ _ ?_
   clear hK K
   refine done_ (done_of HT_.out (by kernel_rfl)) ?_
   go_wp2
   cases gk with
   | zero => exact absurd HI.out (by omega)
   | succ k2 =>
    go_roundg k2
    case measure => omega
    case rel => exact ⟨i + 1, _, _, _, _, _, (by first | rfl | rw [hw_]), ⟨by have := HI.out; omega⟩, ⟨by rw [show (i + 1).toNat = i.toNat + 1 by omega]; exact HN2.out⟩, HB2, BP2, BR2, BO2, HU2, HW2⟩
  have hnr := HNR.out
  rw [List.drop_eq_nil_of_le (show (flds a0).length ≤ i.toNat by have := HI.out; omega)] at hnr
  simp only [parcel_Plain.fl, Prod.mk.injEq] at hnr
  obtain ⟨rfl, rfl, rfl, rfl, rfl⟩ := hnr
  have e1_ := eq_false hi
  have e2_ := eq_false (show ¬ i.toNat < (flds a0).length by have := HI.out; omega)
  clear hi HNR HU0 HW0 HI
  have zp_ := (blk_cell BP0.out 0).trans rfl
  have zp6_ := (blk_cell BP0.out 6).trans rfl
  have zp7_ := (blk_cell BP0.out 7).trans rfl
  have hrows := HROWS.out
  unfold parcel_Plain.rows at hrows
  clear HROWS
  by_cases k1 : a0 = 1
  case neg =>
   rw [if_neg k1] at hrows
   simp only [Option.some.injEq, Prod.mk.injEq] at hrows
   obtain ⟨rfl, rfl⟩ := hrows
   have k1b : (a0 == 1) = false := beq_eq_false_iff_ne.mpr k1
   clear k1
   have zBO0_0 : wr.cell? ⟨go, 0, none⟩ = some (.int .i64 a0) := (blk_cell BO0.out 0).trans rfl
   have zBO0_1 : wr.cell? ⟨go, 1, none⟩ = some (.int .i64 p1) := (blk_cell BO0.out 1).trans rfl
   have zBO0_2 : wr.cell? ⟨go, 2, none⟩ = some (.int .i64 p2) := (blk_cell BO0.out 2).trans rfl
   have zBO0_3 : wr.cell? ⟨go, 3, none⟩ = some (.int .i64 p3) := (blk_cell BO0.out 3).trans rfl
   have zBO0_4 : wr.cell? ⟨go, 4, none⟩ = some (.int .i64 p4) := (blk_cell BO0.out 4).trans rfl
   have zBO0_5 : wr.cell? ⟨go, 5, none⟩ = some (.int .i64 p5) := (blk_cell BO0.out 5).trans rfl
   have zBO0_6 : wr.cell? ⟨go, 6, none⟩ = some (.slice none 0 0) := (blk_cell BO0.out 6).trans rfl
   have zBO0_7 : wr.cell? ⟨go, 7, none⟩ = some (.slice none 0 0) := (blk_cell BO0.out 7).trans rfl
   have zBR0_0 : wr.cell? ⟨gr, 0, none⟩ = some (.int .i64 0) := (blk_cell BR0.out 0).trans rfl
   have fBR0_0 := blk_frozen BR0.out 0
   have zBR0_1 : wr.cell? ⟨gr, 1, none⟩ = some (.int .i64 0) := (blk_cell BR0.out 1).trans rfl
   have fBR0_1 := blk_frozen BR0.out 1
   have zBR0_2 : wr.cell? ⟨gr, 2, none⟩ = some (.int .i64 0) := (blk_cell BR0.out 2).trans rfl
   have fBR0_2 := blk_frozen BR0.out 2
   have zBR0_3 : wr.cell? ⟨gr, 3, none⟩ = some (.int .i64 0) := (blk_cell BR0.out 3).trans rfl
   have fBR0_3 := blk_frozen BR0.out 3
   have zBR0_4 : wr.cell? ⟨gr, 4, none⟩ = some (.int .i64 0) := (blk_cell BR0.out 4).trans rfl
   have fBR0_4 := blk_frozen BR0.out 4
   have zBR0_5 : wr.cell? ⟨gr, 5, none⟩ = some (.int .i64 0) := (blk_cell BR0.out 5).trans rfl
   have fBR0_5 := blk_frozen BR0.out 5
   have zBR0_6 : wr.cell? ⟨gr, 6, none⟩ = some (.slice none 0 0) := (blk_cell BR0.out 6).trans rfl
   have fBR0_6 := blk_frozen BR0.out 6
   have zBR0_7 : wr.cell? ⟨gr, 7, none⟩ = some (.slice none 0 0) := (blk_cell BR0.out 7).trans rfl
   have fBR0_7 := blk_frozen BR0.out 7
   go_wp2_with (first | ((with_reducible refine gate_store (t := 51) (p := 2) (v := .tmp 56) rfl ?_); refine store_event rfl (t := 51) (p := 2) (v := .tmp 56) rfl rfl (w1 := ((((((((wr.setCell ⟨gr, 0, none⟩ (.int .i64 a0)).setCell ⟨gr, 1, none⟩ (.int .i64 p1)).setCell ⟨gr, 2, none⟩ (.int .i64 p2)).setCell ⟨gr, 3, none⟩ (.int .i64 p3)).setCell ⟨gr, 4, none⟩ (.int .i64 p4)).setCell ⟨gr, 5, none⟩ (.int .i64 p5)).setCell ⟨gr, 6, none⟩ (.slice none 0 0)).setCell ⟨gr, 7, none⟩ (.slice none 0 0))) ?hr ?_; (case hr => first | (go_simp; done) | (go_simp; rfl)); intro w1 hw_; have BR1 := Aside0.mk (show w1.heap[gr]? = some (.cells #[.int .i64 a0, .int .i64 p1, .int .i64 p2, .int .i64 p3, .int .i64 p4, .int .i64 p5, .slice none 0 0, .slice none 0 0] 51 (0, 0)) by (rw [hw_]; exact put8_0_8 BR0.out (.int .i64 a0) (.int .i64 p1) (.int .i64 p2) (.int .i64 p3) (.int .i64 p4) (.int .i64 p5) (.slice none 0 0) (.slice none 0 0))); have hf_ : ∀ i, i ≠ gr → w1.heap[i]? = wr.heap[i]? := fun i hi => (by rw [hw_]; rw [far1L _ _ _ _ _ hi, far1L _ _ _ _ _ hi, far1L _ _ _ _ _ hi, far1L _ _ _ _ _ hi, far1L _ _ _ _ _ hi, far1L _ _ _ _ _ hi, far1L _ _ _ _ _ hi, far1L _ _ _ _ _ hi]); have HB1 := Aside0.mk (show Below w.heap.size w w1 by (rw [hw_]; exact below_set (below_set (below_set (below_set (below_set (below_set (below_set (below_set (HB0.out) Ggr.out) Ggr.out) Ggr.out) Ggr.out) Ggr.out) Ggr.out) Ggr.out) Ggr.out)); have BP1 := Aside0.mk ((hf_ gp Ngp_gr.out).trans BP0.out); have BO1 := Aside0.mk ((hf_ go (Ne.symm Ngr_go.out)).trans BO0.out); clear hf_; clear hw_))
   refine bodyPost_ret (results_cell_row rfl _ _ gr 51 #[.int .i64 a0, .int .i64 p1, .int .i64 p2, .int .i64 p3, .int .i64 p4, .int .i64 p5, .slice none 0 0, .slice none 0 0] (0, 0) _ rfl BR1.out Try.underlying51 rfl (by kernel_rfl)) rfl ?_
   exact ⟨_, _, rfl, Kd.R_nil _ _ _ _ _, Kd.S_nil _ _ _ _ _, HB1.out⟩
  rw [if_pos k1] at hrows
  have k1b : (a0 == 1) = true := beq_iff_eq.mpr k1
  clear k1
  obtain ⟨s1_, hs1, hrows⟩ := Option.bind_eq_some_iff.mp hrows
  obtain ⟨t1_, ht1, hrows⟩ := Option.bind_eq_some_iff.mp hrows
  simp only [Option.some.injEq, Prod.mk.injEq] at hrows
  obtain ⟨rfl, rfl⟩ := hrows
  have HS := Aside0.mk hs1
  have HIT := Aside0.mk ht1
  clear hs1 ht1
  go_wp2_with (first | ((with_reducible refine gate_dst (N := 36) rfl ?_); (try (refine gate_guard (by rfl) ?_; dsimp only)); refine goesL_ (some 36) rfl rfl Try.func77 (by kernel_rfl) rfl #[.slice A6 l6.length c6] rfl (by (try simp only [List.map_toArray, List.map_cons, List.map_nil]); first | done | rfl | (simp only [List.length_drop, List.length_take]; rfl)) ?_; refine (api_Span_77.calls A6 c6 l6 s1_ _ (Kd.C_below HR6.out HB0.out) HC6.out HS.out).mono ?_; rintro e_ w1 ⟨v_, rfl, ho, hb⟩; refine ⟨_, rfl, ?_⟩; have HB1 := Aside0.mk (below_step HB0.out hb); have BP1 := Aside0.mk (blk_below BP0.out hb); have BR1 := Aside0.mk (blk_below BR0.out hb); have BO1 := Aside0.mk (blk_below BO0.out hb); have HV1 := Aside0.mk (Kd.R_lower ho (below_size HB0.out)); obtain ⟨As, cs_, e_⟩ := Kd.R_slice HV1.out; subst e_; have zo1_6 := (blk_cell BO1.out 6).trans rfl; have fo1_6 := blk_frozen BO1.out 6; have zp1_7 := (blk_cell BP1.out 7).trans rfl; clear ho hb) | ((with_reducible refine gate_store (t := 22) (p := 37) (v := .tmp 36) rfl ?_); refine store_event rfl (t := 22) (p := 37) (v := .tmp 36) rfl rfl (w1 := (w1.setCell ⟨go, 6, none⟩ (.slice As s1_.length cs_))) ?hr ?_; (case hr => first | (go_simp; done) | (go_simp; rfl)); intro w2 hw_; have BO2 := Aside0.mk (show w2.heap[go]? = some (.cells #[.int .i64 a0, .int .i64 p1, .int .i64 p2, .int .i64 p3, .int .i64 p4, .int .i64 p5, .slice As s1_.length cs_, .slice none 0 0] 51 (0, 0)) by (rw [hw_]; exact blk_put (BO1.out) 6 _ rfl)); have hf_ : ∀ i, i ≠ go → w2.heap[i]? = w1.heap[i]? := fun i hi => (by rw [hw_]; rw [far1L _ _ _ _ _ hi]); have HB2 := Aside0.mk (show Below w.heap.size w w2 by (rw [hw_]; exact below_set (HB1.out) Ggo.out)); have BP2 := Aside0.mk ((hf_ gp Ngp_go.out).trans BP1.out); have BR2 := Aside0.mk ((hf_ gr Ngr_go.out).trans BR1.out); have HV2 := Aside0.mk (Kd.R_mono (Kd.R_step (Kd.R_types HV1.out BO1.out (by decide)) (fun k_ hk_ _ => hf_ k_ hk_.2)) (fun _ h_ => h_.1)); clear hf_; have zBO2_7 : w2.cell? ⟨go, 7, none⟩ = some (.slice none 0 0) := (blk_cell BO2.out 7).trans rfl; have fBO2_7 := blk_frozen BO2.out 7; clear hw_; have zp2_7 := (blk_cell BP2.out 7).trans rfl))
  go_loopg [41] (l7.length + 1) (fun kq v41 w' => ∃ (i : Int) (Ai : Option Addr) (ci : Nat) (it : List S62), v41 = .int .i64 i ∧ Aside0 (0 ≤ i ∧ i ≤ (l7.length : Int) ∧ l7.length + 1 ≤ kq + i.toNat) ∧ Aside0 (parcel_Plain.its (l7.drop i.toNat) it = some t1_) ∧ Aside0 (Below w.heap.size w w') ∧ Aside0 (w'.heap[gp]? = some (.cells #[.int .i64 a0, .int .i64 a1, .int .i64 a2, .int .i64 a3, .int .i64 a4, .int .i64 a5, .slice A6 l6.length c6, .slice A7 l7.length c7] 51 (0, 0))) ∧ Aside0 (w'.heap[gr]? = some (.cells #[.int .i64 0, .int .i64 0, .int .i64 0, .int .i64 0, .int .i64 0, .int .i64 0, .slice none 0 0, .slice none 0 0] 51 (0, 0))) ∧ Aside0 (w'.heap[go]? = some (.cells #[.int .i64 a0, .int .i64 p1, .int .i64 p2, .int .i64 p3, .int .i64 p4, .int .i64 p5, .slice As s1_.length cs_, .slice Ai it.length ci] 51 (0, 0))) ∧ Aside0 (Kd.R k43 43 w' w.heap.size (fun _ => True) (.slice As s1_.length cs_) s1_) ∧ Aside0 (Kd.S k62 62 w' w.heap.size (fun _ => True) (.slice Ai it.length ci) it))
  case atStart => exact ⟨0, none, 0, [], rfl, ⟨by omega⟩, HIT, HB2, BP2, BR2, BO2, HV2, ⟨Kd.S_nil _ _ _ _ _⟩⟩
  case round =>
   obtain ⟨i, Ai, ci, it, rfl, HI, HNR, HB0, BP0, BR0, BO0, HV0, HI0⟩ := hrel
   clear HB1 HB2 BP1 BP2 BR1 BR2 BO1 BO2 HV1 HV2 HIT
   by_cases hi : i < (l7.length : Int)
   case pos =>
    have h0 := HI.out.1
    have hlt : i.toNat < l7.length := by omega
    obtain ⟨ad, A2, c2, hA, q0, q1, q2, l2, g2⟩ := at_T62 HR7.out i h0 hi
    obtain ⟨x, hx⟩ : ∃ x : S62, rd_T62 l7 i = x := ⟨_, rfl⟩
    rw [hx] at q0 q1 q2 l2 g2
    have hje : l7[i.toNat] = x := by rw [← hx]; unfold rd_T62; rw [List.getD_eq_getElem?_getD, List.getElem?_eq_getElem hlt]; rfl
    have hd : l7.drop i.toNat = x :: l7.drop (i.toNat + 1) := by rw [List.drop_eq_getElem_cons hlt, hje]
    replace q0 := (HB0.out.cell (World.block_lt_of_cell? w _ q0)).trans q0
    replace q1 := (HB0.out.cell (World.block_lt_of_cell? w _ q1)).trans q1
    replace q2 := (HB0.out.cell (World.block_lt_of_cell? w _ q2)).trans q2
    subst hA
    have hnr := HNR.out
    rw [hd] at hnr
    clear HNR
    obtain ⟨b, hn1, hn2⟩ := Option.bind_eq_some_iff.mp hnr
    by_cases hl3 : it.length < 3518437208883
    case neg => exact absurd ((if_neg hl3).symm.trans hn2) (by simp)
    have HN2 := Aside0.mk ((if_pos hl3).symm.trans hn2)
    have HN1 := Aside0.mk hn1
    have HL3 := Aside0.mk hl3
    have HG2 := Aside0.mk g2
    have HL2 := Aside0.mk l2
    have p0_ := eq_true h0
    have p1_ := eq_true hi
    have p2_ := eq_true hlt
    have hl7 : l7.length ≤ 9223372036854775807 := len_C HR7.out
    have hw_ : wrap64 (i + 1) = i + 1 := by unfold wrap64; omega
    clear hnr hn1 hn2 hd hje hx hl3 g2 l2
    have zo0_7 := (blk_cell BO0.out 7).trans rfl
    go_wp2_with (first | ((with_reducible refine gate_dst (N := 8) rfl ?_); refine box_event ?hg (N := 8) ?hd (cs := #[.int .i64 0, .int .u32 0, .slice none 0 0]) (t := 62) ?hr ?_; (case hd => rfl); (case hg => rfl); (case hr => first | (go_simp; done) | (go_simp; rfl)); intro gx hg w1 hbox hb; have HB1 := Aside0.mk (below_step HB0.out hb); have BP1 := Aside0.mk (blk_below BP0.out hb); have BR1 := Aside0.mk (blk_below BR0.out hb); have BO1 := Aside0.mk (blk_below BO0.out hb); have HV1 := Aside0.mk (Kd.R_below HV0.out hb); have Ggx := Aside0.mk (show w.heap.size ≤ gx by (rw [hg]; exact below_size HB0.out)); have Ngp_gx := Aside0.mk (show gp ≠ gx from fun e_ => absurd (blk_lt BP0.out) (by rw [e_, hg]; exact Nat.lt_irrefl _)); have Ngr_gx := Aside0.mk (show gr ≠ gx from fun e_ => absurd (blk_lt BR0.out) (by rw [e_, hg]; exact Nat.lt_irrefl _)); have Ngo_gx := Aside0.mk (show go ≠ gx from fun e_ => absurd (blk_lt BO0.out) (by rw [e_, hg]; exact Nat.lt_irrefl _)); have Egx := Aside0.mk hg; have BX1 := Aside0.mk hbox; have zBX1_0 : w1.cell? ⟨gx, 0, none⟩ = some (.int .i64 0) := (blk_cell BX1.out 0).trans rfl; have fBX1_0 := blk_frozen BX1.out 0; have zBX1_1 : w1.cell? ⟨gx, 1, none⟩ = some (.int .u32 0) := (blk_cell BX1.out 1).trans rfl; have fBX1_1 := blk_frozen BX1.out 1; have zBX1_2 : w1.cell? ⟨gx, 2, none⟩ = some (.slice none 0 0) := (blk_cell BX1.out 2).trans rfl; have fBX1_2 := blk_frozen BX1.out 2; have HI1 := Aside0.mk (Kd.S_mono (Kd.S_below (Kd.S_elderB HI0.out gx (Nat.le_of_eq hg.symm)) hb) (ok' := fun k_ => k_ ≠ gx) (fun _ h_ => h_.2)); clear hb hbox hg) | ((with_reducible refine gate_store (t := 62) (p := 8) (v := .tmp 44) rfl ?_); refine store_event rfl (t := 62) (p := 8) (v := .tmp 44) rfl rfl (w1 := (((w1.setCell ⟨gx, 0, none⟩ (.int .i64 x.f0)).setCell ⟨gx, 1, none⟩ (.int .u32 x.f1)).setCell ⟨gx, 2, none⟩ (.slice A2 x.f2.length c2))) ?hr ?_; (case hr => first | (go_simp; done) | (go_simp; rfl)); intro w2 hw_; have BX2 := Aside0.mk (show w2.heap[gx]? = some (.cells #[.int .i64 x.f0, .int .u32 x.f1, .slice A2 x.f2.length c2] 62 (0, 0)) by (rw [hw_]; exact put3_0_3 BX1.out (.int .i64 x.f0) (.int .u32 x.f1) (.slice A2 x.f2.length c2))); have hf_ : ∀ i, i ≠ gx → w2.heap[i]? = w1.heap[i]? := fun i hi => (by rw [hw_]; rw [far1L _ _ _ _ _ hi, far1L _ _ _ _ _ hi, far1L _ _ _ _ _ hi]); have HB2 := Aside0.mk (show Below w.heap.size w w2 by (rw [hw_]; exact below_set (below_set (below_set (HB1.out) Ggx.out) Ggx.out) Ggx.out)); have BP2 := Aside0.mk ((hf_ gp Ngp_gx.out).trans BP1.out); have BR2 := Aside0.mk ((hf_ gr Ngr_gx.out).trans BR1.out); have BO2 := Aside0.mk ((hf_ go Ngo_gx.out).trans BO1.out); have HV2 := Aside0.mk (Kd.R_mono (Kd.R_step (Kd.R_types HV1.out BX1.out (by decide)) (fun k_ hk_ _ => hf_ k_ hk_.2)) (fun _ h_ => h_.1)); have HI2 := Aside0.mk (Kd.S_step HI1.out (fun k_ hk_ hlt_ => hf_ k_ (hk_))); clear hf_; have zBX2_0 : w2.cell? ⟨gx, 0, none⟩ = some (.int .i64 x.f0) := (blk_cell BX2.out 0).trans rfl; have fBX2_0 := blk_frozen BX2.out 0; have zBX2_1 : w2.cell? ⟨gx, 1, none⟩ = some (.int .u32 x.f1) := (blk_cell BX2.out 1).trans rfl; have fBX2_1 := blk_frozen BX2.out 1; have zBX2_2 : w2.cell? ⟨gx, 2, none⟩ = some (.slice A2 x.f2.length c2) := (blk_cell BX2.out 2).trans rfl; have fBX2_2 := blk_frozen BX2.out 2; clear hw_) | ((with_reducible refine gate_dst (N := 47) rfl ?_); (try (refine gate_guard (by rfl) ?_; dsimp only)); refine goesL_ (some 47) rfl rfl Try.func78 (by kernel_rfl) rfl #[.slice A2 x.f2.length c2] rfl (by (try simp only [List.map_toArray, List.map_cons, List.map_nil]); first | done | rfl | (simp only [List.length_drop, List.length_take]; rfl)) ?_; refine (slices_Clone_byte_byte.calls A2 c2 x.f2 b _ (Kd.C_below HG2.out HB2.out) HL2.out HN1.out).mono ?_; rintro e_ w3 ⟨v_, rfl, ho, hb⟩; refine ⟨_, rfl, ?_⟩; have HB3 := Aside0.mk (below_step HB2.out hb); have BP3 := Aside0.mk (blk_below BP2.out hb); have BR3 := Aside0.mk (blk_below BR2.out hb); have BO3 := Aside0.mk (blk_below BO2.out hb); have HV3 := Aside0.mk (Kd.R_below HV2.out hb); have BX3 := Aside0.mk (blk_below BX2.out hb); have HY3 := Aside0.mk (Kd.R_lower ho (below_size HB2.out)); obtain ⟨Ab, cb, eb⟩ := Kd.R_slice ho; subst eb; have HI3 := Aside0.mk (Kd.S_mono (Kd.S_below (Kd.S_bound HI2.out) hb) (ok' := fun k_ => (True ∧ ¬ (some k_ = (.slice Ab b.length cb : Value).ownBlock)) ∧ k_ ≠ gx) (fun k_ hk_ => ⟨⟨trivial, fun e_ => by have h1_ := Kd.R_base ho k_ e_.symm; have h2_ := hk_.2.2.1; omega⟩, hk_.1⟩)); have zx3_0 := (blk_cell BX3.out 0).trans rfl; have zx3_1 := (blk_cell BX3.out 1).trans rfl; have zx3_2 := (blk_cell BX3.out 2).trans rfl; have fx3_2 := blk_frozen BX3.out 2; clear ho hb) | ((with_reducible refine gate_store (t := 44) (p := 48) (v := .tmp 47) rfl ?_); refine store_event rfl (t := 44) (p := 48) (v := .tmp 47) rfl rfl (w1 := (w3.setCell ⟨gx, 2, none⟩ (.slice Ab b.length cb))) ?hr ?_; (case hr => first | (go_simp; done) | (go_simp; rfl)); intro w4 hw_; have BX4 := Aside0.mk (show w4.heap[gx]? = some (.cells #[.int .i64 x.f0, .int .u32 x.f1, .slice Ab b.length cb] 62 (0, 0)) by (rw [hw_]; exact blk_put (BX3.out) 2 _ rfl)); have hf_ : ∀ i, i ≠ gx → w4.heap[i]? = w3.heap[i]? := fun i hi => (by rw [hw_]; rw [far1L _ _ _ _ _ hi]); have HB4 := Aside0.mk (show Below w.heap.size w w4 by (rw [hw_]; exact below_set (HB3.out) Ggx.out)); have BP4 := Aside0.mk ((hf_ gp Ngp_gx.out).trans BP3.out); have BR4 := Aside0.mk ((hf_ gr Ngr_gx.out).trans BR3.out); have BO4 := Aside0.mk ((hf_ go Ngo_gx.out).trans BO3.out); have HV4 := Aside0.mk (Kd.R_mono (Kd.R_step (Kd.R_types HV3.out BX3.out (by decide)) (fun k_ hk_ _ => hf_ k_ hk_.2)) (fun _ h_ => h_.1)); have HI4 := Aside0.mk (Kd.S_step HI3.out (fun k_ hk_ hlt_ => hf_ k_ (hk_.2))); have HY4 := Aside0.mk (Kd.R_mono (Kd.R_step (Kd.R_types HY3.out BX3.out (by decide)) (fun k_ hk_ _ => hf_ k_ hk_.2)) (fun _ h_ => h_.1)); clear hf_; have zBX4_0 : w4.cell? ⟨gx, 0, none⟩ = some (.int .i64 x.f0) := (blk_cell BX4.out 0).trans rfl; have fBX4_0 := blk_frozen BX4.out 0; have zBX4_1 : w4.cell? ⟨gx, 1, none⟩ = some (.int .u32 x.f1) := (blk_cell BX4.out 1).trans rfl; have fBX4_1 := blk_frozen BX4.out 1; have zBX4_2 : w4.cell? ⟨gx, 2, none⟩ = some (.slice Ab b.length cb) := (blk_cell BX4.out 2).trans rfl; have fBX4_2 := blk_frozen BX4.out 2; clear hw_; have zo_7 := (blk_cell BO4.out 7).trans rfl) | ((with_reducible refine gate_builtin (b := .append) (xs := #[.tmp 50, .tmp 52]) rfl ?_); at_builtin; refine Kd.S_append k62 (w0 := w) w.heap.size rfl (.tmp 50) (.tmp 52) 49 62 (.agg #[(.int .i64 0), (.int .u32 0), (.slice none 0 0)]) 40 rfl Try.underlying49 info62 rfl (by decide) (by omega) (.slice Ai it.length ci) it (⟨x.f0, x.f1, b⟩ : S62) [.int .i64 x.f0, .int .u32 x.f1, .slice Ab b.length cb] (fun _ => True) (fun k_ => some k_ = (.slice Ab b.length cb : Value).ownBlock) rfl rfl ?aP (fun k_ hk_ => (Kd.R_mono (ok' := fun k_ => ((fun _ => True)) k_ ∧ some k_ ≠ (.slice Ai it.length ci : Value).ownBlock) (Kd.R_apart' HY4.out (Kd.S_typed HI4.out) (by decide)) (fun k_ hk_ => ⟨trivial, hk_.2⟩)).1 k_ hk_.symm) (fun _ _ => trivial) (Kd.S_mono HI4.out (fun _ h_ => h_.1)) HB4.out (below_size HB4.out) ?aL ?_; (case aP => exact k62_mkM _ _ _ (⟨x.f0, x.f1, b⟩ : S62) (Kd.R_mono (Kd.R_tight rfl (Kd.R_mono (ok' := fun k_ => ((fun _ => True)) k_ ∧ some k_ ≠ (.slice Ai it.length ci : Value).ownBlock) (Kd.R_apart' HY4.out (Kd.S_typed HI4.out) (by decide)) (fun k_ hk_ => ⟨trivial, hk_.2⟩))) (fun _ h_ => h_))); (case aL => have := HL3.out; omega); intro v3 w5 ho hb hg hat; have BR5 := Aside0.mk (blk_grown BR4.out hg (Kd.S_ne HI4.out BR4.out (by decide))); have BP5 := Aside0.mk (blk_grown BP4.out hg (Kd.S_ne HI4.out BP4.out (by decide))); have BO5 := Aside0.mk (blk_grown BO4.out hg (Kd.S_ne HI4.out BO4.out (by decide))); have HV5 := Aside0.mk (Kd.R_over HV4.out (Kd.S_R HI4.out) (by decide) hg); have HB5 := Aside0.mk hb; have HI5 := Aside0.mk (Kd.S_mono ho (ok' := fun _ => True) (fun _ _ => trivial)); obtain ⟨A3, c3, e3⟩ := Kd.S_slice HI5.out; subst e3; have zo2_7 := (blk_cell BO5.out 7).trans rfl; have fo2_7 := blk_frozen BO5.out 7; clear ho hb hg hat) | ((with_reducible refine gate_store (t := 49) (p := 54) (v := .tmp 53) rfl ?_); refine store_event rfl (t := 49) (p := 54) (v := .tmp 53) rfl rfl (w1 := (w5.setCell ⟨go, 7, none⟩ (.slice A3 (it ++ [(⟨x.f0, x.f1, b⟩ : S62)]).length c3))) ?hr ?_; (case hr => first | (go_simp; done) | (go_simp; rfl)); intro w6 hw_; have BO6 := Aside0.mk (show w6.heap[go]? = some (.cells #[.int .i64 a0, .int .i64 p1, .int .i64 p2, .int .i64 p3, .int .i64 p4, .int .i64 p5, .slice As s1_.length cs_, .slice A3 (it ++ [(⟨x.f0, x.f1, b⟩ : S62)]).length c3] 51 (0, 0)) by (rw [hw_]; exact blk_put (BO5.out) 7 _ rfl)); have hf_ : ∀ i, i ≠ go → w6.heap[i]? = w5.heap[i]? := fun i hi => (by rw [hw_]; rw [far1L _ _ _ _ _ hi]); have HB6 := Aside0.mk (show Below w.heap.size w w6 by (rw [hw_]; exact below_set (HB5.out) Ggo.out)); have BP6 := Aside0.mk ((hf_ gp Ngp_go.out).trans BP5.out); have BR6 := Aside0.mk ((hf_ gr Ngr_go.out).trans BR5.out); have HV6 := Aside0.mk (Kd.R_mono (Kd.R_step (Kd.R_types HV5.out BO5.out (by decide)) (fun k_ hk_ _ => hf_ k_ hk_.2)) (fun _ h_ => h_.1)); have HI6 := Aside0.mk (Kd.S_mono (Kd.S_step (Kd.S_types HI5.out BO5.out (by decide)) (fun k_ hk_ _ => hf_ k_ hk_.2)) (fun _ h_ => h_.1)); clear hf_; clear hw_))
    cases gk with
    | zero => exact absurd HI.out (by omega)
    | succ k2 =>
     go_roundg k2
     case measure => omega
     case rel => exact ⟨i + 1, A3, c3, _, (by first | rfl | rw [hw_]), ⟨by have := HI.out; omega⟩, ⟨by rw [show (i + 1).toNat = i.toNat + 1 by omega]; exact HN2.out⟩, HB6, BP6, BR6, BO6, HV6, HI6⟩
   have hnr := HNR.out
   rw [List.drop_eq_nil_of_le (show l7.length ≤ i.toNat by have := HI.out; omega)] at hnr
   simp only [parcel_Plain.its, Option.some.injEq] at hnr
   subst hnr
   have e1_ := eq_false hi
   have e2_ := eq_false (show ¬ i.toNat < l7.length by have := HI.out; omega)
   clear hi HNR HI
   have zBO0_0 : wr.cell? ⟨go, 0, none⟩ = some (.int .i64 a0) := (blk_cell BO0.out 0).trans rfl
   have zBO0_1 : wr.cell? ⟨go, 1, none⟩ = some (.int .i64 p1) := (blk_cell BO0.out 1).trans rfl
   have zBO0_2 : wr.cell? ⟨go, 2, none⟩ = some (.int .i64 p2) := (blk_cell BO0.out 2).trans rfl
   have zBO0_3 : wr.cell? ⟨go, 3, none⟩ = some (.int .i64 p3) := (blk_cell BO0.out 3).trans rfl
   have zBO0_4 : wr.cell? ⟨go, 4, none⟩ = some (.int .i64 p4) := (blk_cell BO0.out 4).trans rfl
   have zBO0_5 : wr.cell? ⟨go, 5, none⟩ = some (.int .i64 p5) := (blk_cell BO0.out 5).trans rfl
   have zBO0_6 : wr.cell? ⟨go, 6, none⟩ = some (.slice As s1_.length cs_) := (blk_cell BO0.out 6).trans rfl
   have zBO0_7 : wr.cell? ⟨go, 7, none⟩ = some (.slice Ai it.length ci) := (blk_cell BO0.out 7).trans rfl
   have zBR0_0 : wr.cell? ⟨gr, 0, none⟩ = some (.int .i64 0) := (blk_cell BR0.out 0).trans rfl
   have fBR0_0 := blk_frozen BR0.out 0
   have zBR0_1 : wr.cell? ⟨gr, 1, none⟩ = some (.int .i64 0) := (blk_cell BR0.out 1).trans rfl
   have fBR0_1 := blk_frozen BR0.out 1
   have zBR0_2 : wr.cell? ⟨gr, 2, none⟩ = some (.int .i64 0) := (blk_cell BR0.out 2).trans rfl
   have fBR0_2 := blk_frozen BR0.out 2
   have zBR0_3 : wr.cell? ⟨gr, 3, none⟩ = some (.int .i64 0) := (blk_cell BR0.out 3).trans rfl
   have fBR0_3 := blk_frozen BR0.out 3
   have zBR0_4 : wr.cell? ⟨gr, 4, none⟩ = some (.int .i64 0) := (blk_cell BR0.out 4).trans rfl
   have fBR0_4 := blk_frozen BR0.out 4
   have zBR0_5 : wr.cell? ⟨gr, 5, none⟩ = some (.int .i64 0) := (blk_cell BR0.out 5).trans rfl
   have fBR0_5 := blk_frozen BR0.out 5
   have zBR0_6 : wr.cell? ⟨gr, 6, none⟩ = some (.slice none 0 0) := (blk_cell BR0.out 6).trans rfl
   have fBR0_6 := blk_frozen BR0.out 6
   have zBR0_7 : wr.cell? ⟨gr, 7, none⟩ = some (.slice none 0 0) := (blk_cell BR0.out 7).trans rfl
   have fBR0_7 := blk_frozen BR0.out 7
   go_wp2_with (first | ((with_reducible refine gate_store (t := 51) (p := 2) (v := .tmp 56) rfl ?_); refine store_event rfl (t := 51) (p := 2) (v := .tmp 56) rfl rfl (w1 := ((((((((wr.setCell ⟨gr, 0, none⟩ (.int .i64 a0)).setCell ⟨gr, 1, none⟩ (.int .i64 p1)).setCell ⟨gr, 2, none⟩ (.int .i64 p2)).setCell ⟨gr, 3, none⟩ (.int .i64 p3)).setCell ⟨gr, 4, none⟩ (.int .i64 p4)).setCell ⟨gr, 5, none⟩ (.int .i64 p5)).setCell ⟨gr, 6, none⟩ (.slice As s1_.length cs_)).setCell ⟨gr, 7, none⟩ (.slice Ai it.length ci))) ?hr ?_; (case hr => first | (go_simp; done) | (go_simp; rfl)); intro w1 hw_; have BR1 := Aside0.mk (show w1.heap[gr]? = some (.cells #[.int .i64 a0, .int .i64 p1, .int .i64 p2, .int .i64 p3, .int .i64 p4, .int .i64 p5, .slice As s1_.length cs_, .slice Ai it.length ci] 51 (0, 0)) by (rw [hw_]; exact put8_0_8 BR0.out (.int .i64 a0) (.int .i64 p1) (.int .i64 p2) (.int .i64 p3) (.int .i64 p4) (.int .i64 p5) (.slice As s1_.length cs_) (.slice Ai it.length ci))); have hf_ : ∀ i, i ≠ gr → w1.heap[i]? = wr.heap[i]? := fun i hi => (by rw [hw_]; rw [far1L _ _ _ _ _ hi, far1L _ _ _ _ _ hi, far1L _ _ _ _ _ hi, far1L _ _ _ _ _ hi, far1L _ _ _ _ _ hi, far1L _ _ _ _ _ hi, far1L _ _ _ _ _ hi, far1L _ _ _ _ _ hi]); have HB1 := Aside0.mk (show Below w.heap.size w w1 by (rw [hw_]; exact below_set (below_set (below_set (below_set (below_set (below_set (below_set (below_set (HB0.out) Ggr.out) Ggr.out) Ggr.out) Ggr.out) Ggr.out) Ggr.out) Ggr.out) Ggr.out)); have BP1 := Aside0.mk ((hf_ gp Ngp_gr.out).trans BP0.out); have BO1 := Aside0.mk ((hf_ go (Ne.symm Ngr_go.out)).trans BO0.out); have HV1 := Aside0.mk (Kd.R_mono (Kd.R_step (Kd.R_types HV0.out BR0.out (by decide)) (fun k_ hk_ _ => hf_ k_ hk_.2)) (fun _ h_ => h_.1)); have HI1 := Aside0.mk (Kd.S_mono (Kd.S_step (Kd.S_types HI0.out BR0.out (by decide)) (fun k_ hk_ _ => hf_ k_ hk_.2)) (fun _ h_ => h_.1)); clear hf_; clear hw_))
   refine bodyPost_ret (results_cell_row rfl _ _ gr 51 #[.int .i64 a0, .int .i64 p1, .int .i64 p2, .int .i64 p3, .int .i64 p4, .int .i64 p5, .slice As s1_.length cs_, .slice Ai it.length ci] (0, 0) _ rfl BR1.out Try.underlying51 rfl (by kernel_rfl)) rfl ?_
   exact ⟨_, _, rfl, HV1.out, HI1.out, HB1.out⟩


end Go.Proofs.Ytpeacoppclmmlaa.PP
