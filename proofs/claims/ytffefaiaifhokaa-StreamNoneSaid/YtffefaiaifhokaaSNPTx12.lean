-- PRINTED by gprint.py (a session's own driver over the kit's print): not trusted; Lean checks it.
import Derived.Test.YtffefaiaifhokaaSNPTx0
import Derived.Test.YtffefaiaifhokaaSNPTx2
import Derived.Test.YtffefaiaifhokaaSNPTx4
import Derived.Test.YtffefaiaifhokaaSNPTx8
import Derived.Test.YtffefaiaifhokaaSNPTx9
import Derived.Test.YtffefaiaifhokaaSNPTx11
import Derived.Test.YtffefaiaifhokaaSNPTx16
namespace Go.Proofs.Ytffefaiaifhokaa.PT
open Go.RowKit Go.Proofs.YtffefaiaifhokaaW.PrintWords Go.Proofs.YtffefaiaifhokaaW.PrintLast Go.Proofs.YtffefaiaifhokaaW.PrintMore
set_option linter.unusedVariables false
set_option linter.unusedSimpArgs false

/-! ### stream_Stream_Learn: function 11 -/
-- GIVEN-ALONE: typed by mk_stream.py
set_option maxHeartbeats 4000000 in
set_option maxRecDepth 100000 in
theorem learn_nil (p1 p2 p3 p4 p5 p6 : Int) (A7 A8 : Option Addr) (n7 c7 n8 c8 : Nat) (w : World) :
 Calls Try.prog 11 #[.pointer none, .agg #[.int .i64 p1, .int .i64 p2, .int .i64 p3, .int .i64 p4, .int .i64 p5, .int .i64 p6, .slice A7 n7 c7, .slice A8 n8 c8]] w fun e w' => e = .returned (.tuple #[.bool false, .int .i64 1]) ∧ Below w.heap.size w w' := by
 have hu := Try.underlying33
 go_enter Try.func11, Try.ntmps11
 go_wp2_with (first | ((with_reducible refine gate_dst (N := 3) rfl ?_); refine box_event ?hg (N := 3) ?hd (cs := #[.int .i64 p1, .int .i64 p2, .int .i64 p3, .int .i64 p4, .int .i64 p5, .int .i64 p6, .slice A7 n7 c7, .slice A8 n8 c8]) (t := 33) ?hr ?_; (case hd => rfl); (case hg => rfl); (case hr => first | (go_simp; done) | (go_simp; rfl)); intro gp hg w1 hbox hb; have HB1 := Aside0.mk hb; have Ggp := Aside0.mk (show w.heap.size ≤ gp by rw [hg]; exact Nat.le_refl _); have Egp := Aside0.mk hg; have BP1 := Aside0.mk hbox; clear hb hbox hg))
 go_ret2
 exact ⟨rfl, HB1.out⟩
set_option maxRecDepth 100000 in
/-- maps.Clone. -/
theorem clone_calls (b n : Nat) (D : DataW Value) (w : World) (hm : Mp w b n D) :
 Calls Try.prog 33 #[.map (some b)] w fun e w' => ∃ b2, e = .returned (.map (some b2)) ∧ Mp w' b2 n D ∧ w.heap.size ≤ b2 ∧ Below w.heap.size w w' := by
 obtain ⟨es, clock, hb, F, hs, hD⟩ := hm
 have hq := fun w => run_eql_map_nil_sl (P := Try.prog) w 79 _ _ (some b) Try.underlying79
 go_enter Try.func33, Try.ntmps33
 go_wp2
 rw [run_callFunc_extern Try.func67 (by kernel_rfl) (by kernel_rfl) (by kernel_rfl) (e := Extern.MapsClone.clone) (by kernel_rfl), run_maps_clone_sl w 79 hb]
 simp only [Result.andThen]
 rw [Oper.upon_value]
 go_wp2
 rw [run_typeAssert_map_sl _ 79 _ _ _ _ Try.underlying79]
 simp only [Result.andThen]
 rw [Oper.upon_value]
 go_wp2
 go_ret
 exact ⟨w.heap.size, rfl, ⟨es, clock, (MapKept.heap_alloc w _).1, F, hs, hD⟩, Nat.le_refl _, below_alloc (Below.refl _ _) _⟩
theorem item_openF {W : World} {ok : Nat → Prop} {x : S42} {cs : List Value} (h : Kd.FK k42 W ok x cs) : ∃ A2 c2, cs = [.int .i64 x.f0, .int .u32 x.f1, .slice A2 x.f2.length c2] ∧ x.f2.length ≤ c2 ∧ Kd.F (Kd.int .u8) W ok A2 x.f2.length x.f2 := by
 obtain ⟨A2, c2, rfl, l2, _⟩ := k42_open (Kd.FK_now h)
 exact ⟨A2, c2, rfl, l2, (fun W' hW => by obtain ⟨A2_, c2_, he, l2_, g2_⟩ := k42_open (h W' hW); injection (Option.some.inj (show some (Value.slice A2 x.f2.length c2) = some (Value.slice A2_ x.f2.length c2_) from congrArg (fun l => l[2]?) he)) with ha_ _ _; rw [ha_]; exact g2_)⟩
theorem below_map {B b : Nat} {W W1 : World} (hg : W.grownBy W1 (some b)) (hB : B ≤ b) (hW : B ≤ W.heap.size) : Below B W W1 := ⟨hg.os, hg.tape, hg.output, hg.size, fun i hi => hg.block i (Nat.lt_of_lt_of_le hi hW) (fun e_ => by have := Option.some.inj e_; omega)⟩
def stream_Stream_Learn.f : Option Int := some 0
def stream_Stream_Learn.T8 : Bool × List (List Nat × List Nat) := (true, [([], []), ([0], [0]), ([1], [1]), ([2], [2]), ([], []), ([4], [4]), ([5], [5]), ([6], [6]), ([7], [7]), ([3, 8, 0, 1, 2, 3], [3]), ([8, 9, 0, 1, 2, 3, 4, 5, 6, 7, 8, 9], [8])])
def stream_Stream_Learn.B8 : List Nat := [0, 1, 3, 7, 0, 16, 48, 112, 240, 511, 1023]
theorem stream_Stream_Learn.tab8 : rtab .any (opsOf Try.f11 8) = stream_Stream_Learn.T8 := by kernel_rfl
theorem stream_Stream_Learn.bits8 : waitsOk stream_Stream_Learn.T8.2 stream_Stream_Learn.B8 = true := by kernel_rfl
def stream_Stream_Learn.T14 : Bool × List (List Nat × List Nat) := (true, [([], []), ([0], [0]), ([1], [1]), ([2], [2]), ([], []), ([4], [4]), ([3, 5], [3, 5])])
def stream_Stream_Learn.B14 : List Nat := [0, 1, 3, 7, 0, 16, 63]
theorem stream_Stream_Learn.tab14 : rtab .any (opsOf Try.f11 14) = stream_Stream_Learn.T14 := by kernel_rfl
theorem stream_Stream_Learn.bits14 : waitsOk stream_Stream_Learn.T14.2 stream_Stream_Learn.B14 = true := by kernel_rfl
def stream_Stream_Learn.T17 : Bool × List (List Nat × List Nat) := (true, [([], []), ([0], [0]), ([1], [1]), ([2], [2]), ([], []), ([4], [4]), ([], []), ([6], [6]), ([3, 5, 7, 7, 0, 1, 2, 3, 4, 5, 6, 7], [3, 5, 7])])
def stream_Stream_Learn.B17 : List Nat := [0, 1, 3, 7, 0, 16, 0, 64, 255]
theorem stream_Stream_Learn.tab17 : rtab .any (opsOf Try.f11 17) = stream_Stream_Learn.T17 := by kernel_rfl
theorem stream_Stream_Learn.bits17 : waitsOk stream_Stream_Learn.T17.2 stream_Stream_Learn.B17 = true := by kernel_rfl
theorem putLe3_0_3 {W : World} {g t : Nat} {c0 c1 c2 : Value} (h : W.heap[g]? = some (.cells #[c0, c1, c2] t (0, 0))) (d0 d1 d2 : Value) : (((W.setCell ⟨g, 0, none⟩ d0).setCell ⟨g, 1, none⟩ d1).setCell ⟨g, 2, none⟩ d2).heap[g]? = some (.cells #[d0, d1, d2] t (0, 0)) := by
 have h0 : (W.setCell ⟨g, 0, none⟩ d0).heap[g]? = some (.cells #[d0, c1, c2] t (0, 0)) := blk_put h 0 _ rfl
 have h1 : ((W.setCell ⟨g, 0, none⟩ d0).setCell ⟨g, 1, none⟩ d1).heap[g]? = some (.cells #[d0, d1, c2] t (0, 0)) := blk_put h0 1 _ rfl
 exact blk_put h1 2 _ rfl
set_option maxHeartbeats 100000000 in
set_option maxRecDepth 100000 in
/-- The document's first news, learnt by a stream that knows nothing. -/
theorem learn_live (k B g b : Nat) (A6 A7 : Option Addr) (c6 c7 : Nat) (K1 K2 : List S38) (w : World) (hb : w.heap[g]? = some (.cells #[.slice none ([] : List S38).length 0, .map (some b)] 81 (0, 0))) (hm : Mp w b 0 (.map [])) (h6 : Kd.F k38 w (fun k => k ≠ g ∧ k ≠ b) A6 ([⟨1, 4, 2⟩] : List S38).length ([⟨1, 4, 2⟩] : List S38)) (hc6 : ([⟨1, 4, 2⟩] : List S38).length ≤ c6) (h7 : Kd.F k42 w (fun k => k ≠ g ∧ k ≠ b) A7 ([⟨5, 1, [97]⟩] : List S42).length ([⟨5, 1, [97]⟩] : List S42)) (hc7 : ([⟨5, 1, [97]⟩] : List S42).length ≤ c7)
 (hck : parcel_Check.f k 1 0 0 0 1 5 ([⟨1, 4, 2⟩] : List S38) ([⟨5, 1, [97]⟩] : List S42) = some 0) (hj1 : stream_Stream_join.f k [] ([⟨1, 4, 2⟩] : List S38) = some K1) (hat : span_At.f k K1 5 = some 0) (hj2 : stream_Stream_join.f k K1 [⟨5, 5, 1⟩] = some K2) (heq : api_Span_42.f k [] K2 = some false) (hB : B ≤ g) (hBb : B ≤ b) (hgb : b ≠ g) (hBw : B ≤ w.heap.size) :
 Calls Try.prog 11 #[.pointer (some ⟨g, 0, none⟩), .agg #[.int .i64 1, .int .i64 0, .int .i64 0, .int .i64 0, .int .i64 1, .int .i64 5, .slice A6 ([⟨1, 4, 2⟩] : List S38).length c6, .slice A7 ([⟨5, 1, [97]⟩] : List S42).length c7]] w fun e w' => e = .returned (.tuple #[.bool true, .int .i64 0]) ∧ ∃ A2 c2 A1 c1, w'.heap[g]? = some (.cells #[.slice A2 K2.length c2, .map (some b)] 81 (0, 0)) ∧ Kd.F k38 w' (fun k => k ≠ g ∧ k ≠ b) A2 K2.length K2 ∧ K2.length ≤ c2 ∧ Mp w' b 1 (.map [(.int .i64 5, .held (.agg #[.int .i64 5, .int .u32 1, .slice A1 1 c1]))]) ∧ Kd.F (Kd.int .u8) w' (fun k => k ≠ g ∧ k ≠ b) A1 1 [97] ∧ 1 ≤ c1 ∧ Below B w w' := by
 have hu := Try.underlying33
 have hus := Try.underlying81
 have hui := Try.underlying42
 have hup := Try.underlying38
 have HCK := Aside0.mk hck
 have HJ1 := Aside0.mk hj1
 have HAT := Aside0.mk hat
 have HJ2 := Aside0.mk hj2
 have HEQ := Aside0.mk heq
 have HC6 := Aside0.mk hc6
 have HC7 := Aside0.mk hc7
 have HBW := Aside0.mk hBw
 have HBG := Aside0.mk hB
 have HBBb := Aside0.mk hBb
 have HGB := Aside0.mk hgb
 have HS0 := Aside0.mk (Nat.le_refl w.heap.size)
 have HQ0 := Aside0.mk (Below.refl B w)
 have BG0 := Aside0.mk hb
 have HM0 := Aside0.mk hm
 have HX0 := Aside0.mk (Kd.F_bound h6)
 have HI0 := Aside0.mk (Kd.F_bound h7)
 have HLG := Aside0.mk (blk_lt hb)
 have HLB := Aside0.mk (World.ownsMap.lt hm)
 clear hck hj1 hat hj2 heq hc6 hc7 hBw hB hBb hgb hb hm h6 h7
 go_enter Try.func11, Try.ntmps11
 go_wp2_with (first | ((with_reducible refine gate_dst (N := 3) rfl ?_); refine box_event ?hg (N := 3) ?hd (cs := #[.int .i64 1, .int .i64 0, .int .i64 0, .int .i64 0, .int .i64 1, .int .i64 5, .slice A6 ([⟨1, 4, 2⟩] : List S38).length c6, .slice A7 ([⟨5, 1, [97]⟩] : List S42).length c7]) (t := 33) ?hr ?_; (case hd => rfl); (case hg => rfl); (case hr => first | (go_simp; done) | (go_simp; rfl)); intro gp hg w1 hbox hb; have HS1 := Aside0.mk (Nat.le_trans HS0.out hb.size); have HQ1 := Aside0.mk (HQ0.out.trans (hb.mono (Nat.le_trans HBW.out HS0.out))); have BG1 := Aside0.mk (blk_below BG0.out hb); have HM1 := Aside0.mk (HM0.out.below hb); have HX1 := Aside0.mk (Kd.F_step HX0.out (fun k_ hk_ hlt_ => hb.block k_ hlt_)); have HI1 := Aside0.mk (Kd.F_step HI0.out (fun k_ hk_ hlt_ => hb.block k_ hlt_)); have Ggp := Aside0.mk (show w.heap.size ≤ gp by (rw [hg]; exact HS0.out)); have Ng_gp := Aside0.mk (show g ≠ gp from fun e_ => absurd (blk_lt BG0.out) (by rw [e_, hg]; exact Nat.lt_irrefl _)); have Egp := Aside0.mk hg; have BP1 := Aside0.mk hbox; have zBP1_0 : w1.cell? ⟨gp, 0, none⟩ = some (.int .i64 1) := (blk_cell BP1.out 0).trans rfl; have fBP1_0 := blk_frozen BP1.out 0; have zBP1_1 : w1.cell? ⟨gp, 1, none⟩ = some (.int .i64 0) := (blk_cell BP1.out 1).trans rfl; have fBP1_1 := blk_frozen BP1.out 1; have zBP1_2 : w1.cell? ⟨gp, 2, none⟩ = some (.int .i64 0) := (blk_cell BP1.out 2).trans rfl; have fBP1_2 := blk_frozen BP1.out 2; have zBP1_3 : w1.cell? ⟨gp, 3, none⟩ = some (.int .i64 0) := (blk_cell BP1.out 3).trans rfl; have fBP1_3 := blk_frozen BP1.out 3; have zBP1_4 : w1.cell? ⟨gp, 4, none⟩ = some (.int .i64 1) := (blk_cell BP1.out 4).trans rfl; have fBP1_4 := blk_frozen BP1.out 4; have zBP1_5 : w1.cell? ⟨gp, 5, none⟩ = some (.int .i64 5) := (blk_cell BP1.out 5).trans rfl; have fBP1_5 := blk_frozen BP1.out 5; have zBP1_6 : w1.cell? ⟨gp, 6, none⟩ = some (.slice A6 ([⟨1, 4, 2⟩] : List S38).length c6) := (blk_cell BP1.out 6).trans rfl; have fBP1_6 := blk_frozen BP1.out 6; have zBP1_7 : w1.cell? ⟨gp, 7, none⟩ = some (.slice A7 ([⟨5, 1, [97]⟩] : List S42).length c7) := (blk_cell BP1.out 7).trans rfl; have fBP1_7 := blk_frozen BP1.out 7; clear hb hbox hg) | ((with_reducible refine gate_dst (N := 16) rfl ?_); (try (refine gate_guard (by rfl) ?_; dsimp only)); refine goesL_ (some 16) rfl rfl Try.func19 (by kernel_rfl) rfl #[.agg #[.int .i64 1, .int .i64 0, .int .i64 0, .int .i64 0, .int .i64 1, .int .i64 5, .slice A6 ([⟨1, 4, 2⟩] : List S38).length c6, .slice A7 ([⟨5, 1, [97]⟩] : List S42).length c7]] rfl (by (try simp only [List.map_toArray, List.map_cons, List.map_nil]); first | done | rfl | (simp only [List.length_drop, List.length_take]; rfl)) ?_; refine (parcel_Check.calls k 1 0 0 0 1 5 A6 c6 ([⟨1, 4, 2⟩] : List S38) A7 c7 ([⟨5, 1, [97]⟩] : List S42) 0 _ (Kd.F_now HX1.out) HC6.out (Kd.F_now HI1.out) HC7.out HCK.out).mono ?_; rintro e_ w2 ⟨rfl, hb⟩; refine ⟨_, rfl, ?_⟩; have HS2 := Aside0.mk (Nat.le_trans HS1.out hb.size); have HQ2 := Aside0.mk (HQ1.out.trans (hb.mono (Nat.le_trans HBW.out HS1.out))); have BG2 := Aside0.mk (blk_below BG1.out hb); have HM2 := Aside0.mk (HM1.out.below hb); have HX2 := Aside0.mk (Kd.F_step HX1.out (fun k_ hk_ hlt_ => hb.block k_ hlt_)); have HI2 := Aside0.mk (Kd.F_step HI1.out (fun k_ hk_ hlt_ => hb.block k_ hlt_)); have BP2 := Aside0.mk (blk_below BP1.out hb); have zg2_0 := (blk_cell BG2.out 0).trans rfl; have zg2_1 := (blk_cell BG2.out 1).trans rfl; have zp2_0 := (blk_cell BP2.out 0).trans rfl; have zp2_6 := (blk_cell BP2.out 6).trans rfl; have zp2_7 := (blk_cell BP2.out 7).trans rfl; clear hb))
 refine start_ (n := 11) (S := fun w' => w'.heap[g]? = some (.cells #[.slice none ([] : List S38).length 0, .map (some b)] 81 (0, 0))) (ds := []) #[false, false, false, false, false, false, false, false, false, false, false] (by kernel_rfl) rfl rfl BG2.out (fun hHeld => ?_)
 refine with_tabW stream_Stream_Learn.tab8 stream_Stream_Learn.bits8 (fun HT_ HW_ => ?_)
 have hb_ : Below w2.heap.size w2 w2.drew := below_drew (Below.refl _ _)
 have HS3 := Aside0.mk (Nat.le_trans HS2.out hb_.size)
 have HQ3 := Aside0.mk (HQ2.out.trans (hb_.mono (Nat.le_trans HBW.out HS2.out)))
 have BG3 := Aside0.mk (blk_below BG2.out hb_)
 have HM3 := Aside0.mk (HM2.out.below hb_)
 have HX3 := Aside0.mk (Kd.F_step HX2.out (fun k_ hk_ hlt_ => hb_.block k_ hlt_))
 have HI3 := Aside0.mk (Kd.F_step HI2.out (fun k_ hk_ hlt_ => hb_.block k_ hlt_))
 have BP3 := Aside0.mk (blk_below BP2.out hb_)
 clear hb_
 generalize w2.drew = w3 at HS3 HQ3 BG3 HM3 HX3 HI3 BP3 hHeld ⊢
 refine pure_ (i := 0) (N := some 23) (v := ?_) (a' := ?_) #[true, false, false, false, false, false, false, false, false, false, false] rfl rfl (any_of HT_.out (by kernel_rfl)) (fun _ _ _ h => h) (Or.inl ⟨by rfl, ?_⟩) ?_ ?_
 rotate_left
 ·
  intro w'
  go_simp
  with_reducible rfl
 rotate_left
 ·
  simp only [Act.put, List.setIfInBounds_toArray, List.set_cons_zero, List.set_cons_succ, i64_w, i32_w]
  rfl
 refine pure_ (i := 1) (N := some 24) (v := ?_) (a' := ?_) #[true, true, false, false, false, false, false, false, false, false, false] rfl rfl (any_of HT_.out (by kernel_rfl)) (fun _ _ _ h => h) (Or.inl ⟨by rfl, ?_⟩) ?_ ?_
 rotate_left
 ·
  intro w'
  go_simp
  with_reducible rfl
 rotate_left
 ·
  simp only [Act.put, List.setIfInBounds_toArray, List.set_cons_zero, List.set_cons_succ, i64_w, i32_w]
  rfl
 refine pure_ (i := 2) (N := some 25) (v := ?_) (a' := ?_) #[true, true, true, false, false, false, false, false, false, false, false] rfl rfl (any_of HT_.out (by kernel_rfl)) (fun _ _ _ h => h) (Or.inl ⟨by rfl, ?_⟩) ?_ ?_
 rotate_left
 ·
  intro w'
  go_simp
  with_reducible rfl
 rotate_left
 ·
  simp only [Act.put, List.setIfInBounds_toArray, List.set_cons_zero, List.set_cons_succ, i64_w, i32_w]
  rfl
 refine take_ (i := 3) (N := some 26) (v := ?_) (a' := ?_) #[true, true, true, true, false, false, false, false, false, false, false] rfl rfl (take_ofW HT_.out HW_.out (by kernel_rfl)) (fun _ _ _ h => h) (Or.inl ⟨by rfl, ?_⟩) hHeld ?_ ?_
 rotate_left
 ·
  rintro w' s0
  have q0_ := (blk_cell s0 0).trans rfl
  have q1_ := (blk_cell s0 1).trans rfl
  go_simp
  with_reducible rfl
 rotate_left
 ·
  simp only [Act.put, List.setIfInBounds_toArray, List.set_cons_zero, List.set_cons_succ, i64_w, i32_w]
  rfl
 refine pure_ (i := 4) (N := some 27) (v := ?_) (a' := ?_) #[true, true, true, true, true, false, false, false, false, false, false] rfl rfl (any_of HT_.out (by kernel_rfl)) (fun _ _ _ h => h) (Or.inl ⟨by rfl, ?_⟩) ?_ ?_
 rotate_left
 ·
  intro w'
  go_simp
  with_reducible rfl
 rotate_left
 ·
  simp only [Act.put, List.setIfInBounds_toArray, List.set_cons_zero, List.set_cons_succ, i64_w, i32_w]
  rfl
 refine pure_ (i := 5) (N := some 28) (v := ?_) (a' := ?_) #[true, true, true, true, true, true, false, false, false, false, false] rfl rfl (any_of HT_.out (by kernel_rfl)) (fun _ _ _ h => h) (Or.inl ⟨by rfl, ?_⟩) ?_ ?_
 rotate_left
 ·
  intro w'
  go_simp
  with_reducible rfl
 rotate_left
 ·
  simp only [Act.put, List.setIfInBounds_toArray, List.set_cons_zero, List.set_cons_succ, i64_w, i32_w]
  rfl
 refine pure_ (i := 6) (N := some 29) (v := ?_) (a' := ?_) #[true, true, true, true, true, true, true, false, false, false, false] rfl rfl (any_of HT_.out (by kernel_rfl)) (fun _ _ _ h => h) (Or.inl ⟨by rfl, ?_⟩) ?_ ?_
 rotate_left
 ·
  intro w'
  go_simp
  with_reducible rfl
 rotate_left
 ·
  simp only [Act.put, List.setIfInBounds_toArray, List.set_cons_zero, List.set_cons_succ, i64_w, i32_w]
  rfl
 refine take_ (i := 7) (N := some 30) (v := ?_) (a' := ?_) #[true, true, true, true, true, true, true, true, false, false, false] rfl rfl (take_ofW HT_.out HW_.out (by kernel_rfl)) (fun _ _ _ h => h) (Or.inl ⟨by rfl, ?_⟩) hHeld ?_ ?_
 rotate_left
 ·
  rintro w' s0
  have q0_ := (blk_cell s0 0).trans rfl
  have q1_ := (blk_cell s0 1).trans rfl
  go_simp
  with_reducible rfl
 rotate_left
 ·
  simp only [Act.put, List.setIfInBounds_toArray, List.set_cons_zero, List.set_cons_succ, i64_w, i32_w]
  rfl
 refine one_ (i := 8) (N := some 31) #[true, true, true, true, true, true, true, true, true, false, false] rfl rfl (one_of HT_.out (by kernel_rfl)) (by decide) (fun K hK => ?_)
 refine goes_ Try.func33 (by kernel_rfl) rfl #[.map (some b)] (by rfl) rfl rfl (by (try simp only [List.map_toArray, List.map_cons, List.map_nil]); first | done | rfl | (simp only [List.length_drop, List.length_take]; rfl)) ?_
 refine (clone_calls b 0 _ _ HM3.out).mono ?_
 rintro e_ w4 ⟨b2, rfl, hm2, hlb2, hb⟩
 refine ⟨_, rfl, ?_⟩
 have HS4 := Aside0.mk (Nat.le_trans HS3.out hb.size)
 have HQ4 := Aside0.mk (HQ3.out.trans (hb.mono (Nat.le_trans HBW.out HS3.out)))
 have BG4 := Aside0.mk (blk_below BG3.out hb)
 have HM4 := Aside0.mk (HM3.out.below hb)
 have HX4 := Aside0.mk (Kd.F_step HX3.out (fun k_ hk_ hlt_ => hb.block k_ hlt_))
 have HI4 := Aside0.mk (Kd.F_step HI3.out (fun k_ hk_ hlt_ => hb.block k_ hlt_))
 have BP4 := Aside0.mk (blk_below BP3.out hb)
 clear hb hm2 hlb2
 refine hK.out _ _ BG4.out (fun hHeld => ?_)
 clear hK K
 refine norm_ (a' := ?_) ?_ ?_
 rotate_left
 ·
  show Act.put _ (some 31) _ = _
  simp only [Act.put, List.setIfInBounds_toArray, List.set_cons_zero, List.set_cons_succ, i64_w, i32_w]
  rfl
 refine pure_ (i := 9) (N := some 7) (v := ?_) (a' := ?_) #[true, true, true, true, true, true, true, true, true, true, false] rfl rfl (any_of HT_.out (by kernel_rfl)) (fun _ _ _ h => h) (Or.inl ⟨by rfl, ?_⟩) ?_ ?_
 rotate_left
 ·
  intro w'
  go_simp
  with_reducible rfl
 rotate_left
 ·
  simp only [Act.put, List.setIfInBounds_toArray, List.set_cons_zero, List.set_cons_succ, i64_w, i32_w]
  rfl
 refine pure_ (i := 10) (N := some 8) (v := ?_) (a' := ?_) #[true, true, true, true, true, true, true, true, true, true, true] rfl rfl (any_of HT_.out (by kernel_rfl)) (fun _ _ _ h => h) (Or.inl ⟨by rfl, ?_⟩) ?_ ?_
 rotate_left
 ·
  intro w'
  go_simp
  with_reducible rfl
 rotate_left
 ·
  simp only [Act.put, List.setIfInBounds_toArray, List.set_cons_zero, List.set_cons_succ, i64_w, i32_w]
  rfl
 refine done_ (done_of HT_.out (by kernel_rfl)) ?_
 have zp4_0 := (blk_cell BP4.out 0).trans rfl
 have zp4_6 := (blk_cell BP4.out 6).trans rfl
 have zp4_7 := (blk_cell BP4.out 7).trans rfl
 have zg4_0 := (blk_cell BG4.out 0).trans rfl
 have zg4_1 := (blk_cell BG4.out 1).trans rfl
 go_wp2_with (first | ((with_reducible refine gate_dst (N := 35) rfl ?_); refine goesL_ (some 35) rfl rfl Try.func34 (by kernel_rfl) rfl #[.pointer (some ⟨g, 0, none⟩), .slice A6 ([⟨1, 4, 2⟩] : List S38).length c6] rfl (by (try simp only [List.map_toArray, List.map_cons, List.map_nil]); first | done | rfl | (simp only [List.length_drop, List.length_take]; rfl)) ?_; refine (stream_Stream_join.calls k B g b none 0 [] A6 c6 ([⟨1, 4, 2⟩] : List S38) K1 _ BG4.out (Kd.C_nil _ _) (Nat.le_refl _) (Kd.F_now HX4.out) HC6.out HJ1.out HBG.out (Nat.le_trans HBW.out HS4.out)).mono ?_; rintro e_ w5 ⟨rfl, Ak, ck, hg2, ho, hk, hb⟩; refine ⟨_, rfl, ?_⟩; have HS5 := Aside0.mk (Nat.le_trans HS4.out hk.1); have HQ5 := Aside0.mk (HQ4.out.trans hb); have HM5 := Aside0.mk (HM4.out.step (hk.2 b (World.ownsMap.lt HM4.out) (HGB.out) (by simp))); have HX5 := Aside0.mk (Kd.F_step HX4.out (fun k_ hk_ hlt_ => hk.2 k_ hlt_ (hk_.1.1) (by simp))); have HI5 := Aside0.mk (Kd.F_step HI4.out (fun k_ hk_ hlt_ => hk.2 k_ hlt_ (hk_.1.1) (by simp))); have BP5 := Aside0.mk (hk.blk BP4.out (Ne.symm Ng_gp.out) (by simp)); have BG5 := Aside0.mk hg2; have HLAk := Aside0.mk (Kd.R_reads' ho).2.1; have HK5 := Aside0.mk (Kd.F_bound (Kd.F_mono (Kd.R_F (Kd.R_mono (Kd.R_bound ho) (ok' := fun k_ => w4.heap.size ≤ k_) (fun _ h_ => h_.2.1))) (ok' := fun k_ => k_ ≠ g ∧ k_ ≠ b) (fun k_ h_ => ⟨by have h1_ := HLG.out; have h2_ := HS4.out; omega, by have h1_ := HLB.out; have h2_ := HS4.out; omega⟩))); have zg5_0 := (blk_cell BG5.out 0).trans rfl; have zg5_1 := (blk_cell BG5.out 1).trans rfl; have zp5_0 := (blk_cell BP5.out 0).trans rfl; have zp5_6 := (blk_cell BP5.out 6).trans rfl; have zp5_7 := (blk_cell BP5.out 7).trans rfl; clear hg2 ho hk hb) | ((with_reducible refine gate_dst (N := 37) rfl ?_); (try (refine gate_guard (by rfl) ?_; dsimp only)); refine goesL_ (some 37) rfl rfl Try.func35 (by kernel_rfl) rfl #[.pointer (some ⟨g, 0, none⟩)] rfl (by (try simp only [List.map_toArray, List.map_cons, List.map_nil]); first | done | rfl | (simp only [List.length_drop, List.length_take]; rfl)) ?_; refine (tidy0_calls g b _ _ BG5.out HM5.out).mono ?_; rintro e_ w6 ⟨rfl, hb⟩; refine ⟨_, rfl, ?_⟩; have HS6 := Aside0.mk (Nat.le_trans HS5.out hb.size); have HQ6 := Aside0.mk (HQ5.out.trans (hb.mono (Nat.le_trans HBW.out HS5.out))); have BG6 := Aside0.mk (blk_below BG5.out hb); have HM6 := Aside0.mk (HM5.out.below hb); have HX6 := Aside0.mk (Kd.F_step HX5.out (fun k_ hk_ hlt_ => hb.block k_ hlt_)); have HI6 := Aside0.mk (Kd.F_step HI5.out (fun k_ hk_ hlt_ => hb.block k_ hlt_)); have BP6 := Aside0.mk (blk_below BP5.out hb); have HK6 := Aside0.mk (Kd.F_step HK5.out (fun k_ hk_ hlt_ => hb.block k_ hlt_)); have zg6_0 := (blk_cell BG6.out 0).trans rfl; have zg6_1 := (blk_cell BG6.out 1).trans rfl; have zp6_0 := (blk_cell BP6.out 0).trans rfl; have zp6_6 := (blk_cell BP6.out 6).trans rfl; have zp6_7 := (blk_cell BP6.out 7).trans rfl; clear hb))
 go_loopg [41] 2 (fun kq v41 w' => ∃ i : Int, v41 = .int .i64 i ∧ Aside0 (2 ≤ kq + i.toNat) ∧ ((i = 0 ∧ Aside0 (w.heap.size ≤ w'.heap.size) ∧ Aside0 (Below B w w') ∧ Aside0 (w'.heap[g]? = some (.cells #[.slice Ak K1.length ck, .map (some b)] 81 (0, 0))) ∧ Aside0 (Mp w' b 0 (.map [])) ∧ Aside0 (Kd.F k42 w' (fun k => (k ≠ g ∧ k ≠ b) ∧ k < w.heap.size) A7 ([⟨5, 1, [97]⟩] : List S42).length ([⟨5, 1, [97]⟩] : List S42)) ∧ Aside0 (Kd.F k38 w' (fun k => (k ≠ g ∧ k ≠ b) ∧ k < w'.heap.size) Ak K1.length K1)) ∨ (∃ A2 c2 A1 c1, i = 1 ∧ Aside0 (w.heap.size ≤ w'.heap.size) ∧ Aside0 (Below B w w') ∧ Aside0 (w'.heap[g]? = some (.cells #[.slice A2 K2.length c2, .map (some b)] 81 (0, 0))) ∧ Aside0 (Mp w' b 1 (.map [(.int .i64 5, .held (.agg #[.int .i64 5, .int .u32 1, .slice A1 1 c1]))])) ∧ Aside0 (Kd.F k38 w' (fun k => (k ≠ g ∧ k ≠ b)) A2 K2.length K2) ∧ Aside0 (K2.length ≤ c2) ∧ Aside0 (Kd.F (Kd.int .u8) w' (fun k => k ≠ g ∧ k ≠ b) A1 1 [97]) ∧ Aside0 (1 ≤ c1))))
 case atStart => exact ⟨0, rfl, ⟨by decide⟩, Or.inl ⟨rfl, HS6, HQ6, BG6, HM6, HI6, ⟨Kd.F_mono (Kd.F_bound HK6.out) (fun _ h_ => ⟨h_.1.1, h_.2⟩)⟩⟩⟩
 case round =>
  obtain ⟨i, rfl, HI_, hcase⟩ := hrel
  rcases hcase with ⟨rfl, HS0, HQ0, BG0, HM0, HI0, HK0⟩ | ⟨A2, c2, A1, c1, rfl, HS0, HQ0, BG0, HM0, HK0, HC2, HB0, HC1⟩
  case inl =>
   obtain ⟨ad, c_, hA, hcl_, hFK, hcc, _⟩ := Kd.F_get HI0.out z42 0 (by decide) (by decide)
   obtain ⟨Ab, cb, rfl, l2, g2⟩ := item_openF hFK
   subst hA
   have q0 : wr.cell? ad = some (.int .i64 5) := hcc 0 _ rfl
   have q1 : wr.cell? ⟨ad.block, ad.off + 1, none⟩ = some (.int .u32 1) := hcc 1 _ rfl
   have q2 : wr.cell? ⟨ad.block, ad.off + 2, none⟩ = some (.slice Ab 1 cb) := hcc 2 _ rfl
   have HG0 := Aside0.mk (show Kd.F (Kd.int .u8) wr (fun k => (k ≠ g ∧ k ≠ b) ∧ k < w.heap.size) Ab ([97] : List Int).length [97] from g2)
   have HL2 := Aside0.mk (show ([97] : List Int).length ≤ cb from l2)
   clear g2 l2 hcl_ hFK hcc
   go_wp2_with (first | ((with_reducible refine gate_dst (N := 10) rfl ?_); refine box_event ?hg (N := 10) ?hd (cs := #[.int .i64 0, .int .u32 0, .slice none 0 0]) (t := 42) ?hr ?_; (case hd => rfl); (case hg => rfl); (case hr => first | (go_simp; done) | (go_simp; rfl)); intro gx hg w1 hbox hb; have HS1 := Aside0.mk (Nat.le_trans HS0.out hb.size); have HQ1 := Aside0.mk (HQ0.out.trans (hb.mono (Nat.le_trans HBW.out HS0.out))); have BG1 := Aside0.mk (blk_below BG0.out hb); have HM1 := Aside0.mk (HM0.out.below hb); have HI1 := Aside0.mk (Kd.F_step HI0.out (fun k_ hk_ hlt_ => hb.block k_ hlt_)); have HK1 := Aside0.mk (Kd.F_step HK0.out (fun k_ hk_ hlt_ => hb.block k_ hlt_)); have HG1 := Aside0.mk (Kd.F_step HG0.out (fun k_ hk_ hlt_ => hb.block k_ hlt_)); have Ggx := Aside0.mk (show w.heap.size ≤ gx by (rw [hg]; exact HS0.out)); have Ng_gx := Aside0.mk (show g ≠ gx from fun e_ => absurd (blk_lt BG0.out) (by rw [e_, hg]; exact Nat.lt_irrefl _)); have Egx := Aside0.mk hg; have BX1 := Aside0.mk hbox; have zBX1_0 : w1.cell? ⟨gx, 0, none⟩ = some (.int .i64 0) := (blk_cell BX1.out 0).trans rfl; have fBX1_0 := blk_frozen BX1.out 0; have zBX1_1 : w1.cell? ⟨gx, 1, none⟩ = some (.int .u32 0) := (blk_cell BX1.out 1).trans rfl; have fBX1_1 := blk_frozen BX1.out 1; have zBX1_2 : w1.cell? ⟨gx, 2, none⟩ = some (.slice none 0 0) := (blk_cell BX1.out 2).trans rfl; have fBX1_2 := blk_frozen BX1.out 2; clear hb hbox hg) | ((with_reducible refine gate_store (t := 42) (p := 10) (v := .tmp 44) rfl ?_); refine store_event rfl (t := 42) (p := 10) (v := .tmp 44) rfl rfl (w1 := (((w1.setCell ⟨gx, 0, none⟩ (.int .i64 5)).setCell ⟨gx, 1, none⟩ (.int .u32 1)).setCell ⟨gx, 2, none⟩ (.slice Ab 1 cb))) ?hr ?_; (case hr => first | (go_simp; done) | (go_simp; rfl)); intro w2 hw_; have BX2 := Aside0.mk (show w2.heap[gx]? = some (.cells #[.int .i64 5, .int .u32 1, .slice Ab 1 cb] 42 (0, 0)) by (rw [hw_]; exact putLe3_0_3 BX1.out (.int .i64 5) (.int .u32 1) (.slice Ab 1 cb))); have hf_ : ∀ i, i ≠ gx → w2.heap[i]? = w1.heap[i]? := fun i hi => (by rw [hw_]; rw [far1L _ _ _ _ _ hi, far1L _ _ _ _ _ hi, far1L _ _ _ _ _ hi]); have HS2 := Aside0.mk (show w.heap.size ≤ w2.heap.size by (rw [hw_]; simpa [World.setCell] using HS1.out)); have HQ2 := Aside0.mk (show Below B w w2 by (rw [hw_]; exact (((HQ1.out).setCell (Nat.le_trans HBW.out Ggx.out) _).setCell (Nat.le_trans HBW.out Ggx.out) _).setCell (Nat.le_trans HBW.out Ggx.out) _)); have BG2 := Aside0.mk ((hf_ g Ng_gx.out).trans BG1.out); have HM2 := Aside0.mk (HM1.out.step (hf_ b (by have h1_ := HLB.out; have h2_ := Ggx.out; omega))); have HI2 := Aside0.mk (Kd.F_step HI1.out (fun k_ hk_ hlt_ => hf_ k_ (by have h1_ := hk_.2; have h2_ := Ggx.out; omega))); have HK2 := Aside0.mk (Kd.F_step HK1.out (fun k_ hk_ hlt_ => hf_ k_ (by have h1_ := hk_.2; have h2_ := Egx.out; omega))); have HG2 := Aside0.mk (Kd.F_step HG1.out (fun k_ hk_ hlt_ => hf_ k_ (by have h1_ := hk_.2; have h2_ := Ggx.out; omega))); clear hf_; have zBX2_0 : w2.cell? ⟨gx, 0, none⟩ = some (.int .i64 5) := (blk_cell BX2.out 0).trans rfl; have fBX2_0 := blk_frozen BX2.out 0; have zBX2_1 : w2.cell? ⟨gx, 1, none⟩ = some (.int .u32 1) := (blk_cell BX2.out 1).trans rfl; have fBX2_1 := blk_frozen BX2.out 1; have zBX2_2 : w2.cell? ⟨gx, 2, none⟩ = some (.slice Ab 1 cb) := (blk_cell BX2.out 2).trans rfl; have fBX2_2 := blk_frozen BX2.out 2; clear hw_))
   refine start_ (n := 7) (S := fun w' => (w'.heap[g]? = some (.cells #[.slice Ak K1.length ck, .map (some b)] 81 (0, 0))) ∧ w'.heap[gx]? = some (.cells #[.int .i64 5, .int .u32 1, .slice Ab 1 cb] 42 (0, 0))) (ds := []) #[false, false, false, false, false, false, false] (by kernel_rfl) rfl rfl ⟨BG2.out, BX2.out⟩ (fun hHeld => ?_)
   refine with_tabW stream_Stream_Learn.tab14 stream_Stream_Learn.bits14 (fun HT_ HW_ => ?_)
   have hb_ : Below w2.heap.size w2 w2.drew := below_drew (Below.refl _ _)
   have HS3 := Aside0.mk (Nat.le_trans HS2.out hb_.size)
   have HQ3 := Aside0.mk (HQ2.out.trans (hb_.mono (Nat.le_trans HBW.out HS2.out)))
   have BG3 := Aside0.mk (blk_below BG2.out hb_)
   have HM3 := Aside0.mk (HM2.out.below hb_)
   have HI3 := Aside0.mk (Kd.F_step HI2.out (fun k_ hk_ hlt_ => hb_.block k_ hlt_))
   have HK3 := Aside0.mk (Kd.F_step HK2.out (fun k_ hk_ hlt_ => hb_.block k_ hlt_))
   have HG3 := Aside0.mk (Kd.F_step HG2.out (fun k_ hk_ hlt_ => hb_.block k_ hlt_))
   have BX3 := Aside0.mk (blk_below BX2.out hb_)
   clear hb_
   generalize w2.drew = w3 at HS3 HQ3 BG3 HM3 HI3 HK3 HG3 BX3 hHeld ⊢
   refine pure_ (i := 0) (N := some 45) (v := ?_) (a' := ?_) #[true, false, false, false, false, false, false] rfl rfl (any_of HT_.out (by kernel_rfl)) (fun _ _ _ h => h) (Or.inl ⟨by rfl, ?_⟩) ?_ ?_
   rotate_left
   ·
    intro w'
    go_simp
    with_reducible rfl
   rotate_left
   ·
    simp only [Act.put, List.setIfInBounds_toArray, List.set_cons_zero, List.set_cons_succ, i64_w, i32_w]
    rfl
   refine pure_ (i := 1) (N := some 46) (v := ?_) (a' := ?_) #[true, true, false, false, false, false, false] rfl rfl (any_of HT_.out (by kernel_rfl)) (fun _ _ _ h => h) (Or.inl ⟨by rfl, ?_⟩) ?_ ?_
   rotate_left
   ·
    intro w'
    go_simp
    with_reducible rfl
   rotate_left
   ·
    simp only [Act.put, List.setIfInBounds_toArray, List.set_cons_zero, List.set_cons_succ, i64_w, i32_w]
    rfl
   refine pure_ (i := 2) (N := some 47) (v := ?_) (a' := ?_) #[true, true, true, false, false, false, false] rfl rfl (any_of HT_.out (by kernel_rfl)) (fun _ _ _ h => h) (Or.inl ⟨by rfl, ?_⟩) ?_ ?_
   rotate_left
   ·
    intro w'
    go_simp
    with_reducible rfl
   rotate_left
   ·
    simp only [Act.put, List.setIfInBounds_toArray, List.set_cons_zero, List.set_cons_succ, i64_w, i32_w]
    rfl
   refine take_ (i := 3) (N := some 48) (v := ?_) (a' := ?_) #[true, true, true, true, false, false, false] rfl rfl (take_ofW HT_.out HW_.out (by kernel_rfl)) (fun _ _ _ h => h) (Or.inl ⟨by rfl, ?_⟩) hHeld ?_ ?_
   rotate_left
   ·
    rintro w' ⟨s0, s1⟩
    have q0_ := (blk_cell s0 0).trans rfl
    have q1_ := (blk_cell s1 0).trans rfl
    go_simp
    with_reducible rfl
   rotate_left
   ·
    simp only [Act.put, List.setIfInBounds_toArray, List.set_cons_zero, List.set_cons_succ, i64_w, i32_w]
    rfl
   refine pure_ (i := 4) (N := some 49) (v := ?_) (a' := ?_) #[true, true, true, true, true, false, false] rfl rfl (any_of HT_.out (by kernel_rfl)) (fun _ _ _ h => h) (Or.inl ⟨by rfl, ?_⟩) ?_ ?_
   rotate_left
   ·
    intro w'
    go_simp
    with_reducible rfl
   rotate_left
   ·
    simp only [Act.put, List.setIfInBounds_toArray, List.set_cons_zero, List.set_cons_succ, i64_w, i32_w]
    rfl
   refine take_ (i := 5) (N := some 50) (v := ?_) (a' := ?_) #[true, true, true, true, true, true, false] rfl rfl (take_ofW HT_.out HW_.out (by kernel_rfl)) (fun _ _ _ h => h) (Or.inl ⟨by rfl, ?_⟩) hHeld ?_ ?_
   rotate_left
   ·
    rintro w' ⟨s0, s1⟩
    have q0_ := (blk_cell s0 0).trans rfl
    have q1_ := (blk_cell s1 0).trans rfl
    go_simp
    with_reducible rfl
   rotate_left
   ·
    simp only [Act.put, List.setIfInBounds_toArray, List.set_cons_zero, List.set_cons_succ, i64_w, i32_w]
    rfl
   refine one_ (i := 6) (N := some 51) #[true, true, true, true, true, true, true] rfl rfl (one_of HT_.out (by kernel_rfl)) (by decide) (fun K hK => ?_)
   refine goes_ Try.func36 (by kernel_rfl) rfl #[.slice Ak K1.length ck, .int .i64 5] (by rfl) rfl rfl (by (try simp only [List.map_toArray, List.map_cons, List.map_nil]); first | done | rfl | (simp only [List.length_drop, List.length_take]; rfl)) ?_
   refine (span_At.calls k Ak ck K1 5 0 _ (Kd.F_now HK3.out) HLAk.out HAT.out).mono ?_
   rintro e_ w4 ⟨rfl, hb⟩
   refine ⟨_, rfl, ?_⟩
   have HS4 := Aside0.mk (Nat.le_trans HS3.out hb.size)
   have HQ4 := Aside0.mk (HQ3.out.trans (hb.mono (Nat.le_trans HBW.out HS3.out)))
   have BG4 := Aside0.mk (blk_below BG3.out hb)
   have HM4 := Aside0.mk (HM3.out.below hb)
   have HI4 := Aside0.mk (Kd.F_step HI3.out (fun k_ hk_ hlt_ => hb.block k_ hlt_))
   have HK4 := Aside0.mk (Kd.F_step HK3.out (fun k_ hk_ hlt_ => hb.block k_ hlt_))
   have HG4 := Aside0.mk (Kd.F_step HG3.out (fun k_ hk_ hlt_ => hb.block k_ hlt_))
   have BX4 := Aside0.mk (blk_below BX3.out hb)
   clear hb
   refine hK.out _ _ ⟨BG4.out, BX4.out⟩ (fun hHeld => ?_)
   clear hK K
   refine norm_ (a' := ?_) ?_ ?_
   rotate_left
   ·
    show Act.put _ (some 51) _ = _
    simp only [Act.put, List.setIfInBounds_toArray, List.set_cons_zero, List.set_cons_succ, i64_w, i32_w]
    rfl
   refine done_ (done_of HT_.out (by kernel_rfl)) ?_
   have zx4_0 := (blk_cell BX4.out 0).trans rfl
   go_wp2_with (first | ((with_reducible refine gate_dst (N := 60) rfl ?_); refine Kd.R_lit k38 (w0 := w4) w4.heap.size 38 ?hg (N := 60) ?hd (xs := ([⟨5, 5, 1⟩] : List S38)) (inner := [.int .i64 5, .int .i64 5, .int .i64 1]) (ok := fun _ => True) (okp := fun _ => True) ?hr ?hp (fun _ hk => hk) trivial (Below.refl _ _) (Nat.le_refl _) (by simp) ?_; (case hd => rfl); (case hg => rfl); (case hr => first | (go_simp; done) | (go_simp; rfl)); (case hp => exact (Reps.snoc (Reps.none _ _) (k38_mkM _ _ _ (⟨5, 5, 1⟩ : S38)) rfl)); intro v3 w5 ho3 hb3 hg3 hnew3; have HS5 := Aside0.mk (Nat.le_trans HS4.out hb3.size); have HQ5 := Aside0.mk (HQ4.out.trans (hb3.mono (Nat.le_trans HBW.out HS4.out))); have BG5 := Aside0.mk (blk_below BG4.out hb3); have HM5 := Aside0.mk (HM4.out.below hb3); have HI5 := Aside0.mk (Kd.F_step HI4.out (fun k_ hk_ hlt_ => hb3.block k_ hlt_)); have HK5 := Aside0.mk (Kd.F_step HK4.out (fun k_ hk_ hlt_ => hb3.block k_ hlt_)); have HG5 := Aside0.mk (Kd.F_step HG4.out (fun k_ hk_ hlt_ => hb3.block k_ hlt_)); have BX5 := Aside0.mk (blk_below BX4.out hb3); obtain ⟨Al, cl_, el⟩ := Kd.R_slice ho3; subst el; have HLR5 := Aside0.mk (Kd.R_reads' ho3); clear ho3 hb3 hg3 hnew3) | ((with_reducible refine gate_dst (N := 61) rfl ?_); refine goesL_ (some 61) rfl rfl Try.func34 (by kernel_rfl) rfl #[.pointer (some ⟨g, 0, none⟩), .slice Al ([⟨5, 5, 1⟩] : List S38).length cl_] rfl (by (try simp only [List.map_toArray, List.map_cons, List.map_nil]); first | done | rfl | (simp only [List.length_drop, List.length_take]; rfl)) ?_; refine (stream_Stream_join.calls k B g b Ak ck K1 Al cl_ ([⟨5, 5, 1⟩] : List S38) K2 _ BG5.out (Kd.F_now HK5.out) HLAk.out HLR5.out.2.2 HLR5.out.2.1 HJ2.out HBG.out (Nat.le_trans HBW.out HS5.out)).mono ?_; rintro e_ w6 ⟨rfl, A2, c2, hg2, ho, hk, hb⟩; refine ⟨_, rfl, ?_⟩; have HS6 := Aside0.mk (Nat.le_trans HS5.out hk.1); have HQ6 := Aside0.mk (HQ5.out.trans hb); have HM6 := Aside0.mk (HM5.out.step (hk.2 b (World.ownsMap.lt HM5.out) (HGB.out) (by simp))); have HI6 := Aside0.mk (Kd.F_step HI5.out (fun k_ hk_ hlt_ => hk.2 k_ hlt_ (hk_.1.1) (by simp))); have HG6 := Aside0.mk (Kd.F_step HG5.out (fun k_ hk_ hlt_ => hk.2 k_ hlt_ (hk_.1.1) (by simp))); have BX6 := Aside0.mk (hk.blk BX5.out (Ne.symm Ng_gx.out) (by simp)); have BG6 := Aside0.mk hg2; have HLA2 := Aside0.mk (Kd.R_reads' ho).2.1; have HN6 := Aside0.mk (Kd.F_bound (Kd.F_mono (Kd.R_F (Kd.R_mono (Kd.R_bound ho) (ok' := fun k_ => w5.heap.size ≤ k_) (fun _ h_ => h_.2.1))) (ok' := fun k_ => k_ ≠ g ∧ k_ ≠ b) (fun k_ h_ => ⟨by have h1_ := HLG.out; have h2_ := HS5.out; omega, by have h1_ := HLB.out; have h2_ := HS5.out; omega⟩))); clear hg2 ho hk hb))
   refine start_ (n := 9) (S := fun w' => (w'.heap[g]? = some (.cells #[.slice A2 K2.length c2, .map (some b)] 81 (0, 0))) ∧ w'.heap[gx]? = some (.cells #[.int .i64 5, .int .u32 1, .slice Ab 1 cb] 42 (0, 0))) (ds := [8]) #[false, false, false, false, false, false, false, false, false] (by kernel_rfl) rfl rfl ⟨BG6.out, BX6.out⟩ (fun hHeld => ?_)
   refine with_tabW stream_Stream_Learn.tab17 stream_Stream_Learn.bits17 (fun HT_ HW_ => ?_)
   have hb_ : Below w6.heap.size w6 w6.drew := below_drew (Below.refl _ _)
   have HS7 := Aside0.mk (Nat.le_trans HS6.out hb_.size)
   have HQ7 := Aside0.mk (HQ6.out.trans (hb_.mono (Nat.le_trans HBW.out HS6.out)))
   have BG7 := Aside0.mk (blk_below BG6.out hb_)
   have HM7 := Aside0.mk (HM6.out.below hb_)
   have HI7 := Aside0.mk (Kd.F_step HI6.out (fun k_ hk_ hlt_ => hb_.block k_ hlt_))
   have HG7 := Aside0.mk (Kd.F_step HG6.out (fun k_ hk_ hlt_ => hb_.block k_ hlt_))
   have BX7 := Aside0.mk (blk_below BX6.out hb_)
   have HN7 := Aside0.mk (Kd.F_step HN6.out (fun k_ hk_ hlt_ => hb_.block k_ hlt_))
   clear hb_
   generalize w6.drew = w7 at HS7 HQ7 BG7 HM7 HI7 HG7 BX7 HN7 hHeld ⊢
   refine pure_ (i := 0) (N := some 62) (v := ?_) (a' := ?_) #[true, false, false, false, false, false, false, false, false] rfl rfl (any_of HT_.out (by kernel_rfl)) (fun _ _ _ h => h) (Or.inl ⟨by rfl, ?_⟩) ?_ ?_
   rotate_left
   ·
    intro w'
    go_simp
    with_reducible rfl
   rotate_left
   ·
    simp only [Act.put, List.setIfInBounds_toArray, List.set_cons_zero, List.set_cons_succ, i64_w, i32_w]
    rfl
   refine pure_ (i := 1) (N := some 63) (v := ?_) (a' := ?_) #[true, true, false, false, false, false, false, false, false] rfl rfl (any_of HT_.out (by kernel_rfl)) (fun _ _ _ h => h) (Or.inl ⟨by rfl, ?_⟩) ?_ ?_
   rotate_left
   ·
    intro w'
    go_simp
    with_reducible rfl
   rotate_left
   ·
    simp only [Act.put, List.setIfInBounds_toArray, List.set_cons_zero, List.set_cons_succ, i64_w, i32_w]
    rfl
   refine pure_ (i := 2) (N := some 64) (v := ?_) (a' := ?_) #[true, true, true, false, false, false, false, false, false] rfl rfl (any_of HT_.out (by kernel_rfl)) (fun _ _ _ h => h) (Or.inl ⟨by rfl, ?_⟩) ?_ ?_
   rotate_left
   ·
    intro w'
    go_simp
    with_reducible rfl
   rotate_left
   ·
    simp only [Act.put, List.setIfInBounds_toArray, List.set_cons_zero, List.set_cons_succ, i64_w, i32_w]
    rfl
   refine take_ (i := 3) (N := some 65) (v := ?_) (a' := ?_) #[true, true, true, true, false, false, false, false, false] rfl rfl (take_ofW HT_.out HW_.out (by kernel_rfl)) (fun _ _ _ h => h) (Or.inl ⟨by rfl, ?_⟩) hHeld ?_ ?_
   rotate_left
   ·
    rintro w' ⟨s0, s1⟩
    have q0_ := (blk_cell s0 1).trans rfl
    have q10_ := (blk_cell s1 0).trans rfl
    have q11_ := (blk_cell s1 1).trans rfl
    have q12_ := (blk_cell s1 2).trans rfl
    go_simp
    with_reducible rfl
   rotate_left
   ·
    simp only [Act.put, List.setIfInBounds_toArray, List.set_cons_zero, List.set_cons_succ, i64_w, i32_w]
    rfl
   refine pure_ (i := 4) (N := some 66) (v := ?_) (a' := ?_) #[true, true, true, true, true, false, false, false, false] rfl rfl (any_of HT_.out (by kernel_rfl)) (fun _ _ _ h => h) (Or.inl ⟨by rfl, ?_⟩) ?_ ?_
   rotate_left
   ·
    intro w'
    go_simp
    with_reducible rfl
   rotate_left
   ·
    simp only [Act.put, List.setIfInBounds_toArray, List.set_cons_zero, List.set_cons_succ, i64_w, i32_w]
    rfl
   refine take_ (i := 5) (N := some 67) (v := ?_) (a' := ?_) #[true, true, true, true, true, true, false, false, false] rfl rfl (take_ofW HT_.out HW_.out (by kernel_rfl)) (fun _ _ _ h => h) (Or.inl ⟨by rfl, ?_⟩) hHeld ?_ ?_
   rotate_left
   ·
    rintro w' ⟨s0, s1⟩
    have q0_ := (blk_cell s0 1).trans rfl
    have q10_ := (blk_cell s1 0).trans rfl
    have q11_ := (blk_cell s1 1).trans rfl
    have q12_ := (blk_cell s1 2).trans rfl
    go_simp
    with_reducible rfl
   rotate_left
   ·
    simp only [Act.put, List.setIfInBounds_toArray, List.set_cons_zero, List.set_cons_succ, i64_w, i32_w]
    rfl
   refine take_ (i := 6) (N := some 68) (v := ?_) (a' := ?_) #[true, true, true, true, true, true, true, false, false] rfl rfl (take_ofW HT_.out HW_.out (by kernel_rfl)) (fun _ _ _ h => h) (Or.inl ⟨by rfl, ?_⟩) hHeld ?_ ?_
   rotate_left
   ·
    rintro w' ⟨s0, s1⟩
    have q0_ := (blk_cell s0 1).trans rfl
    have q10_ := (blk_cell s1 0).trans rfl
    have q11_ := (blk_cell s1 1).trans rfl
    have q12_ := (blk_cell s1 2).trans rfl
    go_simp
    with_reducible rfl
   rotate_left
   ·
    simp only [Act.put, List.setIfInBounds_toArray, List.set_cons_zero, List.set_cons_succ, i64_w, i32_w]
    rfl
   refine one_ (i := 7) (N := some 69) #[true, true, true, true, true, true, true, true, false] rfl rfl (one_of HT_.out (by kernel_rfl)) (by decide) (fun K hK => ?_)
   refine goes_ Try.func37 (by kernel_rfl) rfl #[.agg #[.int .i64 5, .int .u32 1, .slice Ab 1 cb]] (by rfl) rfl rfl (by (try simp only [List.map_toArray, List.map_cons, List.map_nil]); first | done | rfl | (simp only [List.length_drop, List.length_take]; rfl)) ?_
   refine (stream_copied.calls 5 1 Ab cb [97] 5 1 [97] _ (Kd.F_now HG7.out) HL2.out rfl).mono ?_
   rintro e_ w8 ⟨v_, rfl, ho, hb⟩
   refine ⟨_, rfl, ?_⟩
   have HS8 := Aside0.mk (Nat.le_trans HS7.out hb.size)
   have HQ8 := Aside0.mk (HQ7.out.trans (hb.mono (Nat.le_trans HBW.out HS7.out)))
   have BG8 := Aside0.mk (blk_below BG7.out hb)
   have HM8 := Aside0.mk (HM7.out.below hb)
   have HI8 := Aside0.mk (Kd.F_step HI7.out (fun k_ hk_ hlt_ => hb.block k_ hlt_))
   have HG8 := Aside0.mk (Kd.F_step HG7.out (fun k_ hk_ hlt_ => hb.block k_ hlt_))
   have BX8 := Aside0.mk (blk_below BX7.out hb)
   have HN8 := Aside0.mk (Kd.F_step HN7.out (fun k_ hk_ hlt_ => hb.block k_ hlt_))
   obtain ⟨A1, c1, e1⟩ := Kd.R_slice ho
   subst e1
   have HC1 := Aside0.mk (Kd.R_reads' ho).2.1
   have HY8 := Aside0.mk (Kd.F_mono (Kd.R_F (Kd.R_mono (Kd.R_bound ho) (ok' := fun k_ => w7.heap.size ≤ k_) (fun _ h_ => h_.2.1))) (ok' := fun k_ => k_ ≠ g ∧ k_ ≠ b) (fun k_ h_ => ⟨by have h1_ := HLG.out; have h2_ := HS7.out; omega, by have h1_ := HLB.out; have h2_ := HS7.out; omega⟩))
   clear hb ho
   refine hK.out _ _ ⟨BG8.out, BX8.out⟩ (fun hHeld => ?_)
   clear hK K
   refine norm_ (a' := ?_) ?_ ?_
   rotate_left
   ·
    show Act.put _ (some 69) _ = _
    simp only [Act.put, List.setIfInBounds_toArray, List.set_cons_zero, List.set_cons_succ, i64_w, i32_w]
    rfl
   obtain ⟨w9, hrun, hown, hgr⟩ := World.ownsMap.update HM8.out (Go.Maps.int_keyed Try.underlying3) Try.underlying79 (by decide) (key := .int .i64 5) (val := .agg #[.int .i64 5, .int .u32 1, .slice A1 1 c1]) (kl := .int .i64 5) (d := .held (.agg #[.int .i64 5, .int .u32 1, .slice A1 1 c1])) (ps := []) (Go.Maps.keyOf_int_mk Try.underlying3 (by decide)) rfl
   refine last_ (i := 8) (N := none) #[true, true, true, true, true, true, true, true, true] rfl rfl (one_of HT_.out (by kernel_rfl)) (by decide) (fun K hK => ?_)
   refine skip_ (w1 := w9) (by rfl) rfl ?_ ?_
   ·
    simp [execOp, Act.eval, hrun, Result.andThen]
   have HS9 := Aside0.mk (Nat.le_trans HS8.out hgr.size)
   have BG9 := Aside0.mk (blk_grown BG8.out hgr (fun e_ => (fun e__ => HGB.out e__.symm) (Option.some.inj e_)))
   have HI9 := Aside0.mk (Kd.F_step HI8.out (fun k_ hk_ hlt_ => hgr.block k_ hlt_ (fun e_ => absurd (Option.some.inj e_) (hk_.1.2))))
   have HG9 := Aside0.mk (Kd.F_step HG8.out (fun k_ hk_ hlt_ => hgr.block k_ hlt_ (fun e_ => absurd (Option.some.inj e_) (hk_.1.2))))
   have BX9 := Aside0.mk (blk_grown BX8.out hgr (fun e_ => (fun e__ => by have h1_ := HLB.out; have h2_ := Ggx.out; omega) (Option.some.inj e_)))
   have HN9 := Aside0.mk (Kd.F_step HN8.out (fun k_ hk_ hlt_ => hgr.block k_ hlt_ (fun e_ => absurd (Option.some.inj e_) (hk_.1.2))))
   have HY9 := Aside0.mk (Kd.F_step HY8.out (fun k_ hk_ hlt_ => hgr.block k_ hlt_ (fun e_ => absurd (Option.some.inj e_) (hk_.2))))
   have HQ9 := Aside0.mk (HQ8.out.trans (below_map hgr HBBb.out (Nat.le_trans HBW.out HS8.out)))
   have HM9 := Aside0.mk (show Mp w9 b 1 (.map [(.int .i64 5, .held (.agg #[.int .i64 5, .int .u32 1, .slice A1 1 c1]))]) from hown)
   clear hrun hown hgr
   refine hK.out _ _ ?_
   clear hK K
   refine done_ (done_of HT_.out (by kernel_rfl)) ?_
   go_wp2
   cases gk with
   | zero => exact absurd HI_.out (by decide)
   | succ k2 =>
    go_roundg k2
    case measure => omega
    case rel => exact ⟨1, (by first | rfl | decide), ⟨by have h1_ := HI_.out; simp at h1_ ⊢; omega⟩, Or.inr ⟨A2, c2, A1, c1, rfl, HS9, HQ9, BG9, HM9, ⟨Kd.F_mono HN9.out (fun _ h_ => h_.1)⟩, HLA2, HY9, HC1⟩⟩
  have zg0_0 := (blk_cell BG0.out 0).trans rfl
  have zg0_1 := (blk_cell BG0.out 1).trans rfl
  go_wp2
  go_loopg [] 1 (fun kq w' => Aside0 (w.heap.size ≤ w'.heap.size) ∧ Aside0 (Below B w w') ∧ Aside0 (w'.heap[g]? = some (.cells #[.slice A2 K2.length c2, .map (some b)] 81 (0, 0))) ∧ Aside0 (Mp w' b 1 (.map [(.int .i64 5, .held (.agg #[.int .i64 5, .int .u32 1, .slice A1 1 c1]))])) ∧ Aside0 (Kd.F k38 w' (fun k => (k ≠ g ∧ k ≠ b)) A2 K2.length K2) ∧ Aside0 (Kd.F (Kd.int .u8) w' (fun k => k ≠ g ∧ k ≠ b) A1 1 [97]))
  case atStart => exact ⟨HS0, HQ0, BG0, HM0, HK0, HB0⟩
  case round =>
   clear zg0_0 zg0_1 HS0 HQ0 BG0 HM0 HK0 HB0
   obtain ⟨HS0, HQ0, BG0, HM0, HK0, HB0⟩ := hrel
   have zg0_0 := (blk_cell BG0.out 0).trans rfl
   have zg0_1 := (blk_cell BG0.out 1).trans rfl
   have hlen : ∀ ty, (Builtin.len_ #[79] ty #[.map (some b)]).run Try.prog wr = .ok (.int .i64 1) wr := fun ty => World.ownsMap.len HM0.out Try.underlying79 ty
   go_wp2_with (first | ((with_reducible refine gate_dst (N := 113) rfl ?_); (try (refine gate_guard (by rfl) ?_; dsimp only)); refine goesL_ (some 113) rfl rfl Try.func42 (by kernel_rfl) rfl #[.slice none ([] : List S38).length 0, .slice A2 K2.length c2] rfl (by (try simp only [List.map_toArray, List.map_cons, List.map_nil]); first | done | rfl | (simp only [List.length_drop, List.length_take]; rfl)) ?_; refine (api_Span_42.calls k none 0 [] A2 c2 K2 false _ (Kd.C_nil _ _) (Nat.le_refl _) (Kd.F_now HK0.out) HC2.out HEQ.out).mono ?_; rintro e_ w1 ⟨rfl, hd_⟩; refine ⟨_, rfl, ?_⟩; have hb := hd_.below; have HQ1 := Aside0.mk (HQ0.out.trans (hb.mono (Nat.le_trans HBW.out HS0.out))); have BG1 := Aside0.mk (blk_below BG0.out hb); have HM1 := Aside0.mk (HM0.out.below hb); have HK1 := Aside0.mk (Kd.F_below HK0.out hb); have HB1 := Aside0.mk (Kd.F_below HB0.out hb); clear hb hd_) | (refine skip_guard (by rfl) ?_))
   go_ret2
   exact ⟨rfl, A2, c2, A1, c1, BG1.out, HK1.out, HC2.out, HM1.out, HB1.out, HC1.out, HQ1.out⟩


end Go.Proofs.Ytffefaiaifhokaa.PT
