-- PRINTED by gprint.py (a session's own driver over the kit's print): not trusted; Lean checks it.
import Derived.Test.YtpeacoppclmmlaaPUPPx0
import Derived.Test.YtpeacoppclmmlaaPUPPx4
import Derived.Test.YtpeacoppclmmlaaPUPPx6
import Derived.Test.YtpeacoppclmmlaaPUPPx7
import Derived.Test.YtpeacoppclmmlaaPUPPx13
namespace Go.Proofs.Ytpeacoppclmmlaa.PP
open Go.RowKit Go.Proofs.YtpeacoppclmmlaaW.PrintWords Go.Proofs.YtpeacoppclmmlaaW.PrintLast Go.Proofs.YtpeacoppclmmlaaW.PrintMore
set_option linter.unusedVariables false
set_option linter.unusedSimpArgs false

/-! ### grapevinelaw13_ParcelUnused: function 15 -/
-- GIVEN-ALONE: typed by mk_unused.py: the true path alone
/-- Cells written in a block of another type: rows stay. -/
theorem R_farT {α : Type} {d : Kd α} {e base : Nat} {v : Value} {xs : List α} {w w' : World} (h : Kd.R d e w base (fun _ => True) v xs) {g t : Nat} {cs : Array Value} (hb : w.heap[g]? = some (.cells cs t (0, 0))) (ht : ∀ q, q ∈ e :: d.E → q ≠ t) (hf : ∀ i, i ≠ g → w'.heap[i]? = w.heap[i]?) : Kd.R d e w' base (fun _ => True) v xs :=
 Kd.R_mono (Kd.R_step (Kd.R_bound h) (fun k hk _ => hf k (fun e_ => by
  subst e_
  obtain ⟨_, _, _, q, hq, cells, hc⟩ := hk
  rw [hb] at hc
  injection hc with hc
  injection hc with _ hc _
  exact ht q hq hc.symm))) (fun _ _ => trivial)
theorem S_farT {α : Type} {d : Kd α} {e base : Nat} {v : Value} {xs : List α} {w w' : World} (h : Kd.S d e w base (fun _ => True) v xs) {g t : Nat} {cs : Array Value} (hb : w.heap[g]? = some (.cells cs t (0, 0))) (ht : ∀ q, q ∈ e :: d.E → q ≠ t) (hf : ∀ i, i ≠ g → w'.heap[i]? = w.heap[i]?) : Kd.S d e w' base (fun _ => True) v xs :=
 Kd.S_mono (Kd.S_step (Kd.S_bound h) (fun k hk _ => hf k (fun e_ => by
  subst e_
  obtain ⟨_, _, _, q, hq, cells, hc⟩ := hk
  rw [hb] at hc
  injection hc with hc
  injection hc with _ hc _
  exact ht q hq hc.symm))) (fun _ _ => trivial)
theorem far1 (w : World) (g j : Nat) (u : Value) (i : Nat) (h : i ≠ g) : (w.setCell ⟨g, j, none⟩ u).heap[i]? = w.heap[i]? := Below.heap_setCell w ⟨g, j, none⟩ u i h
theorem far8 (w : World) (g : Nat) (c0 c1 c2 c3 c4 c5 c6 c7 : Value) (i : Nat) (h : i ≠ g) : ((((((((w.setCell ⟨g, 0, none⟩ (c0)).setCell ⟨g, 1, none⟩ (c1)).setCell ⟨g, 2, none⟩ (c2)).setCell ⟨g, 3, none⟩ (c3)).setCell ⟨g, 4, none⟩ (c4)).setCell ⟨g, 5, none⟩ (c5)).setCell ⟨g, 6, none⟩ (c6)).setCell ⟨g, 7, none⟩ (c7)).heap[i]? = w.heap[i]? := by
 rw [far1 _ _ _ _ _ h, far1 _ _ _ _ _ h, far1 _ _ _ _ _ h, far1 _ _ _ _ _ h, far1 _ _ _ _ _ h, far1 _ _ _ _ _ h, far1 _ _ _ _ _ h, far1 _ _ _ _ _ h]
theorem ne_spans : ∀ q, q ∈ 43 :: Kd.E k43 → q ≠ 51 := by decide
theorem ne_items : ∀ q, q ∈ 62 :: Kd.E k62 → q ≠ 51 := by decide
def grapevinelaw13_ParcelUnused.f (k : Nat) (a0 a1 a2 a3 a4 a5 : Int) (l6 : List S43) (l7 : List S62) (b0 b1 b2 b3 b4 b5 : Int) (m6 : List S43) (m7 : List S62) : Option Bool :=
 (grapevineref13_Plain.f k a0 a1 a2 a3 a4 a5 l6 l7).bind fun p => (parcel_Put.f k (p.1) (p.2.1) (p.2.2.1) (p.2.2.2.1) (p.2.2.2.2.1) (p.2.2.2.2.2.1) (p.2.2.2.2.2.2.1) (p.2.2.2.2.2.2.2)).bind fun u => (parcel_Put.f k p.1 p.2.1 (if p.1 = 1 ∨ p.1 = 2 then b2 else p.2.2.1) (if p.1 = 1 ∨ p.1 = 2 then b3 else p.2.2.2.1) (if p.1 = 4 ∨ p.1 = 6 then b4 else p.2.2.2.2.1) (if p.1 = 1 ∨ p.1 = 2 then p.2.2.2.2.2.1 else b5) (if p.1 = 1 then p.2.2.2.2.2.2.1 else m6) (if p.1 = 1 then p.2.2.2.2.2.2.2 else m7)).bind fun v => (grapevinelaw13_live.f k).bind fun t =>
  if t = true then (if (strOfNums u.1).toList = (strOfNums v.1).toList then (if u.2 = v.2 then (parcel_Check.f k (p.1) (p.2.1) (p.2.2.1) (p.2.2.2.1) (p.2.2.2.2.1) (p.2.2.2.2.2.1) (p.2.2.2.2.2.2.1) (p.2.2.2.2.2.2.2)).bind fun c => (parcel_Check.f k p.1 p.2.1 (if p.1 = 1 ∨ p.1 = 2 then b2 else p.2.2.1) (if p.1 = 1 ∨ p.1 = 2 then b3 else p.2.2.2.1) (if p.1 = 4 ∨ p.1 = 6 then b4 else p.2.2.2.2.1) (if p.1 = 1 ∨ p.1 = 2 then p.2.2.2.2.2.1 else b5) (if p.1 = 1 then p.2.2.2.2.2.2.1 else m6) (if p.1 = 1 then p.2.2.2.2.2.2.2 else m7)).bind fun d => (if c = d then some true else none) else none) else none) else none
def grapevinelaw13_ParcelUnused.T4 : Bool × List (List Nat × List Nat) := (true, [([], []), ([0], [0]), ([], []), ([2], [2]), ([0, 1], []), ([4, 1, 0, 1], [1, 4]), ([0, 1, 2, 3, 4, 5], []), ([6, 3, 5, 0, 1, 2, 3, 4, 5], [3, 6])])
def grapevinelaw13_ParcelUnused.B4 : List Nat := [0, 1, 0, 4, 3, 19, 63, 127]
theorem grapevinelaw13_ParcelUnused.tab4 : rtab .any (opsOf Try.f15 4) = grapevinelaw13_ParcelUnused.T4 := by kernel_rfl
theorem grapevinelaw13_ParcelUnused.bits4 : waitsOk grapevinelaw13_ParcelUnused.T4.2 grapevinelaw13_ParcelUnused.B4 = true := by kernel_rfl
def grapevinelaw13_ParcelUnused.T6 : Bool × List (List Nat × List Nat) := (true, [([], []), ([0], [0]), ([], []), ([2], [2]), ([0, 1], []), ([4, 1, 0, 1], [1, 4]), ([0, 1, 2, 3, 4, 5], []), ([6, 3, 5, 0, 1, 2, 3, 4, 5], [3, 6])])
def grapevinelaw13_ParcelUnused.B6 : List Nat := [0, 1, 0, 4, 3, 19, 63, 127]
theorem grapevinelaw13_ParcelUnused.tab6 : rtab .any (opsOf Try.f15 6) = grapevinelaw13_ParcelUnused.T6 := by kernel_rfl
theorem grapevinelaw13_ParcelUnused.bits6 : waitsOk grapevinelaw13_ParcelUnused.T6.2 grapevinelaw13_ParcelUnused.B6 = true := by kernel_rfl
def grapevinelaw13_ParcelUnused.T12 : Bool × List (List Nat × List Nat) := (true, [([], []), ([0, 0], [0]), ([1], [1]), ([2, 1], [1, 2]), ([1], [1]), ([4, 1], [1, 4]), ([3, 5, 1], [1, 3, 5]), ([1, 6], [1, 6]), ([7, 1], [7]), ([8], [8]), ([8], [8]), ([9, 10, 8], [8, 9, 10]), ([8, 11], [8, 11]), ([12, 8], [12]), ([13], [13]), ([14, 13, 13], [13, 14]), ([13], [13]), ([16, 15, 13], [13, 16]), ([15, 17, 13], [13, 15, 17]), ([13, 18], [13, 18]), ([19, 17, 0, 1, 2, 3, 4, 5, 6, 7, 8, 9, 10, 11, 12, 13, 14, 15, 16, 17, 18, 19], [19])])
def grapevinelaw13_ParcelUnused.B12 : List Nat := [0, 1, 3, 7, 3, 19, 63, 127, 255, 511, 511, 2047, 4095, 8191, 16383, 32767, 16383, 131071, 262143, 524287, 1048575]
theorem grapevinelaw13_ParcelUnused.tab12 : rtab .any (opsOf Try.f15 12) = grapevinelaw13_ParcelUnused.T12 := by kernel_rfl
theorem grapevinelaw13_ParcelUnused.bits12 : waitsOk grapevinelaw13_ParcelUnused.T12.2 grapevinelaw13_ParcelUnused.B12 = true := by kernel_rfl
set_option maxHeartbeats 16000000 in
set_option maxRecDepth 100000 in
theorem grapevinelaw13_ParcelUnused.calls (k : Nat) (a0_0 : Int) (a0_1 : Int) (a0_2 : Int) (a0_3 : Int) (a0_4 : Int) (a0_5 : Int) (A0_6 : Option Addr) (c0_6 : Nat) (l0_6 : List S43) (A0_7 : Option Addr) (c0_7 : Nat) (l0_7 : List S62) (a1_0 : Int) (a1_1 : Int) (a1_2 : Int) (a1_3 : Int) (a1_4 : Int) (a1_5 : Int) (A1_6 : Option Addr) (c1_6 : Nat) (l1_6 : List S43) (A1_7 : Option Addr) (c1_7 : Nat) (l1_7 : List S62) (r : Bool) (w : World) (hr0_6 : Kd.C k43 w A0_6 l0_6.length l0_6) (hc0_6 : l0_6.length ≤ c0_6) (hr0_7 : Kd.C k62 w A0_7 l0_7.length l0_7) (hc0_7 : l0_7.length ≤ c0_7) (hr1_6 : Kd.C k43 w A1_6 l1_6.length l1_6) (hc1_6 : l1_6.length ≤ c1_6) (hr1_7 : Kd.C k62 w A1_7 l1_7.length l1_7) (hc1_7 : l1_7.length ≤ c1_7) (h : grapevinelaw13_ParcelUnused.f k a0_0 a0_1 a0_2 a0_3 a0_4 a0_5 l0_6 l0_7 a1_0 a1_1 a1_2 a1_3 a1_4 a1_5 l1_6 l1_7 = some r) :
 Calls Try.prog 15 #[.agg #[.int .i64 a0_0, .int .i64 a0_1, .int .i64 a0_2, .int .i64 a0_3, .int .i64 a0_4, .int .i64 a0_5, .slice A0_6 l0_6.length c0_6, .slice A0_7 l0_7.length c0_7], .agg #[.int .i64 a1_0, .int .i64 a1_1, .int .i64 a1_2, .int .i64 a1_3, .int .i64 a1_4, .int .i64 a1_5, .slice A1_6 l1_6.length c1_6, .slice A1_7 l1_7.length c1_7]] w fun e w' => e = .returned (.bool r) ∧ Below w.heap.size w w' := by
 have hu51 := Try.underlying51
 have hu62 := Try.underlying62
 have hu43 := Try.underlying43
 have HR0_6 := Aside0.mk hr0_6
 have HC0_6 := Aside0.mk hc0_6
 clear hr0_6 hc0_6
 have HR0_7 := Aside0.mk hr0_7
 have HC0_7 := Aside0.mk hc0_7
 clear hr0_7 hc0_7
 have HR1_6 := Aside0.mk hr1_6
 have HC1_6 := Aside0.mk hc1_6
 clear hr1_6 hc1_6
 have HR1_7 := Aside0.mk hr1_7
 have HC1_7 := Aside0.mk hc1_7
 clear hr1_7 hc1_7
 unfold grapevinelaw13_ParcelUnused.f at h
 obtain ⟨⟨r1, r2, r3, r4, r5, r6, r7, r8⟩, hp, h⟩ := Option.bind_eq_some_iff.mp h
 obtain ⟨⟨u1, u2⟩, hx, h⟩ := Option.bind_eq_some_iff.mp h
 obtain ⟨⟨v1, v2⟩, hy, h⟩ := Option.bind_eq_some_iff.mp h
 obtain ⟨t, hl, h⟩ := Option.bind_eq_some_iff.mp h
 dsimp only at hx hy h
 have h0 := h
 clear h
 by_cases c1 : t = true
 case neg => rw [if_neg c1] at h0; exact absurd h0 (by simp)
 rw [if_pos c1] at h0
 subst c1
 by_cases c2 : (strOfNums u1).toList = (strOfNums v1).toList
 case neg => rw [if_neg c2] at h0; exact absurd h0 (by simp)
 rw [if_pos c2] at h0
 have c2b0 : ((strOfNums u1).toList == (strOfNums v1).toList) = true := beq_iff_eq.mpr c2
 have c2b1 : ((strOfNums u1).toList != (strOfNums v1).toList) = false := bne_eq_false_iff_eq.mpr c2
 clear c2
 by_cases c3 : u2 = v2
 case neg => rw [if_neg c3] at h0; exact absurd h0 (by simp)
 rw [if_pos c3] at h0
 subst c3
 obtain ⟨c, hcx, h0⟩ := Option.bind_eq_some_iff.mp h0
 obtain ⟨d, hcy, h0⟩ := Option.bind_eq_some_iff.mp h0
 by_cases c4 : c = d
 case neg => rw [if_neg c4] at h0; exact absurd h0 (by simp)
 rw [if_pos c4] at h0
 subst c4
 obtain rfl := Option.some.inj h0
 clear h0
 have HPL := Aside0.mk hp
 have HL := Aside0.mk hl
 have HPX := Aside0.mk hx
 have HCX := Aside0.mk hcx
 clear hp hl hx hcx
 by_cases e1 : r1 = 1
 case pos =>
  subst e1
  simp only [if_pos (show ((1 : Int) = 1 ∨ (1 : Int) = 2) by omega), if_neg (show ¬ ((1 : Int) = 4 ∨ (1 : Int) = 6) by omega), if_pos (show ((1 : Int) = 1) by omega)] at hy hcy
  have HPY := Aside0.mk (show parcel_Put.f k (1 : Int) r2 a1_2 a1_3 r5 r6 r7 r8 = some (v1, u2) from hy)
  have HCY := Aside0.mk (show parcel_Check.f k (1 : Int) r2 a1_2 a1_3 r5 r6 r7 r8 = some c from hcy)
  clear hy hcy
  go_enter Try.func15, Try.ntmps15
  go_wp2_with (first | ((with_reducible refine gate_dst (N := 2) rfl ?_); refine box_event ?hg (N := 2) ?hd (cs := #[.int .i64 a0_0, .int .i64 a0_1, .int .i64 a0_2, .int .i64 a0_3, .int .i64 a0_4, .int .i64 a0_5, .slice A0_6 l0_6.length c0_6, .slice A0_7 l0_7.length c0_7]) (t := 51) ?hr ?_; (case hd => rfl); (case hg => rfl); (case hr => first | (go_simp; done) | (go_simp; rfl)); intro gp hg w1 hbox hb; have HB1 := Aside0.mk hb; have Ggp := Aside0.mk (show w.heap.size ≤ gp by rw [hg]; exact Nat.le_refl _); have BP1 := Aside0.mk hbox; clear hb hbox hg) | ((with_reducible refine gate_dst (N := 3) rfl ?_); refine box_event ?hg (N := 3) ?hd (cs := #[.int .i64 a1_0, .int .i64 a1_1, .int .i64 a1_2, .int .i64 a1_3, .int .i64 a1_4, .int .i64 a1_5, .slice A1_6 l1_6.length c1_6, .slice A1_7 l1_7.length c1_7]) (t := 51) ?hr ?_; (case hd => rfl); (case hg => rfl); (case hr => first | (go_simp; done) | (go_simp; rfl)); intro gq hg w2 hbox hb; have HB2 := Aside0.mk (below_step (by repeat (first | (with_reducible first | exact HB1.out | apply below_alloc | apply pw_below_drewN | apply below_drew1) | exact HB1.out)) hb); have Ggq := Aside0.mk (show w.heap.size ≤ gq by (rw [hg]; exact below_size (by repeat (first | (with_reducible first | exact HB1.out | apply below_alloc | apply pw_below_drewN | apply below_drew1) | exact HB1.out)))); have BQ2 := Aside0.mk hbox; have BP2 := Aside0.mk (blk_below BP1.out hb); have hza_0 : w2.cell? ⟨gp, 0, none⟩ = some (.int .i64 a0_0) := (blk_cell BP2.out 0).trans rfl; have hza_1 : w2.cell? ⟨gp, 1, none⟩ = some (.int .i64 a0_1) := (blk_cell BP2.out 1).trans rfl; have hza_2 : w2.cell? ⟨gp, 2, none⟩ = some (.int .i64 a0_2) := (blk_cell BP2.out 2).trans rfl; have hza_3 : w2.cell? ⟨gp, 3, none⟩ = some (.int .i64 a0_3) := (blk_cell BP2.out 3).trans rfl; have hza_4 : w2.cell? ⟨gp, 4, none⟩ = some (.int .i64 a0_4) := (blk_cell BP2.out 4).trans rfl; have hza_5 : w2.cell? ⟨gp, 5, none⟩ = some (.int .i64 a0_5) := (blk_cell BP2.out 5).trans rfl; have hza_6 : w2.cell? ⟨gp, 6, none⟩ = some (.slice A0_6 l0_6.length c0_6) := (blk_cell BP2.out 6).trans rfl; have hza_7 : w2.cell? ⟨gp, 7, none⟩ = some (.slice A0_7 l0_7.length c0_7) := (blk_cell BP2.out 7).trans rfl; clear hb hbox hg) | ((with_reducible refine gate_dst (N := 12) rfl ?_); refine goesL_ (some 12) rfl rfl Try.func49 (by kernel_rfl) rfl #[.agg #[.int .i64 a0_0, .int .i64 a0_1, .int .i64 a0_2, .int .i64 a0_3, .int .i64 a0_4, .int .i64 a0_5, .slice A0_6 l0_6.length c0_6, .slice A0_7 l0_7.length c0_7]] rfl (by (try simp only [List.map_toArray, List.map_cons, List.map_nil]); first | done | rfl | (simp only [List.length_drop, List.length_take]; rfl)) ?_; (with_reducible refine (grapevineref13_Plain.calls k a0_0 a0_1 a0_2 a0_3 a0_4 a0_5 _ _ l0_6 _ _ l0_7 (1) r2 r3 r4 r5 r6 r7 r8 _ ?s1 HC0_6.out ?s3 HC0_7.out HPL.out).mono ?_); (case s1 => repeat (first | exact (Kd.C_below HR0_6.out HB2.out) | (with_reducible refine Kd.C_alloc ?_ _) | (with_reducible refine Kd.C_drewN ?_ _) | (with_reducible refine Kd.C_drew ?_))); (case s3 => repeat (first | exact (Kd.C_below HR0_7.out HB2.out) | (with_reducible refine Kd.C_alloc ?_ _) | (with_reducible refine Kd.C_drewN ?_ _) | (with_reducible refine Kd.C_drew ?_))); rintro e w3 ⟨v6, v7, rfl, ho6, ho7, hb⟩; refine ⟨_, rfl, ?_⟩; have HB3 := Aside0.mk (below_step HB2.out hb); have BQ3 := Aside0.mk (blk_below BQ2.out hb); have HS3 := Aside0.mk (Kd.R_lower ho6 (below_size HB2.out)); have HI3 := Aside0.mk (Kd.S_lower ho7 (below_size HB2.out)); obtain ⟨A6, c6, e6⟩ := Kd.R_slice HS3.out; subst e6; obtain ⟨A7, c7, e7⟩ := Kd.S_slice HI3.out; subst e7; clear hb ho6 ho7) | ((with_reducible refine gate_dst (N := 5) rfl ?_); refine box_event ?hg (N := 5) ?hd (cs := #[.int .i64 0, .int .i64 0, .int .i64 0, .int .i64 0, .int .i64 0, .int .i64 0, .slice none 0 0, .slice none 0 0]) (t := 51) ?hr ?_; (case hd => rfl); (case hg => rfl); (case hr => first | (go_simp; done) | (go_simp; rfl)); intro gx hg w4 hbox hb; have Nq_x : gq ≠ gx := (fun e_ => absurd (blk_lt BQ3.out) (by rw [e_, hg]; exact Nat.lt_irrefl _)); have HB4 := Aside0.mk (below_step (by repeat (first | (with_reducible first | exact HB3.out | apply below_alloc | apply pw_below_drewN | apply below_drew1) | exact HB3.out)) hb); have Ggx := Aside0.mk (show w.heap.size ≤ gx by (rw [hg]; exact below_size (by repeat (first | (with_reducible first | exact HB3.out | apply below_alloc | apply pw_below_drewN | apply below_drew1) | exact HB3.out)))); have BX4 := Aside0.mk hbox; have BQ4 := Aside0.mk (blk_below BQ3.out hb); have HS4 := Aside0.mk (Kd.R_below HS3.out hb); have HI4 := Aside0.mk (Kd.S_below HI3.out hb); have hzn5_0 : w4.cell? ⟨gx, 0, none⟩ = some (.int .i64 0) := (blk_cell BX4.out 0).trans rfl; have hzn5_1 : w4.cell? ⟨gx, 1, none⟩ = some (.int .i64 0) := (blk_cell BX4.out 1).trans rfl; have hzn5_2 : w4.cell? ⟨gx, 2, none⟩ = some (.int .i64 0) := (blk_cell BX4.out 2).trans rfl; have hzn5_3 : w4.cell? ⟨gx, 3, none⟩ = some (.int .i64 0) := (blk_cell BX4.out 3).trans rfl; have hzn5_4 : w4.cell? ⟨gx, 4, none⟩ = some (.int .i64 0) := (blk_cell BX4.out 4).trans rfl; have hzn5_5 : w4.cell? ⟨gx, 5, none⟩ = some (.int .i64 0) := (blk_cell BX4.out 5).trans rfl; have hzn5_6 : w4.cell? ⟨gx, 6, none⟩ = some (.slice none 0 0) := (blk_cell BX4.out 6).trans rfl; have hzn5_7 : w4.cell? ⟨gx, 7, none⟩ = some (.slice none 0 0) := (blk_cell BX4.out 7).trans rfl; have fzn5_0 := blk_frozen BX4.out 0; have fzn5_1 := blk_frozen BX4.out 1; have fzn5_2 := blk_frozen BX4.out 2; have fzn5_3 := blk_frozen BX4.out 3; have fzn5_4 := blk_frozen BX4.out 4; have fzn5_5 := blk_frozen BX4.out 5; have fzn5_6 := blk_frozen BX4.out 6; have fzn5_7 := blk_frozen BX4.out 7; clear hb hbox hg) | ((with_reducible refine gate_store (t := 51) (p := 5) (v := .tmp 12) rfl ?_); refine store_event rfl (t := 51) (p := 5) (v := .tmp 12) rfl rfl (w1 := ((((((((w4.setCell ⟨gx, 0, none⟩ (.int .i64 (1))).setCell ⟨gx, 1, none⟩ (.int .i64 r2)).setCell ⟨gx, 2, none⟩ (.int .i64 r3)).setCell ⟨gx, 3, none⟩ (.int .i64 r4)).setCell ⟨gx, 4, none⟩ (.int .i64 r5)).setCell ⟨gx, 5, none⟩ (.int .i64 r6)).setCell ⟨gx, 6, none⟩ (.slice A6 r7.length c6)).setCell ⟨gx, 7, none⟩ (.slice A7 r8.length c7))) ?hr ?_; (case hr => first | (go_simp; done) | (go_simp; rfl)); intro w5 hw; have hf : ∀ i, i ≠ gx → w5.heap[i]? = w4.heap[i]? := fun i hi => (by rw [hw]; exact far8 w4 gx (.int .i64 (1)) (.int .i64 r2) (.int .i64 r3) (.int .i64 r4) (.int .i64 r5) (.int .i64 r6) (.slice A6 r7.length c6) (.slice A7 r8.length c7) i hi); have BX5 := Aside0.mk (show w5.heap[gx]? = some (.cells #[.int .i64 (1), .int .i64 r2, .int .i64 r3, .int .i64 r4, .int .i64 r5, .int .i64 r6, .slice A6 r7.length c6, .slice A7 r8.length c7] 51 (0, 0)) by (rw [hw]; exact blk_put (blk_put (blk_put (blk_put (blk_put (blk_put (blk_put (blk_put (BX4.out) 0 _ rfl) 1 _ rfl) 2 _ rfl) 3 _ rfl) 4 _ rfl) 5 _ rfl) 6 _ rfl) 7 _ rfl)); have HB5 := Aside0.mk (show Below w.heap.size w w5 by (rw [hw]; exact below_set (below_set (below_set (below_set (below_set (below_set (below_set (below_set (HB4.out) Ggx.out) Ggx.out) Ggx.out) Ggx.out) Ggx.out) Ggx.out) Ggx.out) Ggx.out)); have BQ5 := Aside0.mk ((hf gq Nq_x).trans BQ4.out); have HS5 := Aside0.mk (R_farT HS4.out BX4.out ne_spans hf); have HI5 := Aside0.mk (S_farT HI4.out BX4.out ne_items hf); have hzxa_0 : w5.cell? ⟨gx, 0, none⟩ = some (.int .i64 (1)) := (blk_cell BX5.out 0).trans rfl; have hzxa_1 : w5.cell? ⟨gx, 1, none⟩ = some (.int .i64 r2) := (blk_cell BX5.out 1).trans rfl; have hzxa_2 : w5.cell? ⟨gx, 2, none⟩ = some (.int .i64 r3) := (blk_cell BX5.out 2).trans rfl; have hzxa_3 : w5.cell? ⟨gx, 3, none⟩ = some (.int .i64 r4) := (blk_cell BX5.out 3).trans rfl; have hzxa_4 : w5.cell? ⟨gx, 4, none⟩ = some (.int .i64 r5) := (blk_cell BX5.out 4).trans rfl; have hzxa_5 : w5.cell? ⟨gx, 5, none⟩ = some (.int .i64 r6) := (blk_cell BX5.out 5).trans rfl; have hzxa_6 : w5.cell? ⟨gx, 6, none⟩ = some (.slice A6 r7.length c6) := (blk_cell BX5.out 6).trans rfl; have hzxa_7 : w5.cell? ⟨gx, 7, none⟩ = some (.slice A7 r8.length c7) := (blk_cell BX5.out 7).trans rfl; clear hw hf) | ((with_reducible refine gate_dst (N := 6) rfl ?_); refine box_event ?hg (N := 6) ?hd (cs := #[.int .i64 0, .int .i64 0, .int .i64 0, .int .i64 0, .int .i64 0, .int .i64 0, .slice none 0 0, .slice none 0 0]) (t := 51) ?hr ?_; (case hd => rfl); (case hg => rfl); (case hr => first | (go_simp; done) | (go_simp; rfl)); intro gy hg w6 hbox hb; have Nq_y : gq ≠ gy := (fun e_ => absurd (blk_lt BQ5.out) (by rw [e_, hg]; exact Nat.lt_irrefl _)); have Nx_y : gx ≠ gy := (fun e_ => absurd (blk_lt BX5.out) (by rw [e_, hg]; exact Nat.lt_irrefl _)); have HB6 := Aside0.mk (below_step (by repeat (first | (with_reducible first | exact HB5.out | apply below_alloc | apply pw_below_drewN | apply below_drew1) | exact HB5.out)) hb); have Ggy := Aside0.mk (show w.heap.size ≤ gy by (rw [hg]; exact below_size (by repeat (first | (with_reducible first | exact HB5.out | apply below_alloc | apply pw_below_drewN | apply below_drew1) | exact HB5.out)))); have BY6 := Aside0.mk hbox; have BX6 := Aside0.mk (blk_below BX5.out hb); have BQ6 := Aside0.mk (blk_below BQ5.out hb); have HS6 := Aside0.mk (Kd.R_below HS5.out hb); have HI6 := Aside0.mk (Kd.S_below HI5.out hb); have hzn6_0 : w6.cell? ⟨gy, 0, none⟩ = some (.int .i64 0) := (blk_cell BY6.out 0).trans rfl; have hzn6_1 : w6.cell? ⟨gy, 1, none⟩ = some (.int .i64 0) := (blk_cell BY6.out 1).trans rfl; have hzn6_2 : w6.cell? ⟨gy, 2, none⟩ = some (.int .i64 0) := (blk_cell BY6.out 2).trans rfl; have hzn6_3 : w6.cell? ⟨gy, 3, none⟩ = some (.int .i64 0) := (blk_cell BY6.out 3).trans rfl; have hzn6_4 : w6.cell? ⟨gy, 4, none⟩ = some (.int .i64 0) := (blk_cell BY6.out 4).trans rfl; have hzn6_5 : w6.cell? ⟨gy, 5, none⟩ = some (.int .i64 0) := (blk_cell BY6.out 5).trans rfl; have hzn6_6 : w6.cell? ⟨gy, 6, none⟩ = some (.slice none 0 0) := (blk_cell BY6.out 6).trans rfl; have hzn6_7 : w6.cell? ⟨gy, 7, none⟩ = some (.slice none 0 0) := (blk_cell BY6.out 7).trans rfl; have fzn6_0 := blk_frozen BY6.out 0; have fzn6_1 := blk_frozen BY6.out 1; have fzn6_2 := blk_frozen BY6.out 2; have fzn6_3 := blk_frozen BY6.out 3; have fzn6_4 := blk_frozen BY6.out 4; have fzn6_5 := blk_frozen BY6.out 5; have fzn6_6 := blk_frozen BY6.out 6; have fzn6_7 := blk_frozen BY6.out 7; clear hb hbox hg) | ((with_reducible refine gate_store (t := 51) (p := 6) (v := .tmp 13) rfl ?_); refine store_event rfl (t := 51) (p := 6) (v := .tmp 13) rfl rfl (w1 := ((((((((w6.setCell ⟨gy, 0, none⟩ (.int .i64 (1))).setCell ⟨gy, 1, none⟩ (.int .i64 r2)).setCell ⟨gy, 2, none⟩ (.int .i64 r3)).setCell ⟨gy, 3, none⟩ (.int .i64 r4)).setCell ⟨gy, 4, none⟩ (.int .i64 r5)).setCell ⟨gy, 5, none⟩ (.int .i64 r6)).setCell ⟨gy, 6, none⟩ (.slice A6 r7.length c6)).setCell ⟨gy, 7, none⟩ (.slice A7 r8.length c7))) ?hr ?_; (case hr => first | (go_simp; done) | (go_simp; rfl)); intro w7 hw; have hf : ∀ i, i ≠ gy → w7.heap[i]? = w6.heap[i]? := fun i hi => (by rw [hw]; exact far8 w6 gy (.int .i64 (1)) (.int .i64 r2) (.int .i64 r3) (.int .i64 r4) (.int .i64 r5) (.int .i64 r6) (.slice A6 r7.length c6) (.slice A7 r8.length c7) i hi); have BY7 := Aside0.mk (show w7.heap[gy]? = some (.cells #[.int .i64 (1), .int .i64 r2, .int .i64 r3, .int .i64 r4, .int .i64 r5, .int .i64 r6, .slice A6 r7.length c6, .slice A7 r8.length c7] 51 (0, 0)) by (rw [hw]; exact blk_put (blk_put (blk_put (blk_put (blk_put (blk_put (blk_put (blk_put (BY6.out) 0 _ rfl) 1 _ rfl) 2 _ rfl) 3 _ rfl) 4 _ rfl) 5 _ rfl) 6 _ rfl) 7 _ rfl)); have HB7 := Aside0.mk (show Below w.heap.size w w7 by (rw [hw]; exact below_set (below_set (below_set (below_set (below_set (below_set (below_set (below_set (HB6.out) Ggy.out) Ggy.out) Ggy.out) Ggy.out) Ggy.out) Ggy.out) Ggy.out) Ggy.out)); have BX7 := Aside0.mk ((hf gx Nx_y).trans BX6.out); have BQ7 := Aside0.mk ((hf gq Nq_y).trans BQ6.out); have HS7 := Aside0.mk (R_farT HS6.out BY6.out ne_spans hf); have HI7 := Aside0.mk (S_farT HI6.out BY6.out ne_items hf); have hzya_0 : w7.cell? ⟨gy, 0, none⟩ = some (.int .i64 (1)) := (blk_cell BY7.out 0).trans rfl; have hzya_1 : w7.cell? ⟨gy, 1, none⟩ = some (.int .i64 r2) := (blk_cell BY7.out 1).trans rfl; have hzya_2 : w7.cell? ⟨gy, 2, none⟩ = some (.int .i64 r3) := (blk_cell BY7.out 2).trans rfl; have hzya_3 : w7.cell? ⟨gy, 3, none⟩ = some (.int .i64 r4) := (blk_cell BY7.out 3).trans rfl; have hzya_4 : w7.cell? ⟨gy, 4, none⟩ = some (.int .i64 r5) := (blk_cell BY7.out 4).trans rfl; have hzya_5 : w7.cell? ⟨gy, 5, none⟩ = some (.int .i64 r6) := (blk_cell BY7.out 5).trans rfl; have hzya_6 : w7.cell? ⟨gy, 6, none⟩ = some (.slice A6 r7.length c6) := (blk_cell BY7.out 6).trans rfl; have hzya_7 : w7.cell? ⟨gy, 7, none⟩ = some (.slice A7 r8.length c7) := (blk_cell BY7.out 7).trans rfl; have hzxb_0 : w7.cell? ⟨gx, 0, none⟩ = some (.int .i64 (1)) := (blk_cell BX7.out 0).trans rfl; clear hw hf))
  refine start_ (n := 8) (S := fun w' => w'.heap[gq]? = some (.cells #[.int .i64 a1_0, .int .i64 a1_1, .int .i64 a1_2, .int .i64 a1_3, .int .i64 a1_4, .int .i64 a1_5, .slice A1_6 l1_6.length c1_6, .slice A1_7 l1_7.length c1_7] 51 (0, 0))) (ds := [7]) #[false, false, false, false, false, false, false, false] (by kernel_rfl) rfl rfl (blk_drew BQ7.out) (fun hHeld => ?_)
  refine with_tabW grapevinelaw13_ParcelUnused.tab6 grapevinelaw13_ParcelUnused.bits6 (fun HT_ HW_ => ?_)
  replace HB7 := Aside0.mk (below_drew1 HB7.out)
  replace BX7 := Aside0.mk (blk_drew BX7.out)
  replace BY7 := Aside0.mk (blk_drew BY7.out)
  replace BQ7 := Aside0.mk (blk_drew BQ7.out)
  replace HS7 := Aside0.mk (Kd.R_drew HS7.out)
  replace HI7 := Aside0.mk (Kd.S_drew HI7.out)
  generalize w7.drew = w8 at HB7 BX7 BY7 BQ7 HS7 HI7 hHeld ⊢
  have HB8 := HB7
  have BX8 := BX7
  have BY8 := BY7
  have BQ8 := BQ7
  have HS8 := HS7
  have HI8 := HI7
  refine pure_ (i := 0) (N := some 31) (v := ?_) (a' := ?_) #[true, false, false, false, false, false, false, false] rfl rfl (any_of HT_.out (by kernel_rfl)) (fun _ _ _ h => h) (Or.inl ⟨by rfl, ?_⟩) ?_ ?_
  rotate_left
  ·
   intro w'
   go_simp
   with_reducible rfl
  rotate_left
  ·
   simp only [Act.put, List.setIfInBounds_toArray, List.set_cons_zero, List.set_cons_succ, i64_w, i32_w]
   rfl
  refine take_ (i := 1) (N := some 32) (v := ?_) (a' := ?_) #[true, true, false, false, false, false, false, false] rfl rfl (take_ofW HT_.out HW_.out (by kernel_rfl)) (fun _ _ _ h => h) (Or.inl ⟨by rfl, ?_⟩) hHeld ?_ ?_
  rotate_left
  ·
   rintro w' s0
   have s1 := (blk_cell s0 2).trans rfl
   go_simp
   with_reducible rfl
  rotate_left
  ·
   simp only [Act.put, List.setIfInBounds_toArray, List.set_cons_zero, List.set_cons_succ, i64_w, i32_w]
   rfl
  refine pure_ (i := 2) (N := some 33) (v := ?_) (a' := ?_) #[true, true, true, false, false, false, false, false] rfl rfl (any_of HT_.out (by kernel_rfl)) (fun _ _ _ h => h) (Or.inl ⟨by rfl, ?_⟩) ?_ ?_
  rotate_left
  ·
   intro w'
   go_simp
   with_reducible rfl
  rotate_left
  ·
   simp only [Act.put, List.setIfInBounds_toArray, List.set_cons_zero, List.set_cons_succ, i64_w, i32_w]
   rfl
  refine take_ (i := 3) (N := some 34) (v := ?_) (a' := ?_) #[true, true, true, true, false, false, false, false] rfl rfl (take_ofW HT_.out HW_.out (by kernel_rfl)) (fun _ _ _ h => h) (Or.inl ⟨by rfl, ?_⟩) hHeld ?_ ?_
  rotate_left
  ·
   rintro w' s0
   have s1 := (blk_cell s0 3).trans rfl
   go_simp
   with_reducible rfl
  rotate_left
  ·
   simp only [Act.put, List.setIfInBounds_toArray, List.set_cons_zero, List.set_cons_succ, i64_w, i32_w]
   rfl
  refine pure_ (i := 4) (N := some 35) (v := ?_) (a' := ?_) #[true, true, true, true, true, false, false, false] rfl rfl (any_of HT_.out (by kernel_rfl)) (fun _ _ _ h => h) (Or.inl ⟨by rfl, ?_⟩) ?_ ?_
  rotate_left
  ·
   intro w'
   go_simp
   with_reducible rfl
  rotate_left
  ·
   simp only [Act.put, List.setIfInBounds_toArray, List.set_cons_zero, List.set_cons_succ, i64_w, i32_w]
   rfl
  refine one_ (i := 5) (N := none) #[true, true, true, true, true, true, false, false] rfl rfl (one_of HT_.out (by kernel_rfl)) (by decide) (fun K hK => ?_)
  have hz_ : w8.cell? ⟨gy, 2, none⟩ = some (.int .i64 r3) := (blk_cell BY8.out 2).trans rfl
  have fz_ := blk_frozen BY8.out 2
  refine skip_ (w1 := w8.setCell ⟨gy, 2, none⟩ (.int .i64 a1_2)) (by rfl) rfl ?_ ?_
  ·
   go_simp
  clear hz_ fz_
  have hf : ∀ i, i ≠ gy → (w8.setCell ⟨gy, 2, none⟩ (.int .i64 a1_2)).heap[i]? = w8.heap[i]? := fun i hi => far1 w8 gy 2 (.int .i64 a1_2) i hi
  have BY9 := Aside0.mk (show (w8.setCell ⟨gy, 2, none⟩ (.int .i64 a1_2)).heap[gy]? = some (.cells #[.int .i64 (1), .int .i64 r2, .int .i64 a1_2, .int .i64 r4, .int .i64 r5, .int .i64 r6, .slice A6 r7.length c6, .slice A7 r8.length c7] 51 (0, 0)) from blk_put BY8.out 2 _ rfl)
  have HB9 := Aside0.mk (show Below w.heap.size w (w8.setCell ⟨gy, 2, none⟩ (.int .i64 a1_2)) from below_set HB8.out Ggy.out)
  have BX9 := Aside0.mk ((hf gx Nx_y).trans BX8.out)
  have BQ9 := Aside0.mk ((hf gq Nq_y).trans BQ8.out)
  have HS9 := Aside0.mk (R_farT HS8.out BY8.out ne_spans hf)
  have HI9 := Aside0.mk (S_farT HI8.out BY8.out ne_items hf)
  clear hf
  refine hK.out _ _ BQ9.out (fun hHeld => ?_)
  clear hK K
  generalize w8.setCell ⟨gy, 2, none⟩ (.int .i64 a1_2) = w9 at HB9 BX9 BY9 BQ9 HS9 HI9 hHeld ⊢
  refine pure_ (i := 6) (N := some 36) (v := ?_) (a' := ?_) #[true, true, true, true, true, true, true, false] rfl rfl (any_of HT_.out (by kernel_rfl)) (fun _ _ _ h => h) (Or.inl ⟨by rfl, ?_⟩) ?_ ?_
  rotate_left
  ·
   intro w'
   go_simp
   with_reducible rfl
  rotate_left
  ·
   simp only [Act.put, List.setIfInBounds_toArray, List.set_cons_zero, List.set_cons_succ, i64_w, i32_w]
   rfl
  refine last_ (i := 7) (N := none) #[true, true, true, true, true, true, true, true] rfl rfl (one_of HT_.out (by kernel_rfl)) (by decide) (fun K hK => ?_)
  have hz_ : w9.cell? ⟨gy, 3, none⟩ = some (.int .i64 r4) := (blk_cell BY9.out 3).trans rfl
  have fz_ := blk_frozen BY9.out 3
  refine skip_ (w1 := w9.setCell ⟨gy, 3, none⟩ (.int .i64 a1_3)) (by rfl) rfl ?_ ?_
  ·
   go_simp
  clear hz_ fz_
  have hf : ∀ i, i ≠ gy → (w9.setCell ⟨gy, 3, none⟩ (.int .i64 a1_3)).heap[i]? = w9.heap[i]? := fun i hi => far1 w9 gy 3 (.int .i64 a1_3) i hi
  have BY10 := Aside0.mk (show (w9.setCell ⟨gy, 3, none⟩ (.int .i64 a1_3)).heap[gy]? = some (.cells #[.int .i64 (1), .int .i64 r2, .int .i64 a1_2, .int .i64 a1_3, .int .i64 r5, .int .i64 r6, .slice A6 r7.length c6, .slice A7 r8.length c7] 51 (0, 0)) from blk_put BY9.out 3 _ rfl)
  have HB10 := Aside0.mk (show Below w.heap.size w (w9.setCell ⟨gy, 3, none⟩ (.int .i64 a1_3)) from below_set HB9.out Ggy.out)
  have BX10 := Aside0.mk ((hf gx Nx_y).trans BX9.out)
  have BQ10 := Aside0.mk ((hf gq Nq_y).trans BQ9.out)
  have HS10 := Aside0.mk (R_farT HS9.out BY9.out ne_spans hf)
  have HI10 := Aside0.mk (S_farT HI9.out BY9.out ne_items hf)
  clear hf
  refine hK.out _ _ ?_
  clear hK K
  generalize w9.setCell ⟨gy, 3, none⟩ (.int .i64 a1_3) = w10 at HB10 BX10 BY10 BQ10 HS10 HI10 ⊢
  refine done_ (done_of HT_.out (by kernel_rfl)) ?_
  clear hHeld
  have hx10_ : w10.cell? ⟨gx, 0, none⟩ = some (.int .i64 (1)) := (blk_cell BX10.out 0).trans rfl
  have hzxc_0 : w10.cell? ⟨gx, 0, none⟩ = some (.int .i64 (1)) := (blk_cell BX10.out 0).trans rfl
  have hzxc_1 : w10.cell? ⟨gx, 1, none⟩ = some (.int .i64 r2) := (blk_cell BX10.out 1).trans rfl
  have hzxc_2 : w10.cell? ⟨gx, 2, none⟩ = some (.int .i64 r3) := (blk_cell BX10.out 2).trans rfl
  have hzxc_3 : w10.cell? ⟨gx, 3, none⟩ = some (.int .i64 r4) := (blk_cell BX10.out 3).trans rfl
  have hzxc_4 : w10.cell? ⟨gx, 4, none⟩ = some (.int .i64 r5) := (blk_cell BX10.out 4).trans rfl
  have hzxc_5 : w10.cell? ⟨gx, 5, none⟩ = some (.int .i64 r6) := (blk_cell BX10.out 5).trans rfl
  have hzxc_6 : w10.cell? ⟨gx, 6, none⟩ = some (.slice A6 r7.length c6) := (blk_cell BX10.out 6).trans rfl
  have hzxc_7 : w10.cell? ⟨gx, 7, none⟩ = some (.slice A7 r8.length c7) := (blk_cell BX10.out 7).trans rfl
  go_wp2_with (first | ((with_reducible refine gate_dst (N := 53) rfl ?_); refine goesL_ (some 53) rfl rfl Try.func47 (by kernel_rfl) rfl #[.agg #[.int .i64 (1), .int .i64 r2, .int .i64 r3, .int .i64 r4, .int .i64 r5, .int .i64 r6, .slice A6 r7.length c6, .slice A7 r8.length c7]] rfl (by (try simp only [List.map_toArray, List.map_cons, List.map_nil]); first | done | rfl | (simp only [List.length_drop, List.length_take]; rfl)) ?_; (with_reducible refine (parcel_Put.calls k (1) r2 r3 r4 r5 r6 _ _ r7 _ _ r8 u1 u2 _ ?s1 ?s2 ?s3 ?s4 HPX.out).mono ?_); (case s1 => exact (Kd.R_reads' HS10.out).2.2); (case s2 => exact (Kd.R_reads' HS10.out).2.1); (case s3 => exact (Kd.S_reads' HI10.out).2.2); (case s4 => exact (Kd.S_reads' HI10.out).2.1); rintro e w11 ⟨vu, rfl, hq, hb⟩; refine ⟨_, rfl, ?_⟩; have HB11 := Aside0.mk (below_step HB10.out hb); have BX11 := Aside0.mk (blk_below BX10.out hb); have BY11 := Aside0.mk (blk_below BY10.out hb); have HS11 := Aside0.mk (Kd.R_below HS10.out hb); have HI11 := Aside0.mk (Kd.S_below HI10.out hb); have HU11 := Aside0.mk (Kd.R_lower hq (below_size HB10.out)); obtain ⟨Au, cu, eu⟩ := Kd.R_slice HU11.out; subst eu; have hzyc_0 : w11.cell? ⟨gy, 0, none⟩ = some (.int .i64 (1)) := (blk_cell BY11.out 0).trans rfl; have hzyc_1 : w11.cell? ⟨gy, 1, none⟩ = some (.int .i64 r2) := (blk_cell BY11.out 1).trans rfl; have hzyc_2 : w11.cell? ⟨gy, 2, none⟩ = some (.int .i64 a1_2) := (blk_cell BY11.out 2).trans rfl; have hzyc_3 : w11.cell? ⟨gy, 3, none⟩ = some (.int .i64 a1_3) := (blk_cell BY11.out 3).trans rfl; have hzyc_4 : w11.cell? ⟨gy, 4, none⟩ = some (.int .i64 r5) := (blk_cell BY11.out 4).trans rfl; have hzyc_5 : w11.cell? ⟨gy, 5, none⟩ = some (.int .i64 r6) := (blk_cell BY11.out 5).trans rfl; have hzyc_6 : w11.cell? ⟨gy, 6, none⟩ = some (.slice A6 r7.length c6) := (blk_cell BY11.out 6).trans rfl; have hzyc_7 : w11.cell? ⟨gy, 7, none⟩ = some (.slice A7 r8.length c7) := (blk_cell BY11.out 7).trans rfl; clear hq hb) | ((with_reducible refine gate_dst (N := 58) rfl ?_); refine goesL_ (some 58) rfl rfl Try.func47 (by kernel_rfl) rfl #[.agg #[.int .i64 (1), .int .i64 r2, .int .i64 a1_2, .int .i64 a1_3, .int .i64 r5, .int .i64 r6, .slice A6 r7.length c6, .slice A7 r8.length c7]] rfl (by (try simp only [List.map_toArray, List.map_cons, List.map_nil]); first | done | rfl | (simp only [List.length_drop, List.length_take]; rfl)) ?_; (with_reducible refine (parcel_Put.calls k (1) r2 a1_2 a1_3 r5 r6 _ _ r7 _ _ r8 v1 u2 _ ?s1 ?s2 ?s3 ?s4 HPY.out).mono ?_); (case s1 => exact (Kd.R_reads' HS11.out).2.2); (case s2 => exact (Kd.R_reads' HS11.out).2.1); (case s3 => exact (Kd.S_reads' HI11.out).2.2); (case s4 => exact (Kd.S_reads' HI11.out).2.1); rintro e w12 ⟨vv, rfl, hq, hb⟩; refine ⟨_, rfl, ?_⟩; have HB12 := Aside0.mk (below_step HB11.out hb); have BX12 := Aside0.mk (blk_below BX11.out hb); have BY12 := Aside0.mk (blk_below BY11.out hb); have HS12 := Aside0.mk (Kd.R_below HS11.out hb); have HI12 := Aside0.mk (Kd.S_below HI11.out hb); have HU12 := Aside0.mk (Kd.R_below HU11.out hb); have HV12 := Aside0.mk (Kd.R_lower hq (below_size HB11.out)); obtain ⟨Av, cv, ev⟩ := Kd.R_slice HV12.out; subst ev; clear hq hb))
  refine start_ (n := 21) (S := fun w' => w'.heap[gx]? = some (.cells #[.int .i64 (1), .int .i64 r2, .int .i64 r3, .int .i64 r4, .int .i64 r5, .int .i64 r6, .slice A6 r7.length c6, .slice A7 r8.length c7] 51 (0, 0)) ∧ w'.heap[gy]? = some (.cells #[.int .i64 (1), .int .i64 r2, .int .i64 a1_2, .int .i64 a1_3, .int .i64 r5, .int .i64 r6, .slice A6 r7.length c6, .slice A7 r8.length c7] 51 (0, 0)) ∧ (Kd.int .u8).C w' Au u1.length u1 ∧ (Kd.int .u8).C w' Av v1.length v1) (ds := []) #[false, false, false, false, false, false, false, false, false, false, false, false, false, false, false, false, false, false, false, false, false] (by kernel_rfl) rfl rfl ⟨blk_drew BX12.out, blk_drew BY12.out, Kd.C_drew (Kd.R_reads' HU12.out).2.2, Kd.C_drew (Kd.R_reads' HV12.out).2.2⟩ (fun hHeld => ?_)
  refine with_tabW grapevinelaw13_ParcelUnused.tab12 grapevinelaw13_ParcelUnused.bits12 (fun HT_ HW_ => ?_)
  replace HB12 := Aside0.mk (below_drew1 HB12.out)
  replace BX12 := Aside0.mk (blk_drew BX12.out)
  replace BY12 := Aside0.mk (blk_drew BY12.out)
  replace HS12 := Aside0.mk (Kd.R_drew HS12.out)
  replace HU12 := Aside0.mk (Kd.R_drew HU12.out)
  replace HV12 := Aside0.mk (Kd.R_drew HV12.out)
  replace HI12 := Aside0.mk (Kd.S_drew HI12.out)
  generalize w12.drew = w13 at HB12 BX12 BY12 HS12 HI12 HU12 HV12 hHeld ⊢
  have HB13 := HB12
  have BX13 := BX12
  have BY13 := BY12
  have HS13 := HS12
  have HI13 := HI12
  have HU13 := HU12
  have HV13 := HV12
  refine one_ (i := 0) (N := some 61) #[true, false, false, false, false, false, false, false, false, false, false, false, false, false, false, false, false, false, false, false, false] rfl rfl (one_of HT_.out (by kernel_rfl)) (by decide) (fun K hK => ?_)
  refine goes_ Try.func44 (by kernel_rfl) rfl #[] (by rfl) rfl rfl (by (try simp only [List.map_toArray, List.map_cons, List.map_nil]); first | done | rfl | (simp only [List.length_drop, List.length_take]; rfl)) ?_
  with_reducible refine (grapevinelaw13_live.calls k true _ HL.out).mono ?_
  rintro e w14 ⟨rfl, hb⟩
  refine ⟨_, rfl, ?_⟩
  have HB14 := Aside0.mk (below_step HB13.out hb)
  have BX14 := Aside0.mk (blk_below BX13.out hb)
  have BY14 := Aside0.mk (blk_below BY13.out hb)
  have HS14 := Aside0.mk (Kd.R_below HS13.out hb)
  have HI14 := Aside0.mk (Kd.S_below HI13.out hb)
  have HU14 := Aside0.mk (Kd.R_below HU13.out hb)
  have HV14 := Aside0.mk (Kd.R_below HV13.out hb)
  clear hb
  refine hK.out _ _ ⟨BX14.out, BY14.out, (Kd.R_reads' HU14.out).2.2, (Kd.R_reads' HV14.out).2.2⟩ (fun hHeld => ?_)
  clear hK K
  refine norm_ (a' := ?_) ?_ ?_
  rotate_left
  ·
   show Act.put _ (some 61) _ = _
   simp only [Act.put, List.setIfInBounds_toArray, List.set_cons_zero, List.set_cons_succ, i64_w, i32_w]
   rfl
  refine pure_ (i := 1) (N := some 62) (v := ?_) (a' := ?_) #[true, true, false, false, false, false, false, false, false, false, false, false, false, false, false, false, false, false, false, false, false] rfl rfl (any_of HT_.out (by kernel_rfl)) (fun _ _ _ h => h) (Or.inl ⟨by rfl, ?_⟩) ?_ ?_
  rotate_left
  ·
   intro w'
   go_simp
   with_reducible rfl
  rotate_left
  ·
   simp only [Act.put, List.setIfInBounds_toArray, List.set_cons_zero, List.set_cons_succ, i64_w, i32_w]
   rfl
  refine pure_ (i := 2) (N := some 63) (v := ?_) (a' := ?_) #[true, true, true, false, false, false, false, false, false, false, false, false, false, false, false, false, false, false, false, false, false] rfl rfl (any_of HT_.out (by kernel_rfl)) (fun _ _ _ h => h) (Or.inl ⟨by rfl, ?_⟩) ?_ ?_
  rotate_left
  ·
   intro w'
   go_simp
   with_reducible rfl
  rotate_left
  ·
   simp only [Act.put, List.setIfInBounds_toArray, List.set_cons_zero, List.set_cons_succ, i64_w, i32_w]
   rfl
  refine take_ (i := 3) (N := some 64) (v := ?_) (a' := ?_) #[true, true, true, true, false, false, false, false, false, false, false, false, false, false, false, false, false, false, false, false, false] rfl rfl (take_ofW HT_.out HW_.out (by kernel_rfl)) (fun _ _ _ h => h) (Or.inl ⟨by rfl, ?_⟩) hHeld ?_ ?_
  rotate_left
  ·
   rintro w' ⟨s0, s1, s2, s3⟩
   go_simp
   rw [Kd.C_string Try.underlying44 Try.underlying5 Try.underlying9 s2]
   first | rfl | (constructor <;> rfl)
  rotate_left
  ·
   simp only [Act.put, List.setIfInBounds_toArray, List.set_cons_zero, List.set_cons_succ, i64_w, i32_w]
   rfl
  refine pure_ (i := 4) (N := some 65) (v := ?_) (a' := ?_) #[true, true, true, true, true, false, false, false, false, false, false, false, false, false, false, false, false, false, false, false, false] rfl rfl (any_of HT_.out (by kernel_rfl)) (fun _ _ _ h => h) (Or.inl ⟨by rfl, ?_⟩) ?_ ?_
  rotate_left
  ·
   intro w'
   go_simp
   with_reducible rfl
  rotate_left
  ·
   simp only [Act.put, List.setIfInBounds_toArray, List.set_cons_zero, List.set_cons_succ, i64_w, i32_w]
   rfl
  refine take_ (i := 5) (N := some 66) (v := ?_) (a' := ?_) #[true, true, true, true, true, true, false, false, false, false, false, false, false, false, false, false, false, false, false, false, false] rfl rfl (take_ofW HT_.out HW_.out (by kernel_rfl)) (fun _ _ _ h => h) (Or.inl ⟨by rfl, ?_⟩) hHeld ?_ ?_
  rotate_left
  ·
   rintro w' ⟨s0, s1, s2, s3⟩
   go_simp
   rw [Kd.C_string Try.underlying44 Try.underlying5 Try.underlying9 s3]
   first | rfl | (constructor <;> rfl)
  rotate_left
  ·
   simp only [Act.put, List.setIfInBounds_toArray, List.set_cons_zero, List.set_cons_succ, i64_w, i32_w]
   rfl
  refine pure_ (i := 6) (N := some 67) (v := ?_) (a' := ?_) #[true, true, true, true, true, true, true, false, false, false, false, false, false, false, false, false, false, false, false, false, false] rfl rfl (any_of HT_.out (by kernel_rfl)) (fun _ _ _ h => h) (Or.inl ⟨by rfl, ?_⟩) ?_ ?_
  rotate_left
  ·
   intro w'
   go_simp
   with_reducible rfl
  rotate_left
  ·
   simp only [Act.put, List.setIfInBounds_toArray, List.set_cons_zero, List.set_cons_succ, i64_w, i32_w]
   rfl
  refine pure_ (i := 7) (N := some 68) (v := ?_) (a' := ?_) #[true, true, true, true, true, true, true, true, false, false, false, false, false, false, false, false, false, false, false, false, false] rfl rfl (any_of HT_.out (by kernel_rfl)) (fun _ _ _ h => h) (Or.inl ⟨by rfl, ?_⟩) ?_ ?_
  rotate_left
  ·
   intro w'
   go_simp
   with_reducible rfl
  rotate_left
  ·
   simp only [Act.put, List.setIfInBounds_toArray, List.set_cons_zero, List.set_cons_succ, i64_w, i32_w]
   rfl
  refine pure_ (i := 8) (N := some 69) (v := ?_) (a' := ?_) #[true, true, true, true, true, true, true, true, true, false, false, false, false, false, false, false, false, false, false, false, false] rfl rfl (any_of HT_.out (by kernel_rfl)) (fun _ _ _ h => h) (Or.inl ⟨by rfl, ?_⟩) ?_ ?_
  rotate_left
  ·
   intro w'
   go_simp
   with_reducible rfl
  rotate_left
  ·
   simp only [Act.put, List.setIfInBounds_toArray, List.set_cons_zero, List.set_cons_succ, i64_w, i32_w]
   rfl
  refine pure_ (i := 9) (N := some 70) (v := ?_) (a' := ?_) #[true, true, true, true, true, true, true, true, true, true, false, false, false, false, false, false, false, false, false, false, false] rfl rfl (any_of HT_.out (by kernel_rfl)) (fun _ _ _ h => h) (Or.inl ⟨by rfl, ?_⟩) ?_ ?_
  rotate_left
  ·
   intro w'
   go_simp
   with_reducible rfl
  rotate_left
  ·
   simp only [Act.put, List.setIfInBounds_toArray, List.set_cons_zero, List.set_cons_succ, i64_w, i32_w]
   rfl
  refine pure_ (i := 10) (N := some 71) (v := ?_) (a' := ?_) #[true, true, true, true, true, true, true, true, true, true, true, false, false, false, false, false, false, false, false, false, false] rfl rfl (any_of HT_.out (by kernel_rfl)) (fun _ _ _ h => h) (Or.inl ⟨by rfl, ?_⟩) ?_ ?_
  rotate_left
  ·
   intro w'
   go_simp
   with_reducible rfl
  rotate_left
  ·
   simp only [Act.put, List.setIfInBounds_toArray, List.set_cons_zero, List.set_cons_succ, i64_w, i32_w]
   rfl
  refine pure_ (i := 11) (N := some 72) (v := ?_) (a' := ?_) #[true, true, true, true, true, true, true, true, true, true, true, true, false, false, false, false, false, false, false, false, false] rfl rfl (any_of HT_.out (by kernel_rfl)) (fun _ _ _ h => h) (Or.inl ⟨by rfl, ?_⟩) ?_ ?_
  rotate_left
  ·
   intro w'
   go_simp
   with_reducible rfl
  rotate_left
  ·
   simp only [Act.put, List.setIfInBounds_toArray, List.set_cons_zero, List.set_cons_succ, i64_w, i32_w]
   rfl
  refine pure_ (i := 12) (N := some 73) (v := ?_) (a' := ?_) #[true, true, true, true, true, true, true, true, true, true, true, true, true, false, false, false, false, false, false, false, false] rfl rfl (any_of HT_.out (by kernel_rfl)) (fun _ _ _ h => h) (Or.inl ⟨by rfl, ?_⟩) ?_ ?_
  rotate_left
  ·
   intro w'
   go_simp
   with_reducible rfl
  rotate_left
  ·
   simp only [Act.put, List.setIfInBounds_toArray, List.set_cons_zero, List.set_cons_succ, i64_w, i32_w]
   rfl
  refine pure_ (i := 13) (N := some 74) (v := ?_) (a' := ?_) #[true, true, true, true, true, true, true, true, true, true, true, true, true, true, false, false, false, false, false, false, false] rfl rfl (any_of HT_.out (by kernel_rfl)) (fun _ _ _ h => h) (Or.inl ⟨by rfl, ?_⟩) ?_ ?_
  rotate_left
  ·
   intro w'
   go_simp
   with_reducible rfl
  rotate_left
  ·
   simp only [Act.put, List.setIfInBounds_toArray, List.set_cons_zero, List.set_cons_succ, i64_w, i32_w]
   rfl
  refine take_ (i := 14) (N := some 75) (v := ?_) (a' := ?_) #[true, true, true, true, true, true, true, true, true, true, true, true, true, true, true, false, false, false, false, false, false] rfl rfl (take_ofW HT_.out HW_.out (by kernel_rfl)) (fun _ _ _ h => h) (Or.inl ⟨by rfl, ?_⟩) hHeld ?_ ?_
  rotate_left
  ·
   rintro w' ⟨s0, s1, s2, s3⟩
   have q0_ := (blk_cell s0 0).trans rfl
   have q1_ := (blk_cell s0 1).trans rfl
   have q2_ := (blk_cell s0 2).trans rfl
   have q3_ := (blk_cell s0 3).trans rfl
   have q4_ := (blk_cell s0 4).trans rfl
   have q5_ := (blk_cell s0 5).trans rfl
   have q6_ := (blk_cell s0 6).trans rfl
   have q7_ := (blk_cell s0 7).trans rfl
   go_simp
   with_reducible rfl
  rotate_left
  ·
   simp only [Act.put, List.setIfInBounds_toArray, List.set_cons_zero, List.set_cons_succ, i64_w, i32_w]
   rfl
  refine take_ (i := 16) (N := some 77) (v := ?_) (a' := ?_) #[true, true, true, true, true, true, true, true, true, true, true, true, true, true, true, false, true, false, false, false, false] rfl rfl (take_ofW HT_.out HW_.out (by kernel_rfl)) (fun _ _ _ h => h) (Or.inl ⟨by rfl, ?_⟩) hHeld ?_ ?_
  rotate_left
  ·
   rintro w' ⟨s0, s1, s2, s3⟩
   have q0_ := (blk_cell s1 0).trans rfl
   have q1_ := (blk_cell s1 1).trans rfl
   have q2_ := (blk_cell s1 2).trans rfl
   have q3_ := (blk_cell s1 3).trans rfl
   have q4_ := (blk_cell s1 4).trans rfl
   have q5_ := (blk_cell s1 5).trans rfl
   have q6_ := (blk_cell s1 6).trans rfl
   have q7_ := (blk_cell s1 7).trans rfl
   go_simp
   with_reducible rfl
  rotate_left
  ·
   simp only [Act.put, List.setIfInBounds_toArray, List.set_cons_zero, List.set_cons_succ, i64_w, i32_w]
   rfl
  refine one_ (i := 15) (N := some 76) #[true, true, true, true, true, true, true, true, true, true, true, true, true, true, true, true, true, false, false, false, false] rfl rfl (one_of HT_.out (by kernel_rfl)) (by decide) (fun K hK => ?_)
  refine goes_ Try.func45 (by kernel_rfl) rfl #[.agg #[.int .i64 (1), .int .i64 r2, .int .i64 r3, .int .i64 r4, .int .i64 r5, .int .i64 r6, .slice A6 r7.length c6, .slice A7 r8.length c7]] (by rfl) rfl rfl (by (try simp only [List.map_toArray, List.map_cons, List.map_nil]); first | done | rfl | (simp only [List.length_drop, List.length_take]; rfl)) ?_
  with_reducible refine (parcel_Check.calls k (1) r2 r3 r4 r5 r6 _ _ r7 _ _ r8 c _ ?s1 ?s2 ?s3 ?s4 HCX.out).mono ?_
  case s1 => exact (Kd.R_reads' HS14.out).2.2
  case s2 => exact (Kd.R_reads' HS14.out).2.1
  case s3 => exact (Kd.S_reads' HI14.out).2.2
  case s4 => exact (Kd.S_reads' HI14.out).2.1
  rintro e w15 ⟨rfl, hb⟩
  refine ⟨_, rfl, ?_⟩
  have HB15 := Aside0.mk (below_step HB14.out hb)
  have BX15 := Aside0.mk (blk_below BX14.out hb)
  have BY15 := Aside0.mk (blk_below BY14.out hb)
  have HS15 := Aside0.mk (Kd.R_below HS14.out hb)
  have HI15 := Aside0.mk (Kd.S_below HI14.out hb)
  have HU15 := Aside0.mk (Kd.R_below HU14.out hb)
  have HV15 := Aside0.mk (Kd.R_below HV14.out hb)
  clear hb
  refine hK.out _ _ ⟨BX15.out, BY15.out, (Kd.R_reads' HU15.out).2.2, (Kd.R_reads' HV15.out).2.2⟩ (fun hHeld => ?_)
  clear hK K
  refine norm_ (a' := ?_) ?_ ?_
  rotate_left
  ·
   show Act.put _ (some 76) _ = _
   simp only [Act.put, List.setIfInBounds_toArray, List.set_cons_zero, List.set_cons_succ, i64_w, i32_w]
   rfl
  refine one_ (i := 17) (N := some 78) #[true, true, true, true, true, true, true, true, true, true, true, true, true, true, true, true, true, true, false, false, false] rfl rfl (one_of HT_.out (by kernel_rfl)) (by decide) (fun K hK => ?_)
  refine goes_ Try.func45 (by kernel_rfl) rfl #[.agg #[.int .i64 (1), .int .i64 r2, .int .i64 a1_2, .int .i64 a1_3, .int .i64 r5, .int .i64 r6, .slice A6 r7.length c6, .slice A7 r8.length c7]] (by rfl) rfl rfl (by (try simp only [List.map_toArray, List.map_cons, List.map_nil]); first | done | rfl | (simp only [List.length_drop, List.length_take]; rfl)) ?_
  with_reducible refine (parcel_Check.calls k (1) r2 a1_2 a1_3 r5 r6 _ _ r7 _ _ r8 c _ ?s1 ?s2 ?s3 ?s4 HCY.out).mono ?_
  case s1 => exact (Kd.R_reads' HS15.out).2.2
  case s2 => exact (Kd.R_reads' HS15.out).2.1
  case s3 => exact (Kd.S_reads' HI15.out).2.2
  case s4 => exact (Kd.S_reads' HI15.out).2.1
  rintro e w16 ⟨rfl, hb⟩
  refine ⟨_, rfl, ?_⟩
  have HB16 := Aside0.mk (below_step HB15.out hb)
  have BX16 := Aside0.mk (blk_below BX15.out hb)
  have BY16 := Aside0.mk (blk_below BY15.out hb)
  have HS16 := Aside0.mk (Kd.R_below HS15.out hb)
  have HI16 := Aside0.mk (Kd.S_below HI15.out hb)
  have HU16 := Aside0.mk (Kd.R_below HU15.out hb)
  have HV16 := Aside0.mk (Kd.R_below HV15.out hb)
  clear hb
  refine hK.out _ _ ⟨BX16.out, BY16.out, (Kd.R_reads' HU16.out).2.2, (Kd.R_reads' HV16.out).2.2⟩ (fun hHeld => ?_)
  clear hK K
  refine norm_ (a' := ?_) ?_ ?_
  rotate_left
  ·
   show Act.put _ (some 78) _ = _
   simp only [Act.put, List.setIfInBounds_toArray, List.set_cons_zero, List.set_cons_succ, i64_w, i32_w]
   rfl
  refine pure_ (i := 18) (N := some 79) (v := ?_) (a' := ?_) #[true, true, true, true, true, true, true, true, true, true, true, true, true, true, true, true, true, true, true, false, false] rfl rfl (any_of HT_.out (by kernel_rfl)) (fun _ _ _ h => h) (Or.inl ⟨by rfl, ?_⟩) ?_ ?_
  rotate_left
  ·
   intro w'
   go_simp
   with_reducible rfl
  rotate_left
  ·
   simp only [Act.put, List.setIfInBounds_toArray, List.set_cons_zero, List.set_cons_succ, i64_w, i32_w]
   rfl
  refine pure_ (i := 19) (N := some 80) (v := ?_) (a' := ?_) #[true, true, true, true, true, true, true, true, true, true, true, true, true, true, true, true, true, true, true, true, false] rfl rfl (any_of HT_.out (by kernel_rfl)) (fun _ _ _ h => h) (Or.inl ⟨by rfl, ?_⟩) ?_ ?_
  rotate_left
  ·
   intro w'
   go_simp
   with_reducible rfl
  rotate_left
  ·
   simp only [Act.put, List.setIfInBounds_toArray, List.set_cons_zero, List.set_cons_succ, i64_w, i32_w]
   rfl
  refine pure_ (i := 20) (N := some 4) (v := ?_) (a' := ?_) #[true, true, true, true, true, true, true, true, true, true, true, true, true, true, true, true, true, true, true, true, true] rfl rfl (any_of HT_.out (by kernel_rfl)) (fun _ _ _ h => h) (Or.inl ⟨by rfl, ?_⟩) ?_ ?_
  rotate_left
  ·
   intro w'
   go_simp
   with_reducible rfl
  rotate_left
  ·
   simp only [Act.put, List.setIfInBounds_toArray, List.set_cons_zero, List.set_cons_succ, i64_w, i32_w]
   rfl
  refine done_ (done_of HT_.out (by kernel_rfl)) ?_
  go_wp2
  go_ret
  exact ⟨rfl, HB16.out⟩
 by_cases e2 : r1 = 2
 case pos =>
  subst e2
  simp only [if_pos (show ((2 : Int) = 1 ∨ (2 : Int) = 2) by omega), if_neg (show ¬ ((2 : Int) = 4 ∨ (2 : Int) = 6) by omega), if_neg (show ¬ ((2 : Int) = 1) by omega)] at hy hcy
  have HPY := Aside0.mk (show parcel_Put.f k (2 : Int) r2 a1_2 a1_3 r5 r6 l1_6 l1_7 = some (v1, u2) from hy)
  have HCY := Aside0.mk (show parcel_Check.f k (2 : Int) r2 a1_2 a1_3 r5 r6 l1_6 l1_7 = some c from hcy)
  clear hy hcy
  go_enter Try.func15, Try.ntmps15
  go_wp2_with (first | ((with_reducible refine gate_dst (N := 2) rfl ?_); refine box_event ?hg (N := 2) ?hd (cs := #[.int .i64 a0_0, .int .i64 a0_1, .int .i64 a0_2, .int .i64 a0_3, .int .i64 a0_4, .int .i64 a0_5, .slice A0_6 l0_6.length c0_6, .slice A0_7 l0_7.length c0_7]) (t := 51) ?hr ?_; (case hd => rfl); (case hg => rfl); (case hr => first | (go_simp; done) | (go_simp; rfl)); intro gp hg w1 hbox hb; have HB1 := Aside0.mk hb; have Ggp := Aside0.mk (show w.heap.size ≤ gp by rw [hg]; exact Nat.le_refl _); have BP1 := Aside0.mk hbox; clear hb hbox hg) | ((with_reducible refine gate_dst (N := 3) rfl ?_); refine box_event ?hg (N := 3) ?hd (cs := #[.int .i64 a1_0, .int .i64 a1_1, .int .i64 a1_2, .int .i64 a1_3, .int .i64 a1_4, .int .i64 a1_5, .slice A1_6 l1_6.length c1_6, .slice A1_7 l1_7.length c1_7]) (t := 51) ?hr ?_; (case hd => rfl); (case hg => rfl); (case hr => first | (go_simp; done) | (go_simp; rfl)); intro gq hg w2 hbox hb; have HB2 := Aside0.mk (below_step (by repeat (first | (with_reducible first | exact HB1.out | apply below_alloc | apply pw_below_drewN | apply below_drew1) | exact HB1.out)) hb); have Ggq := Aside0.mk (show w.heap.size ≤ gq by (rw [hg]; exact below_size (by repeat (first | (with_reducible first | exact HB1.out | apply below_alloc | apply pw_below_drewN | apply below_drew1) | exact HB1.out)))); have BQ2 := Aside0.mk hbox; have BP2 := Aside0.mk (blk_below BP1.out hb); have hza_0 : w2.cell? ⟨gp, 0, none⟩ = some (.int .i64 a0_0) := (blk_cell BP2.out 0).trans rfl; have hza_1 : w2.cell? ⟨gp, 1, none⟩ = some (.int .i64 a0_1) := (blk_cell BP2.out 1).trans rfl; have hza_2 : w2.cell? ⟨gp, 2, none⟩ = some (.int .i64 a0_2) := (blk_cell BP2.out 2).trans rfl; have hza_3 : w2.cell? ⟨gp, 3, none⟩ = some (.int .i64 a0_3) := (blk_cell BP2.out 3).trans rfl; have hza_4 : w2.cell? ⟨gp, 4, none⟩ = some (.int .i64 a0_4) := (blk_cell BP2.out 4).trans rfl; have hza_5 : w2.cell? ⟨gp, 5, none⟩ = some (.int .i64 a0_5) := (blk_cell BP2.out 5).trans rfl; have hza_6 : w2.cell? ⟨gp, 6, none⟩ = some (.slice A0_6 l0_6.length c0_6) := (blk_cell BP2.out 6).trans rfl; have hza_7 : w2.cell? ⟨gp, 7, none⟩ = some (.slice A0_7 l0_7.length c0_7) := (blk_cell BP2.out 7).trans rfl; clear hb hbox hg) | ((with_reducible refine gate_dst (N := 12) rfl ?_); refine goesL_ (some 12) rfl rfl Try.func49 (by kernel_rfl) rfl #[.agg #[.int .i64 a0_0, .int .i64 a0_1, .int .i64 a0_2, .int .i64 a0_3, .int .i64 a0_4, .int .i64 a0_5, .slice A0_6 l0_6.length c0_6, .slice A0_7 l0_7.length c0_7]] rfl (by (try simp only [List.map_toArray, List.map_cons, List.map_nil]); first | done | rfl | (simp only [List.length_drop, List.length_take]; rfl)) ?_; (with_reducible refine (grapevineref13_Plain.calls k a0_0 a0_1 a0_2 a0_3 a0_4 a0_5 _ _ l0_6 _ _ l0_7 (2) r2 r3 r4 r5 r6 r7 r8 _ ?s1 HC0_6.out ?s3 HC0_7.out HPL.out).mono ?_); (case s1 => repeat (first | exact (Kd.C_below HR0_6.out HB2.out) | (with_reducible refine Kd.C_alloc ?_ _) | (with_reducible refine Kd.C_drewN ?_ _) | (with_reducible refine Kd.C_drew ?_))); (case s3 => repeat (first | exact (Kd.C_below HR0_7.out HB2.out) | (with_reducible refine Kd.C_alloc ?_ _) | (with_reducible refine Kd.C_drewN ?_ _) | (with_reducible refine Kd.C_drew ?_))); rintro e w3 ⟨v6, v7, rfl, ho6, ho7, hb⟩; refine ⟨_, rfl, ?_⟩; have HB3 := Aside0.mk (below_step HB2.out hb); have BQ3 := Aside0.mk (blk_below BQ2.out hb); have HS3 := Aside0.mk (Kd.R_lower ho6 (below_size HB2.out)); have HI3 := Aside0.mk (Kd.S_lower ho7 (below_size HB2.out)); obtain ⟨A6, c6, e6⟩ := Kd.R_slice HS3.out; subst e6; obtain ⟨A7, c7, e7⟩ := Kd.S_slice HI3.out; subst e7; clear hb ho6 ho7) | ((with_reducible refine gate_dst (N := 5) rfl ?_); refine box_event ?hg (N := 5) ?hd (cs := #[.int .i64 0, .int .i64 0, .int .i64 0, .int .i64 0, .int .i64 0, .int .i64 0, .slice none 0 0, .slice none 0 0]) (t := 51) ?hr ?_; (case hd => rfl); (case hg => rfl); (case hr => first | (go_simp; done) | (go_simp; rfl)); intro gx hg w4 hbox hb; have Nq_x : gq ≠ gx := (fun e_ => absurd (blk_lt BQ3.out) (by rw [e_, hg]; exact Nat.lt_irrefl _)); have HB4 := Aside0.mk (below_step (by repeat (first | (with_reducible first | exact HB3.out | apply below_alloc | apply pw_below_drewN | apply below_drew1) | exact HB3.out)) hb); have Ggx := Aside0.mk (show w.heap.size ≤ gx by (rw [hg]; exact below_size (by repeat (first | (with_reducible first | exact HB3.out | apply below_alloc | apply pw_below_drewN | apply below_drew1) | exact HB3.out)))); have BX4 := Aside0.mk hbox; have BQ4 := Aside0.mk (blk_below BQ3.out hb); have HS4 := Aside0.mk (Kd.R_below HS3.out hb); have HI4 := Aside0.mk (Kd.S_below HI3.out hb); have hzn5_0 : w4.cell? ⟨gx, 0, none⟩ = some (.int .i64 0) := (blk_cell BX4.out 0).trans rfl; have hzn5_1 : w4.cell? ⟨gx, 1, none⟩ = some (.int .i64 0) := (blk_cell BX4.out 1).trans rfl; have hzn5_2 : w4.cell? ⟨gx, 2, none⟩ = some (.int .i64 0) := (blk_cell BX4.out 2).trans rfl; have hzn5_3 : w4.cell? ⟨gx, 3, none⟩ = some (.int .i64 0) := (blk_cell BX4.out 3).trans rfl; have hzn5_4 : w4.cell? ⟨gx, 4, none⟩ = some (.int .i64 0) := (blk_cell BX4.out 4).trans rfl; have hzn5_5 : w4.cell? ⟨gx, 5, none⟩ = some (.int .i64 0) := (blk_cell BX4.out 5).trans rfl; have hzn5_6 : w4.cell? ⟨gx, 6, none⟩ = some (.slice none 0 0) := (blk_cell BX4.out 6).trans rfl; have hzn5_7 : w4.cell? ⟨gx, 7, none⟩ = some (.slice none 0 0) := (blk_cell BX4.out 7).trans rfl; have fzn5_0 := blk_frozen BX4.out 0; have fzn5_1 := blk_frozen BX4.out 1; have fzn5_2 := blk_frozen BX4.out 2; have fzn5_3 := blk_frozen BX4.out 3; have fzn5_4 := blk_frozen BX4.out 4; have fzn5_5 := blk_frozen BX4.out 5; have fzn5_6 := blk_frozen BX4.out 6; have fzn5_7 := blk_frozen BX4.out 7; clear hb hbox hg) | ((with_reducible refine gate_store (t := 51) (p := 5) (v := .tmp 12) rfl ?_); refine store_event rfl (t := 51) (p := 5) (v := .tmp 12) rfl rfl (w1 := ((((((((w4.setCell ⟨gx, 0, none⟩ (.int .i64 (2))).setCell ⟨gx, 1, none⟩ (.int .i64 r2)).setCell ⟨gx, 2, none⟩ (.int .i64 r3)).setCell ⟨gx, 3, none⟩ (.int .i64 r4)).setCell ⟨gx, 4, none⟩ (.int .i64 r5)).setCell ⟨gx, 5, none⟩ (.int .i64 r6)).setCell ⟨gx, 6, none⟩ (.slice A6 r7.length c6)).setCell ⟨gx, 7, none⟩ (.slice A7 r8.length c7))) ?hr ?_; (case hr => first | (go_simp; done) | (go_simp; rfl)); intro w5 hw; have hf : ∀ i, i ≠ gx → w5.heap[i]? = w4.heap[i]? := fun i hi => (by rw [hw]; exact far8 w4 gx (.int .i64 (2)) (.int .i64 r2) (.int .i64 r3) (.int .i64 r4) (.int .i64 r5) (.int .i64 r6) (.slice A6 r7.length c6) (.slice A7 r8.length c7) i hi); have BX5 := Aside0.mk (show w5.heap[gx]? = some (.cells #[.int .i64 (2), .int .i64 r2, .int .i64 r3, .int .i64 r4, .int .i64 r5, .int .i64 r6, .slice A6 r7.length c6, .slice A7 r8.length c7] 51 (0, 0)) by (rw [hw]; exact blk_put (blk_put (blk_put (blk_put (blk_put (blk_put (blk_put (blk_put (BX4.out) 0 _ rfl) 1 _ rfl) 2 _ rfl) 3 _ rfl) 4 _ rfl) 5 _ rfl) 6 _ rfl) 7 _ rfl)); have HB5 := Aside0.mk (show Below w.heap.size w w5 by (rw [hw]; exact below_set (below_set (below_set (below_set (below_set (below_set (below_set (below_set (HB4.out) Ggx.out) Ggx.out) Ggx.out) Ggx.out) Ggx.out) Ggx.out) Ggx.out) Ggx.out)); have BQ5 := Aside0.mk ((hf gq Nq_x).trans BQ4.out); have HS5 := Aside0.mk (R_farT HS4.out BX4.out ne_spans hf); have HI5 := Aside0.mk (S_farT HI4.out BX4.out ne_items hf); have hzxa_0 : w5.cell? ⟨gx, 0, none⟩ = some (.int .i64 (2)) := (blk_cell BX5.out 0).trans rfl; have hzxa_1 : w5.cell? ⟨gx, 1, none⟩ = some (.int .i64 r2) := (blk_cell BX5.out 1).trans rfl; have hzxa_2 : w5.cell? ⟨gx, 2, none⟩ = some (.int .i64 r3) := (blk_cell BX5.out 2).trans rfl; have hzxa_3 : w5.cell? ⟨gx, 3, none⟩ = some (.int .i64 r4) := (blk_cell BX5.out 3).trans rfl; have hzxa_4 : w5.cell? ⟨gx, 4, none⟩ = some (.int .i64 r5) := (blk_cell BX5.out 4).trans rfl; have hzxa_5 : w5.cell? ⟨gx, 5, none⟩ = some (.int .i64 r6) := (blk_cell BX5.out 5).trans rfl; have hzxa_6 : w5.cell? ⟨gx, 6, none⟩ = some (.slice A6 r7.length c6) := (blk_cell BX5.out 6).trans rfl; have hzxa_7 : w5.cell? ⟨gx, 7, none⟩ = some (.slice A7 r8.length c7) := (blk_cell BX5.out 7).trans rfl; clear hw hf) | ((with_reducible refine gate_dst (N := 6) rfl ?_); refine box_event ?hg (N := 6) ?hd (cs := #[.int .i64 0, .int .i64 0, .int .i64 0, .int .i64 0, .int .i64 0, .int .i64 0, .slice none 0 0, .slice none 0 0]) (t := 51) ?hr ?_; (case hd => rfl); (case hg => rfl); (case hr => first | (go_simp; done) | (go_simp; rfl)); intro gy hg w6 hbox hb; have Nq_y : gq ≠ gy := (fun e_ => absurd (blk_lt BQ5.out) (by rw [e_, hg]; exact Nat.lt_irrefl _)); have Nx_y : gx ≠ gy := (fun e_ => absurd (blk_lt BX5.out) (by rw [e_, hg]; exact Nat.lt_irrefl _)); have HB6 := Aside0.mk (below_step (by repeat (first | (with_reducible first | exact HB5.out | apply below_alloc | apply pw_below_drewN | apply below_drew1) | exact HB5.out)) hb); have Ggy := Aside0.mk (show w.heap.size ≤ gy by (rw [hg]; exact below_size (by repeat (first | (with_reducible first | exact HB5.out | apply below_alloc | apply pw_below_drewN | apply below_drew1) | exact HB5.out)))); have BY6 := Aside0.mk hbox; have BX6 := Aside0.mk (blk_below BX5.out hb); have BQ6 := Aside0.mk (blk_below BQ5.out hb); have HS6 := Aside0.mk (Kd.R_below HS5.out hb); have HI6 := Aside0.mk (Kd.S_below HI5.out hb); have hzn6_0 : w6.cell? ⟨gy, 0, none⟩ = some (.int .i64 0) := (blk_cell BY6.out 0).trans rfl; have hzn6_1 : w6.cell? ⟨gy, 1, none⟩ = some (.int .i64 0) := (blk_cell BY6.out 1).trans rfl; have hzn6_2 : w6.cell? ⟨gy, 2, none⟩ = some (.int .i64 0) := (blk_cell BY6.out 2).trans rfl; have hzn6_3 : w6.cell? ⟨gy, 3, none⟩ = some (.int .i64 0) := (blk_cell BY6.out 3).trans rfl; have hzn6_4 : w6.cell? ⟨gy, 4, none⟩ = some (.int .i64 0) := (blk_cell BY6.out 4).trans rfl; have hzn6_5 : w6.cell? ⟨gy, 5, none⟩ = some (.int .i64 0) := (blk_cell BY6.out 5).trans rfl; have hzn6_6 : w6.cell? ⟨gy, 6, none⟩ = some (.slice none 0 0) := (blk_cell BY6.out 6).trans rfl; have hzn6_7 : w6.cell? ⟨gy, 7, none⟩ = some (.slice none 0 0) := (blk_cell BY6.out 7).trans rfl; have fzn6_0 := blk_frozen BY6.out 0; have fzn6_1 := blk_frozen BY6.out 1; have fzn6_2 := blk_frozen BY6.out 2; have fzn6_3 := blk_frozen BY6.out 3; have fzn6_4 := blk_frozen BY6.out 4; have fzn6_5 := blk_frozen BY6.out 5; have fzn6_6 := blk_frozen BY6.out 6; have fzn6_7 := blk_frozen BY6.out 7; clear hb hbox hg) | ((with_reducible refine gate_store (t := 51) (p := 6) (v := .tmp 13) rfl ?_); refine store_event rfl (t := 51) (p := 6) (v := .tmp 13) rfl rfl (w1 := ((((((((w6.setCell ⟨gy, 0, none⟩ (.int .i64 (2))).setCell ⟨gy, 1, none⟩ (.int .i64 r2)).setCell ⟨gy, 2, none⟩ (.int .i64 r3)).setCell ⟨gy, 3, none⟩ (.int .i64 r4)).setCell ⟨gy, 4, none⟩ (.int .i64 r5)).setCell ⟨gy, 5, none⟩ (.int .i64 r6)).setCell ⟨gy, 6, none⟩ (.slice A6 r7.length c6)).setCell ⟨gy, 7, none⟩ (.slice A7 r8.length c7))) ?hr ?_; (case hr => first | (go_simp; done) | (go_simp; rfl)); intro w7 hw; have hf : ∀ i, i ≠ gy → w7.heap[i]? = w6.heap[i]? := fun i hi => (by rw [hw]; exact far8 w6 gy (.int .i64 (2)) (.int .i64 r2) (.int .i64 r3) (.int .i64 r4) (.int .i64 r5) (.int .i64 r6) (.slice A6 r7.length c6) (.slice A7 r8.length c7) i hi); have BY7 := Aside0.mk (show w7.heap[gy]? = some (.cells #[.int .i64 (2), .int .i64 r2, .int .i64 r3, .int .i64 r4, .int .i64 r5, .int .i64 r6, .slice A6 r7.length c6, .slice A7 r8.length c7] 51 (0, 0)) by (rw [hw]; exact blk_put (blk_put (blk_put (blk_put (blk_put (blk_put (blk_put (blk_put (BY6.out) 0 _ rfl) 1 _ rfl) 2 _ rfl) 3 _ rfl) 4 _ rfl) 5 _ rfl) 6 _ rfl) 7 _ rfl)); have HB7 := Aside0.mk (show Below w.heap.size w w7 by (rw [hw]; exact below_set (below_set (below_set (below_set (below_set (below_set (below_set (below_set (HB6.out) Ggy.out) Ggy.out) Ggy.out) Ggy.out) Ggy.out) Ggy.out) Ggy.out) Ggy.out)); have BX7 := Aside0.mk ((hf gx Nx_y).trans BX6.out); have BQ7 := Aside0.mk ((hf gq Nq_y).trans BQ6.out); have HS7 := Aside0.mk (R_farT HS6.out BY6.out ne_spans hf); have HI7 := Aside0.mk (S_farT HI6.out BY6.out ne_items hf); have hzya_0 : w7.cell? ⟨gy, 0, none⟩ = some (.int .i64 (2)) := (blk_cell BY7.out 0).trans rfl; have hzya_1 : w7.cell? ⟨gy, 1, none⟩ = some (.int .i64 r2) := (blk_cell BY7.out 1).trans rfl; have hzya_2 : w7.cell? ⟨gy, 2, none⟩ = some (.int .i64 r3) := (blk_cell BY7.out 2).trans rfl; have hzya_3 : w7.cell? ⟨gy, 3, none⟩ = some (.int .i64 r4) := (blk_cell BY7.out 3).trans rfl; have hzya_4 : w7.cell? ⟨gy, 4, none⟩ = some (.int .i64 r5) := (blk_cell BY7.out 4).trans rfl; have hzya_5 : w7.cell? ⟨gy, 5, none⟩ = some (.int .i64 r6) := (blk_cell BY7.out 5).trans rfl; have hzya_6 : w7.cell? ⟨gy, 6, none⟩ = some (.slice A6 r7.length c6) := (blk_cell BY7.out 6).trans rfl; have hzya_7 : w7.cell? ⟨gy, 7, none⟩ = some (.slice A7 r8.length c7) := (blk_cell BY7.out 7).trans rfl; have hzxb_0 : w7.cell? ⟨gx, 0, none⟩ = some (.int .i64 (2)) := (blk_cell BX7.out 0).trans rfl; clear hw hf))
  refine start_ (n := 8) (S := fun w' => w'.heap[gq]? = some (.cells #[.int .i64 a1_0, .int .i64 a1_1, .int .i64 a1_2, .int .i64 a1_3, .int .i64 a1_4, .int .i64 a1_5, .slice A1_6 l1_6.length c1_6, .slice A1_7 l1_7.length c1_7] 51 (0, 0))) (ds := [7]) #[false, false, false, false, false, false, false, false] (by kernel_rfl) rfl rfl (blk_drew BQ7.out) (fun hHeld => ?_)
  refine with_tabW grapevinelaw13_ParcelUnused.tab4 grapevinelaw13_ParcelUnused.bits4 (fun HT_ HW_ => ?_)
  replace HB7 := Aside0.mk (below_drew1 HB7.out)
  replace BX7 := Aside0.mk (blk_drew BX7.out)
  replace BY7 := Aside0.mk (blk_drew BY7.out)
  replace BQ7 := Aside0.mk (blk_drew BQ7.out)
  replace HS7 := Aside0.mk (Kd.R_drew HS7.out)
  replace HI7 := Aside0.mk (Kd.S_drew HI7.out)
  generalize w7.drew = w8 at HB7 BX7 BY7 BQ7 HS7 HI7 hHeld ⊢
  have HB8 := HB7
  have BX8 := BX7
  have BY8 := BY7
  have BQ8 := BQ7
  have HS8 := HS7
  have HI8 := HI7
  refine pure_ (i := 0) (N := some 17) (v := ?_) (a' := ?_) #[true, false, false, false, false, false, false, false] rfl rfl (any_of HT_.out (by kernel_rfl)) (fun _ _ _ h => h) (Or.inl ⟨by rfl, ?_⟩) ?_ ?_
  rotate_left
  ·
   intro w'
   go_simp
   with_reducible rfl
  rotate_left
  ·
   simp only [Act.put, List.setIfInBounds_toArray, List.set_cons_zero, List.set_cons_succ, i64_w, i32_w]
   rfl
  refine take_ (i := 1) (N := some 18) (v := ?_) (a' := ?_) #[true, true, false, false, false, false, false, false] rfl rfl (take_ofW HT_.out HW_.out (by kernel_rfl)) (fun _ _ _ h => h) (Or.inl ⟨by rfl, ?_⟩) hHeld ?_ ?_
  rotate_left
  ·
   rintro w' s0
   have s1 := (blk_cell s0 6).trans rfl
   go_simp
   with_reducible rfl
  rotate_left
  ·
   simp only [Act.put, List.setIfInBounds_toArray, List.set_cons_zero, List.set_cons_succ, i64_w, i32_w]
   rfl
  refine pure_ (i := 2) (N := some 19) (v := ?_) (a' := ?_) #[true, true, true, false, false, false, false, false] rfl rfl (any_of HT_.out (by kernel_rfl)) (fun _ _ _ h => h) (Or.inl ⟨by rfl, ?_⟩) ?_ ?_
  rotate_left
  ·
   intro w'
   go_simp
   with_reducible rfl
  rotate_left
  ·
   simp only [Act.put, List.setIfInBounds_toArray, List.set_cons_zero, List.set_cons_succ, i64_w, i32_w]
   rfl
  refine take_ (i := 3) (N := some 20) (v := ?_) (a' := ?_) #[true, true, true, true, false, false, false, false] rfl rfl (take_ofW HT_.out HW_.out (by kernel_rfl)) (fun _ _ _ h => h) (Or.inl ⟨by rfl, ?_⟩) hHeld ?_ ?_
  rotate_left
  ·
   rintro w' s0
   have s1 := (blk_cell s0 7).trans rfl
   go_simp
   with_reducible rfl
  rotate_left
  ·
   simp only [Act.put, List.setIfInBounds_toArray, List.set_cons_zero, List.set_cons_succ, i64_w, i32_w]
   rfl
  refine pure_ (i := 4) (N := some 21) (v := ?_) (a' := ?_) #[true, true, true, true, true, false, false, false] rfl rfl (any_of HT_.out (by kernel_rfl)) (fun _ _ _ h => h) (Or.inl ⟨by rfl, ?_⟩) ?_ ?_
  rotate_left
  ·
   intro w'
   go_simp
   with_reducible rfl
  rotate_left
  ·
   simp only [Act.put, List.setIfInBounds_toArray, List.set_cons_zero, List.set_cons_succ, i64_w, i32_w]
   rfl
  refine one_ (i := 5) (N := none) #[true, true, true, true, true, true, false, false] rfl rfl (one_of HT_.out (by kernel_rfl)) (by decide) (fun K hK => ?_)
  have hz_ : w8.cell? ⟨gy, 6, none⟩ = some (.slice A6 r7.length c6) := (blk_cell BY8.out 6).trans rfl
  have fz_ := blk_frozen BY8.out 6
  refine skip_ (w1 := w8.setCell ⟨gy, 6, none⟩ (.slice A1_6 l1_6.length c1_6)) (by rfl) rfl ?_ ?_
  ·
   go_simp
  clear hz_ fz_
  have hf : ∀ i, i ≠ gy → (w8.setCell ⟨gy, 6, none⟩ (.slice A1_6 l1_6.length c1_6)).heap[i]? = w8.heap[i]? := fun i hi => far1 w8 gy 6 (.slice A1_6 l1_6.length c1_6) i hi
  have BY9 := Aside0.mk (show (w8.setCell ⟨gy, 6, none⟩ (.slice A1_6 l1_6.length c1_6)).heap[gy]? = some (.cells #[.int .i64 (2), .int .i64 r2, .int .i64 r3, .int .i64 r4, .int .i64 r5, .int .i64 r6, .slice A1_6 l1_6.length c1_6, .slice A7 r8.length c7] 51 (0, 0)) from blk_put BY8.out 6 _ rfl)
  have HB9 := Aside0.mk (show Below w.heap.size w (w8.setCell ⟨gy, 6, none⟩ (.slice A1_6 l1_6.length c1_6)) from below_set HB8.out Ggy.out)
  have BX9 := Aside0.mk ((hf gx Nx_y).trans BX8.out)
  have BQ9 := Aside0.mk ((hf gq Nq_y).trans BQ8.out)
  have HS9 := Aside0.mk (R_farT HS8.out BY8.out ne_spans hf)
  have HI9 := Aside0.mk (S_farT HI8.out BY8.out ne_items hf)
  clear hf
  refine hK.out _ _ BQ9.out (fun hHeld => ?_)
  clear hK K
  generalize w8.setCell ⟨gy, 6, none⟩ (.slice A1_6 l1_6.length c1_6) = w9 at HB9 BX9 BY9 BQ9 HS9 HI9 hHeld ⊢
  refine pure_ (i := 6) (N := some 22) (v := ?_) (a' := ?_) #[true, true, true, true, true, true, true, false] rfl rfl (any_of HT_.out (by kernel_rfl)) (fun _ _ _ h => h) (Or.inl ⟨by rfl, ?_⟩) ?_ ?_
  rotate_left
  ·
   intro w'
   go_simp
   with_reducible rfl
  rotate_left
  ·
   simp only [Act.put, List.setIfInBounds_toArray, List.set_cons_zero, List.set_cons_succ, i64_w, i32_w]
   rfl
  refine last_ (i := 7) (N := none) #[true, true, true, true, true, true, true, true] rfl rfl (one_of HT_.out (by kernel_rfl)) (by decide) (fun K hK => ?_)
  have hz_ : w9.cell? ⟨gy, 7, none⟩ = some (.slice A7 r8.length c7) := (blk_cell BY9.out 7).trans rfl
  have fz_ := blk_frozen BY9.out 7
  refine skip_ (w1 := w9.setCell ⟨gy, 7, none⟩ (.slice A1_7 l1_7.length c1_7)) (by rfl) rfl ?_ ?_
  ·
   go_simp
  clear hz_ fz_
  have hf : ∀ i, i ≠ gy → (w9.setCell ⟨gy, 7, none⟩ (.slice A1_7 l1_7.length c1_7)).heap[i]? = w9.heap[i]? := fun i hi => far1 w9 gy 7 (.slice A1_7 l1_7.length c1_7) i hi
  have BY10 := Aside0.mk (show (w9.setCell ⟨gy, 7, none⟩ (.slice A1_7 l1_7.length c1_7)).heap[gy]? = some (.cells #[.int .i64 (2), .int .i64 r2, .int .i64 r3, .int .i64 r4, .int .i64 r5, .int .i64 r6, .slice A1_6 l1_6.length c1_6, .slice A1_7 l1_7.length c1_7] 51 (0, 0)) from blk_put BY9.out 7 _ rfl)
  have HB10 := Aside0.mk (show Below w.heap.size w (w9.setCell ⟨gy, 7, none⟩ (.slice A1_7 l1_7.length c1_7)) from below_set HB9.out Ggy.out)
  have BX10 := Aside0.mk ((hf gx Nx_y).trans BX9.out)
  have BQ10 := Aside0.mk ((hf gq Nq_y).trans BQ9.out)
  have HS10 := Aside0.mk (R_farT HS9.out BY9.out ne_spans hf)
  have HI10 := Aside0.mk (S_farT HI9.out BY9.out ne_items hf)
  clear hf
  refine hK.out _ _ ?_
  clear hK K
  generalize w9.setCell ⟨gy, 7, none⟩ (.slice A1_7 l1_7.length c1_7) = w10 at HB10 BX10 BY10 BQ10 HS10 HI10 ⊢
  refine done_ (done_of HT_.out (by kernel_rfl)) ?_
  clear hHeld
  have hx10_ : w10.cell? ⟨gx, 0, none⟩ = some (.int .i64 (2)) := (blk_cell BX10.out 0).trans rfl
  go_wp2
  refine start_ (n := 8) (S := fun w' => w'.heap[gq]? = some (.cells #[.int .i64 a1_0, .int .i64 a1_1, .int .i64 a1_2, .int .i64 a1_3, .int .i64 a1_4, .int .i64 a1_5, .slice A1_6 l1_6.length c1_6, .slice A1_7 l1_7.length c1_7] 51 (0, 0))) (ds := [7]) #[false, false, false, false, false, false, false, false] (by kernel_rfl) rfl rfl (blk_drew BQ10.out) (fun hHeld => ?_)
  refine with_tabW grapevinelaw13_ParcelUnused.tab6 grapevinelaw13_ParcelUnused.bits6 (fun HT_ HW_ => ?_)
  replace HB10 := Aside0.mk (below_drew1 HB10.out)
  replace BX10 := Aside0.mk (blk_drew BX10.out)
  replace BY10 := Aside0.mk (blk_drew BY10.out)
  replace BQ10 := Aside0.mk (blk_drew BQ10.out)
  replace HS10 := Aside0.mk (Kd.R_drew HS10.out)
  replace HI10 := Aside0.mk (Kd.S_drew HI10.out)
  generalize w10.drew = w11 at HB10 BX10 BY10 BQ10 HS10 HI10 hHeld ⊢
  have HB11 := HB10
  have BX11 := BX10
  have BY11 := BY10
  have BQ11 := BQ10
  have HS11 := HS10
  have HI11 := HI10
  refine pure_ (i := 0) (N := some 31) (v := ?_) (a' := ?_) #[true, false, false, false, false, false, false, false] rfl rfl (any_of HT_.out (by kernel_rfl)) (fun _ _ _ h => h) (Or.inl ⟨by rfl, ?_⟩) ?_ ?_
  rotate_left
  ·
   intro w'
   go_simp
   with_reducible rfl
  rotate_left
  ·
   simp only [Act.put, List.setIfInBounds_toArray, List.set_cons_zero, List.set_cons_succ, i64_w, i32_w]
   rfl
  refine take_ (i := 1) (N := some 32) (v := ?_) (a' := ?_) #[true, true, false, false, false, false, false, false] rfl rfl (take_ofW HT_.out HW_.out (by kernel_rfl)) (fun _ _ _ h => h) (Or.inl ⟨by rfl, ?_⟩) hHeld ?_ ?_
  rotate_left
  ·
   rintro w' s0
   have s1 := (blk_cell s0 2).trans rfl
   go_simp
   with_reducible rfl
  rotate_left
  ·
   simp only [Act.put, List.setIfInBounds_toArray, List.set_cons_zero, List.set_cons_succ, i64_w, i32_w]
   rfl
  refine pure_ (i := 2) (N := some 33) (v := ?_) (a' := ?_) #[true, true, true, false, false, false, false, false] rfl rfl (any_of HT_.out (by kernel_rfl)) (fun _ _ _ h => h) (Or.inl ⟨by rfl, ?_⟩) ?_ ?_
  rotate_left
  ·
   intro w'
   go_simp
   with_reducible rfl
  rotate_left
  ·
   simp only [Act.put, List.setIfInBounds_toArray, List.set_cons_zero, List.set_cons_succ, i64_w, i32_w]
   rfl
  refine take_ (i := 3) (N := some 34) (v := ?_) (a' := ?_) #[true, true, true, true, false, false, false, false] rfl rfl (take_ofW HT_.out HW_.out (by kernel_rfl)) (fun _ _ _ h => h) (Or.inl ⟨by rfl, ?_⟩) hHeld ?_ ?_
  rotate_left
  ·
   rintro w' s0
   have s1 := (blk_cell s0 3).trans rfl
   go_simp
   with_reducible rfl
  rotate_left
  ·
   simp only [Act.put, List.setIfInBounds_toArray, List.set_cons_zero, List.set_cons_succ, i64_w, i32_w]
   rfl
  refine pure_ (i := 4) (N := some 35) (v := ?_) (a' := ?_) #[true, true, true, true, true, false, false, false] rfl rfl (any_of HT_.out (by kernel_rfl)) (fun _ _ _ h => h) (Or.inl ⟨by rfl, ?_⟩) ?_ ?_
  rotate_left
  ·
   intro w'
   go_simp
   with_reducible rfl
  rotate_left
  ·
   simp only [Act.put, List.setIfInBounds_toArray, List.set_cons_zero, List.set_cons_succ, i64_w, i32_w]
   rfl
  refine one_ (i := 5) (N := none) #[true, true, true, true, true, true, false, false] rfl rfl (one_of HT_.out (by kernel_rfl)) (by decide) (fun K hK => ?_)
  have hz_ : w11.cell? ⟨gy, 2, none⟩ = some (.int .i64 r3) := (blk_cell BY11.out 2).trans rfl
  have fz_ := blk_frozen BY11.out 2
  refine skip_ (w1 := w11.setCell ⟨gy, 2, none⟩ (.int .i64 a1_2)) (by rfl) rfl ?_ ?_
  ·
   go_simp
  clear hz_ fz_
  have hf : ∀ i, i ≠ gy → (w11.setCell ⟨gy, 2, none⟩ (.int .i64 a1_2)).heap[i]? = w11.heap[i]? := fun i hi => far1 w11 gy 2 (.int .i64 a1_2) i hi
  have BY12 := Aside0.mk (show (w11.setCell ⟨gy, 2, none⟩ (.int .i64 a1_2)).heap[gy]? = some (.cells #[.int .i64 (2), .int .i64 r2, .int .i64 a1_2, .int .i64 r4, .int .i64 r5, .int .i64 r6, .slice A1_6 l1_6.length c1_6, .slice A1_7 l1_7.length c1_7] 51 (0, 0)) from blk_put BY11.out 2 _ rfl)
  have HB12 := Aside0.mk (show Below w.heap.size w (w11.setCell ⟨gy, 2, none⟩ (.int .i64 a1_2)) from below_set HB11.out Ggy.out)
  have BX12 := Aside0.mk ((hf gx Nx_y).trans BX11.out)
  have BQ12 := Aside0.mk ((hf gq Nq_y).trans BQ11.out)
  have HS12 := Aside0.mk (R_farT HS11.out BY11.out ne_spans hf)
  have HI12 := Aside0.mk (S_farT HI11.out BY11.out ne_items hf)
  clear hf
  refine hK.out _ _ BQ12.out (fun hHeld => ?_)
  clear hK K
  generalize w11.setCell ⟨gy, 2, none⟩ (.int .i64 a1_2) = w12 at HB12 BX12 BY12 BQ12 HS12 HI12 hHeld ⊢
  refine pure_ (i := 6) (N := some 36) (v := ?_) (a' := ?_) #[true, true, true, true, true, true, true, false] rfl rfl (any_of HT_.out (by kernel_rfl)) (fun _ _ _ h => h) (Or.inl ⟨by rfl, ?_⟩) ?_ ?_
  rotate_left
  ·
   intro w'
   go_simp
   with_reducible rfl
  rotate_left
  ·
   simp only [Act.put, List.setIfInBounds_toArray, List.set_cons_zero, List.set_cons_succ, i64_w, i32_w]
   rfl
  refine last_ (i := 7) (N := none) #[true, true, true, true, true, true, true, true] rfl rfl (one_of HT_.out (by kernel_rfl)) (by decide) (fun K hK => ?_)
  have hz_ : w12.cell? ⟨gy, 3, none⟩ = some (.int .i64 r4) := (blk_cell BY12.out 3).trans rfl
  have fz_ := blk_frozen BY12.out 3
  refine skip_ (w1 := w12.setCell ⟨gy, 3, none⟩ (.int .i64 a1_3)) (by rfl) rfl ?_ ?_
  ·
   go_simp
  clear hz_ fz_
  have hf : ∀ i, i ≠ gy → (w12.setCell ⟨gy, 3, none⟩ (.int .i64 a1_3)).heap[i]? = w12.heap[i]? := fun i hi => far1 w12 gy 3 (.int .i64 a1_3) i hi
  have BY13 := Aside0.mk (show (w12.setCell ⟨gy, 3, none⟩ (.int .i64 a1_3)).heap[gy]? = some (.cells #[.int .i64 (2), .int .i64 r2, .int .i64 a1_2, .int .i64 a1_3, .int .i64 r5, .int .i64 r6, .slice A1_6 l1_6.length c1_6, .slice A1_7 l1_7.length c1_7] 51 (0, 0)) from blk_put BY12.out 3 _ rfl)
  have HB13 := Aside0.mk (show Below w.heap.size w (w12.setCell ⟨gy, 3, none⟩ (.int .i64 a1_3)) from below_set HB12.out Ggy.out)
  have BX13 := Aside0.mk ((hf gx Nx_y).trans BX12.out)
  have BQ13 := Aside0.mk ((hf gq Nq_y).trans BQ12.out)
  have HS13 := Aside0.mk (R_farT HS12.out BY12.out ne_spans hf)
  have HI13 := Aside0.mk (S_farT HI12.out BY12.out ne_items hf)
  clear hf
  refine hK.out _ _ ?_
  clear hK K
  generalize w12.setCell ⟨gy, 3, none⟩ (.int .i64 a1_3) = w13 at HB13 BX13 BY13 BQ13 HS13 HI13 ⊢
  refine done_ (done_of HT_.out (by kernel_rfl)) ?_
  clear hHeld
  have hx13_ : w13.cell? ⟨gx, 0, none⟩ = some (.int .i64 (2)) := (blk_cell BX13.out 0).trans rfl
  have hzxc_0 : w13.cell? ⟨gx, 0, none⟩ = some (.int .i64 (2)) := (blk_cell BX13.out 0).trans rfl
  have hzxc_1 : w13.cell? ⟨gx, 1, none⟩ = some (.int .i64 r2) := (blk_cell BX13.out 1).trans rfl
  have hzxc_2 : w13.cell? ⟨gx, 2, none⟩ = some (.int .i64 r3) := (blk_cell BX13.out 2).trans rfl
  have hzxc_3 : w13.cell? ⟨gx, 3, none⟩ = some (.int .i64 r4) := (blk_cell BX13.out 3).trans rfl
  have hzxc_4 : w13.cell? ⟨gx, 4, none⟩ = some (.int .i64 r5) := (blk_cell BX13.out 4).trans rfl
  have hzxc_5 : w13.cell? ⟨gx, 5, none⟩ = some (.int .i64 r6) := (blk_cell BX13.out 5).trans rfl
  have hzxc_6 : w13.cell? ⟨gx, 6, none⟩ = some (.slice A6 r7.length c6) := (blk_cell BX13.out 6).trans rfl
  have hzxc_7 : w13.cell? ⟨gx, 7, none⟩ = some (.slice A7 r8.length c7) := (blk_cell BX13.out 7).trans rfl
  go_wp2_with (first | ((with_reducible refine gate_dst (N := 53) rfl ?_); refine goesL_ (some 53) rfl rfl Try.func47 (by kernel_rfl) rfl #[.agg #[.int .i64 (2), .int .i64 r2, .int .i64 r3, .int .i64 r4, .int .i64 r5, .int .i64 r6, .slice A6 r7.length c6, .slice A7 r8.length c7]] rfl (by (try simp only [List.map_toArray, List.map_cons, List.map_nil]); first | done | rfl | (simp only [List.length_drop, List.length_take]; rfl)) ?_; (with_reducible refine (parcel_Put.calls k (2) r2 r3 r4 r5 r6 _ _ r7 _ _ r8 u1 u2 _ ?s1 ?s2 ?s3 ?s4 HPX.out).mono ?_); (case s1 => exact (Kd.R_reads' HS13.out).2.2); (case s2 => exact (Kd.R_reads' HS13.out).2.1); (case s3 => exact (Kd.S_reads' HI13.out).2.2); (case s4 => exact (Kd.S_reads' HI13.out).2.1); rintro e w14 ⟨vu, rfl, hq, hb⟩; refine ⟨_, rfl, ?_⟩; have HB14 := Aside0.mk (below_step HB13.out hb); have BX14 := Aside0.mk (blk_below BX13.out hb); have BY14 := Aside0.mk (blk_below BY13.out hb); have HS14 := Aside0.mk (Kd.R_below HS13.out hb); have HI14 := Aside0.mk (Kd.S_below HI13.out hb); have HU14 := Aside0.mk (Kd.R_lower hq (below_size HB13.out)); obtain ⟨Au, cu, eu⟩ := Kd.R_slice HU14.out; subst eu; have hzyc_0 : w14.cell? ⟨gy, 0, none⟩ = some (.int .i64 (2)) := (blk_cell BY14.out 0).trans rfl; have hzyc_1 : w14.cell? ⟨gy, 1, none⟩ = some (.int .i64 r2) := (blk_cell BY14.out 1).trans rfl; have hzyc_2 : w14.cell? ⟨gy, 2, none⟩ = some (.int .i64 a1_2) := (blk_cell BY14.out 2).trans rfl; have hzyc_3 : w14.cell? ⟨gy, 3, none⟩ = some (.int .i64 a1_3) := (blk_cell BY14.out 3).trans rfl; have hzyc_4 : w14.cell? ⟨gy, 4, none⟩ = some (.int .i64 r5) := (blk_cell BY14.out 4).trans rfl; have hzyc_5 : w14.cell? ⟨gy, 5, none⟩ = some (.int .i64 r6) := (blk_cell BY14.out 5).trans rfl; have hzyc_6 : w14.cell? ⟨gy, 6, none⟩ = some (.slice A1_6 l1_6.length c1_6) := (blk_cell BY14.out 6).trans rfl; have hzyc_7 : w14.cell? ⟨gy, 7, none⟩ = some (.slice A1_7 l1_7.length c1_7) := (blk_cell BY14.out 7).trans rfl; clear hq hb) | ((with_reducible refine gate_dst (N := 58) rfl ?_); refine goesL_ (some 58) rfl rfl Try.func47 (by kernel_rfl) rfl #[.agg #[.int .i64 (2), .int .i64 r2, .int .i64 a1_2, .int .i64 a1_3, .int .i64 r5, .int .i64 r6, .slice A1_6 l1_6.length c1_6, .slice A1_7 l1_7.length c1_7]] rfl (by (try simp only [List.map_toArray, List.map_cons, List.map_nil]); first | done | rfl | (simp only [List.length_drop, List.length_take]; rfl)) ?_; (with_reducible refine (parcel_Put.calls k (2) r2 a1_2 a1_3 r5 r6 _ _ l1_6 _ _ l1_7 v1 u2 _ ?s1 ?s2 ?s3 ?s4 HPY.out).mono ?_); (case s1 => exact (Kd.C_below HR1_6.out HB14.out)); (case s2 => exact HC1_6.out); (case s3 => exact (Kd.C_below HR1_7.out HB14.out)); (case s4 => exact HC1_7.out); rintro e w15 ⟨vv, rfl, hq, hb⟩; refine ⟨_, rfl, ?_⟩; have HB15 := Aside0.mk (below_step HB14.out hb); have BX15 := Aside0.mk (blk_below BX14.out hb); have BY15 := Aside0.mk (blk_below BY14.out hb); have HS15 := Aside0.mk (Kd.R_below HS14.out hb); have HI15 := Aside0.mk (Kd.S_below HI14.out hb); have HU15 := Aside0.mk (Kd.R_below HU14.out hb); have HV15 := Aside0.mk (Kd.R_lower hq (below_size HB14.out)); obtain ⟨Av, cv, ev⟩ := Kd.R_slice HV15.out; subst ev; clear hq hb))
  refine start_ (n := 21) (S := fun w' => w'.heap[gx]? = some (.cells #[.int .i64 (2), .int .i64 r2, .int .i64 r3, .int .i64 r4, .int .i64 r5, .int .i64 r6, .slice A6 r7.length c6, .slice A7 r8.length c7] 51 (0, 0)) ∧ w'.heap[gy]? = some (.cells #[.int .i64 (2), .int .i64 r2, .int .i64 a1_2, .int .i64 a1_3, .int .i64 r5, .int .i64 r6, .slice A1_6 l1_6.length c1_6, .slice A1_7 l1_7.length c1_7] 51 (0, 0)) ∧ (Kd.int .u8).C w' Au u1.length u1 ∧ (Kd.int .u8).C w' Av v1.length v1) (ds := []) #[false, false, false, false, false, false, false, false, false, false, false, false, false, false, false, false, false, false, false, false, false] (by kernel_rfl) rfl rfl ⟨blk_drew BX15.out, blk_drew BY15.out, Kd.C_drew (Kd.R_reads' HU15.out).2.2, Kd.C_drew (Kd.R_reads' HV15.out).2.2⟩ (fun hHeld => ?_)
  refine with_tabW grapevinelaw13_ParcelUnused.tab12 grapevinelaw13_ParcelUnused.bits12 (fun HT_ HW_ => ?_)
  replace HB15 := Aside0.mk (below_drew1 HB15.out)
  replace BX15 := Aside0.mk (blk_drew BX15.out)
  replace BY15 := Aside0.mk (blk_drew BY15.out)
  replace HS15 := Aside0.mk (Kd.R_drew HS15.out)
  replace HU15 := Aside0.mk (Kd.R_drew HU15.out)
  replace HV15 := Aside0.mk (Kd.R_drew HV15.out)
  replace HI15 := Aside0.mk (Kd.S_drew HI15.out)
  generalize w15.drew = w16 at HB15 BX15 BY15 HS15 HI15 HU15 HV15 hHeld ⊢
  have HB16 := HB15
  have BX16 := BX15
  have BY16 := BY15
  have HS16 := HS15
  have HI16 := HI15
  have HU16 := HU15
  have HV16 := HV15
  refine one_ (i := 0) (N := some 61) #[true, false, false, false, false, false, false, false, false, false, false, false, false, false, false, false, false, false, false, false, false] rfl rfl (one_of HT_.out (by kernel_rfl)) (by decide) (fun K hK => ?_)
  refine goes_ Try.func44 (by kernel_rfl) rfl #[] (by rfl) rfl rfl (by (try simp only [List.map_toArray, List.map_cons, List.map_nil]); first | done | rfl | (simp only [List.length_drop, List.length_take]; rfl)) ?_
  with_reducible refine (grapevinelaw13_live.calls k true _ HL.out).mono ?_
  rintro e w17 ⟨rfl, hb⟩
  refine ⟨_, rfl, ?_⟩
  have HB17 := Aside0.mk (below_step HB16.out hb)
  have BX17 := Aside0.mk (blk_below BX16.out hb)
  have BY17 := Aside0.mk (blk_below BY16.out hb)
  have HS17 := Aside0.mk (Kd.R_below HS16.out hb)
  have HI17 := Aside0.mk (Kd.S_below HI16.out hb)
  have HU17 := Aside0.mk (Kd.R_below HU16.out hb)
  have HV17 := Aside0.mk (Kd.R_below HV16.out hb)
  clear hb
  refine hK.out _ _ ⟨BX17.out, BY17.out, (Kd.R_reads' HU17.out).2.2, (Kd.R_reads' HV17.out).2.2⟩ (fun hHeld => ?_)
  clear hK K
  refine norm_ (a' := ?_) ?_ ?_
  rotate_left
  ·
   show Act.put _ (some 61) _ = _
   simp only [Act.put, List.setIfInBounds_toArray, List.set_cons_zero, List.set_cons_succ, i64_w, i32_w]
   rfl
  refine pure_ (i := 1) (N := some 62) (v := ?_) (a' := ?_) #[true, true, false, false, false, false, false, false, false, false, false, false, false, false, false, false, false, false, false, false, false] rfl rfl (any_of HT_.out (by kernel_rfl)) (fun _ _ _ h => h) (Or.inl ⟨by rfl, ?_⟩) ?_ ?_
  rotate_left
  ·
   intro w'
   go_simp
   with_reducible rfl
  rotate_left
  ·
   simp only [Act.put, List.setIfInBounds_toArray, List.set_cons_zero, List.set_cons_succ, i64_w, i32_w]
   rfl
  refine pure_ (i := 2) (N := some 63) (v := ?_) (a' := ?_) #[true, true, true, false, false, false, false, false, false, false, false, false, false, false, false, false, false, false, false, false, false] rfl rfl (any_of HT_.out (by kernel_rfl)) (fun _ _ _ h => h) (Or.inl ⟨by rfl, ?_⟩) ?_ ?_
  rotate_left
  ·
   intro w'
   go_simp
   with_reducible rfl
  rotate_left
  ·
   simp only [Act.put, List.setIfInBounds_toArray, List.set_cons_zero, List.set_cons_succ, i64_w, i32_w]
   rfl
  refine take_ (i := 3) (N := some 64) (v := ?_) (a' := ?_) #[true, true, true, true, false, false, false, false, false, false, false, false, false, false, false, false, false, false, false, false, false] rfl rfl (take_ofW HT_.out HW_.out (by kernel_rfl)) (fun _ _ _ h => h) (Or.inl ⟨by rfl, ?_⟩) hHeld ?_ ?_
  rotate_left
  ·
   rintro w' ⟨s0, s1, s2, s3⟩
   go_simp
   rw [Kd.C_string Try.underlying44 Try.underlying5 Try.underlying9 s2]
   first | rfl | (constructor <;> rfl)
  rotate_left
  ·
   simp only [Act.put, List.setIfInBounds_toArray, List.set_cons_zero, List.set_cons_succ, i64_w, i32_w]
   rfl
  refine pure_ (i := 4) (N := some 65) (v := ?_) (a' := ?_) #[true, true, true, true, true, false, false, false, false, false, false, false, false, false, false, false, false, false, false, false, false] rfl rfl (any_of HT_.out (by kernel_rfl)) (fun _ _ _ h => h) (Or.inl ⟨by rfl, ?_⟩) ?_ ?_
  rotate_left
  ·
   intro w'
   go_simp
   with_reducible rfl
  rotate_left
  ·
   simp only [Act.put, List.setIfInBounds_toArray, List.set_cons_zero, List.set_cons_succ, i64_w, i32_w]
   rfl
  refine take_ (i := 5) (N := some 66) (v := ?_) (a' := ?_) #[true, true, true, true, true, true, false, false, false, false, false, false, false, false, false, false, false, false, false, false, false] rfl rfl (take_ofW HT_.out HW_.out (by kernel_rfl)) (fun _ _ _ h => h) (Or.inl ⟨by rfl, ?_⟩) hHeld ?_ ?_
  rotate_left
  ·
   rintro w' ⟨s0, s1, s2, s3⟩
   go_simp
   rw [Kd.C_string Try.underlying44 Try.underlying5 Try.underlying9 s3]
   first | rfl | (constructor <;> rfl)
  rotate_left
  ·
   simp only [Act.put, List.setIfInBounds_toArray, List.set_cons_zero, List.set_cons_succ, i64_w, i32_w]
   rfl
  refine pure_ (i := 6) (N := some 67) (v := ?_) (a' := ?_) #[true, true, true, true, true, true, true, false, false, false, false, false, false, false, false, false, false, false, false, false, false] rfl rfl (any_of HT_.out (by kernel_rfl)) (fun _ _ _ h => h) (Or.inl ⟨by rfl, ?_⟩) ?_ ?_
  rotate_left
  ·
   intro w'
   go_simp
   with_reducible rfl
  rotate_left
  ·
   simp only [Act.put, List.setIfInBounds_toArray, List.set_cons_zero, List.set_cons_succ, i64_w, i32_w]
   rfl
  refine pure_ (i := 7) (N := some 68) (v := ?_) (a' := ?_) #[true, true, true, true, true, true, true, true, false, false, false, false, false, false, false, false, false, false, false, false, false] rfl rfl (any_of HT_.out (by kernel_rfl)) (fun _ _ _ h => h) (Or.inl ⟨by rfl, ?_⟩) ?_ ?_
  rotate_left
  ·
   intro w'
   go_simp
   with_reducible rfl
  rotate_left
  ·
   simp only [Act.put, List.setIfInBounds_toArray, List.set_cons_zero, List.set_cons_succ, i64_w, i32_w]
   rfl
  refine pure_ (i := 8) (N := some 69) (v := ?_) (a' := ?_) #[true, true, true, true, true, true, true, true, true, false, false, false, false, false, false, false, false, false, false, false, false] rfl rfl (any_of HT_.out (by kernel_rfl)) (fun _ _ _ h => h) (Or.inl ⟨by rfl, ?_⟩) ?_ ?_
  rotate_left
  ·
   intro w'
   go_simp
   with_reducible rfl
  rotate_left
  ·
   simp only [Act.put, List.setIfInBounds_toArray, List.set_cons_zero, List.set_cons_succ, i64_w, i32_w]
   rfl
  refine pure_ (i := 9) (N := some 70) (v := ?_) (a' := ?_) #[true, true, true, true, true, true, true, true, true, true, false, false, false, false, false, false, false, false, false, false, false] rfl rfl (any_of HT_.out (by kernel_rfl)) (fun _ _ _ h => h) (Or.inl ⟨by rfl, ?_⟩) ?_ ?_
  rotate_left
  ·
   intro w'
   go_simp
   with_reducible rfl
  rotate_left
  ·
   simp only [Act.put, List.setIfInBounds_toArray, List.set_cons_zero, List.set_cons_succ, i64_w, i32_w]
   rfl
  refine pure_ (i := 10) (N := some 71) (v := ?_) (a' := ?_) #[true, true, true, true, true, true, true, true, true, true, true, false, false, false, false, false, false, false, false, false, false] rfl rfl (any_of HT_.out (by kernel_rfl)) (fun _ _ _ h => h) (Or.inl ⟨by rfl, ?_⟩) ?_ ?_
  rotate_left
  ·
   intro w'
   go_simp
   with_reducible rfl
  rotate_left
  ·
   simp only [Act.put, List.setIfInBounds_toArray, List.set_cons_zero, List.set_cons_succ, i64_w, i32_w]
   rfl
  refine pure_ (i := 11) (N := some 72) (v := ?_) (a' := ?_) #[true, true, true, true, true, true, true, true, true, true, true, true, false, false, false, false, false, false, false, false, false] rfl rfl (any_of HT_.out (by kernel_rfl)) (fun _ _ _ h => h) (Or.inl ⟨by rfl, ?_⟩) ?_ ?_
  rotate_left
  ·
   intro w'
   go_simp
   with_reducible rfl
  rotate_left
  ·
   simp only [Act.put, List.setIfInBounds_toArray, List.set_cons_zero, List.set_cons_succ, i64_w, i32_w]
   rfl
  refine pure_ (i := 12) (N := some 73) (v := ?_) (a' := ?_) #[true, true, true, true, true, true, true, true, true, true, true, true, true, false, false, false, false, false, false, false, false] rfl rfl (any_of HT_.out (by kernel_rfl)) (fun _ _ _ h => h) (Or.inl ⟨by rfl, ?_⟩) ?_ ?_
  rotate_left
  ·
   intro w'
   go_simp
   with_reducible rfl
  rotate_left
  ·
   simp only [Act.put, List.setIfInBounds_toArray, List.set_cons_zero, List.set_cons_succ, i64_w, i32_w]
   rfl
  refine pure_ (i := 13) (N := some 74) (v := ?_) (a' := ?_) #[true, true, true, true, true, true, true, true, true, true, true, true, true, true, false, false, false, false, false, false, false] rfl rfl (any_of HT_.out (by kernel_rfl)) (fun _ _ _ h => h) (Or.inl ⟨by rfl, ?_⟩) ?_ ?_
  rotate_left
  ·
   intro w'
   go_simp
   with_reducible rfl
  rotate_left
  ·
   simp only [Act.put, List.setIfInBounds_toArray, List.set_cons_zero, List.set_cons_succ, i64_w, i32_w]
   rfl
  refine take_ (i := 14) (N := some 75) (v := ?_) (a' := ?_) #[true, true, true, true, true, true, true, true, true, true, true, true, true, true, true, false, false, false, false, false, false] rfl rfl (take_ofW HT_.out HW_.out (by kernel_rfl)) (fun _ _ _ h => h) (Or.inl ⟨by rfl, ?_⟩) hHeld ?_ ?_
  rotate_left
  ·
   rintro w' ⟨s0, s1, s2, s3⟩
   have q0_ := (blk_cell s0 0).trans rfl
   have q1_ := (blk_cell s0 1).trans rfl
   have q2_ := (blk_cell s0 2).trans rfl
   have q3_ := (blk_cell s0 3).trans rfl
   have q4_ := (blk_cell s0 4).trans rfl
   have q5_ := (blk_cell s0 5).trans rfl
   have q6_ := (blk_cell s0 6).trans rfl
   have q7_ := (blk_cell s0 7).trans rfl
   go_simp
   with_reducible rfl
  rotate_left
  ·
   simp only [Act.put, List.setIfInBounds_toArray, List.set_cons_zero, List.set_cons_succ, i64_w, i32_w]
   rfl
  refine take_ (i := 16) (N := some 77) (v := ?_) (a' := ?_) #[true, true, true, true, true, true, true, true, true, true, true, true, true, true, true, false, true, false, false, false, false] rfl rfl (take_ofW HT_.out HW_.out (by kernel_rfl)) (fun _ _ _ h => h) (Or.inl ⟨by rfl, ?_⟩) hHeld ?_ ?_
  rotate_left
  ·
   rintro w' ⟨s0, s1, s2, s3⟩
   have q0_ := (blk_cell s1 0).trans rfl
   have q1_ := (blk_cell s1 1).trans rfl
   have q2_ := (blk_cell s1 2).trans rfl
   have q3_ := (blk_cell s1 3).trans rfl
   have q4_ := (blk_cell s1 4).trans rfl
   have q5_ := (blk_cell s1 5).trans rfl
   have q6_ := (blk_cell s1 6).trans rfl
   have q7_ := (blk_cell s1 7).trans rfl
   go_simp
   with_reducible rfl
  rotate_left
  ·
   simp only [Act.put, List.setIfInBounds_toArray, List.set_cons_zero, List.set_cons_succ, i64_w, i32_w]
   rfl
  refine one_ (i := 15) (N := some 76) #[true, true, true, true, true, true, true, true, true, true, true, true, true, true, true, true, true, false, false, false, false] rfl rfl (one_of HT_.out (by kernel_rfl)) (by decide) (fun K hK => ?_)
  refine goes_ Try.func45 (by kernel_rfl) rfl #[.agg #[.int .i64 (2), .int .i64 r2, .int .i64 r3, .int .i64 r4, .int .i64 r5, .int .i64 r6, .slice A6 r7.length c6, .slice A7 r8.length c7]] (by rfl) rfl rfl (by (try simp only [List.map_toArray, List.map_cons, List.map_nil]); first | done | rfl | (simp only [List.length_drop, List.length_take]; rfl)) ?_
  with_reducible refine (parcel_Check.calls k (2) r2 r3 r4 r5 r6 _ _ r7 _ _ r8 c _ ?s1 ?s2 ?s3 ?s4 HCX.out).mono ?_
  case s1 => exact (Kd.R_reads' HS17.out).2.2
  case s2 => exact (Kd.R_reads' HS17.out).2.1
  case s3 => exact (Kd.S_reads' HI17.out).2.2
  case s4 => exact (Kd.S_reads' HI17.out).2.1
  rintro e w18 ⟨rfl, hb⟩
  refine ⟨_, rfl, ?_⟩
  have HB18 := Aside0.mk (below_step HB17.out hb)
  have BX18 := Aside0.mk (blk_below BX17.out hb)
  have BY18 := Aside0.mk (blk_below BY17.out hb)
  have HS18 := Aside0.mk (Kd.R_below HS17.out hb)
  have HI18 := Aside0.mk (Kd.S_below HI17.out hb)
  have HU18 := Aside0.mk (Kd.R_below HU17.out hb)
  have HV18 := Aside0.mk (Kd.R_below HV17.out hb)
  clear hb
  refine hK.out _ _ ⟨BX18.out, BY18.out, (Kd.R_reads' HU18.out).2.2, (Kd.R_reads' HV18.out).2.2⟩ (fun hHeld => ?_)
  clear hK K
  refine norm_ (a' := ?_) ?_ ?_
  rotate_left
  ·
   show Act.put _ (some 76) _ = _
   simp only [Act.put, List.setIfInBounds_toArray, List.set_cons_zero, List.set_cons_succ, i64_w, i32_w]
   rfl
  refine one_ (i := 17) (N := some 78) #[true, true, true, true, true, true, true, true, true, true, true, true, true, true, true, true, true, true, false, false, false] rfl rfl (one_of HT_.out (by kernel_rfl)) (by decide) (fun K hK => ?_)
  refine goes_ Try.func45 (by kernel_rfl) rfl #[.agg #[.int .i64 (2), .int .i64 r2, .int .i64 a1_2, .int .i64 a1_3, .int .i64 r5, .int .i64 r6, .slice A1_6 l1_6.length c1_6, .slice A1_7 l1_7.length c1_7]] (by rfl) rfl rfl (by (try simp only [List.map_toArray, List.map_cons, List.map_nil]); first | done | rfl | (simp only [List.length_drop, List.length_take]; rfl)) ?_
  with_reducible refine (parcel_Check.calls k (2) r2 a1_2 a1_3 r5 r6 _ _ l1_6 _ _ l1_7 c _ ?s1 ?s2 ?s3 ?s4 HCY.out).mono ?_
  case s1 => exact (Kd.C_below HR1_6.out HB18.out)
  case s2 => exact HC1_6.out
  case s3 => exact (Kd.C_below HR1_7.out HB18.out)
  case s4 => exact HC1_7.out
  rintro e w19 ⟨rfl, hb⟩
  refine ⟨_, rfl, ?_⟩
  have HB19 := Aside0.mk (below_step HB18.out hb)
  have BX19 := Aside0.mk (blk_below BX18.out hb)
  have BY19 := Aside0.mk (blk_below BY18.out hb)
  have HS19 := Aside0.mk (Kd.R_below HS18.out hb)
  have HI19 := Aside0.mk (Kd.S_below HI18.out hb)
  have HU19 := Aside0.mk (Kd.R_below HU18.out hb)
  have HV19 := Aside0.mk (Kd.R_below HV18.out hb)
  clear hb
  refine hK.out _ _ ⟨BX19.out, BY19.out, (Kd.R_reads' HU19.out).2.2, (Kd.R_reads' HV19.out).2.2⟩ (fun hHeld => ?_)
  clear hK K
  refine norm_ (a' := ?_) ?_ ?_
  rotate_left
  ·
   show Act.put _ (some 78) _ = _
   simp only [Act.put, List.setIfInBounds_toArray, List.set_cons_zero, List.set_cons_succ, i64_w, i32_w]
   rfl
  refine pure_ (i := 18) (N := some 79) (v := ?_) (a' := ?_) #[true, true, true, true, true, true, true, true, true, true, true, true, true, true, true, true, true, true, true, false, false] rfl rfl (any_of HT_.out (by kernel_rfl)) (fun _ _ _ h => h) (Or.inl ⟨by rfl, ?_⟩) ?_ ?_
  rotate_left
  ·
   intro w'
   go_simp
   with_reducible rfl
  rotate_left
  ·
   simp only [Act.put, List.setIfInBounds_toArray, List.set_cons_zero, List.set_cons_succ, i64_w, i32_w]
   rfl
  refine pure_ (i := 19) (N := some 80) (v := ?_) (a' := ?_) #[true, true, true, true, true, true, true, true, true, true, true, true, true, true, true, true, true, true, true, true, false] rfl rfl (any_of HT_.out (by kernel_rfl)) (fun _ _ _ h => h) (Or.inl ⟨by rfl, ?_⟩) ?_ ?_
  rotate_left
  ·
   intro w'
   go_simp
   with_reducible rfl
  rotate_left
  ·
   simp only [Act.put, List.setIfInBounds_toArray, List.set_cons_zero, List.set_cons_succ, i64_w, i32_w]
   rfl
  refine pure_ (i := 20) (N := some 4) (v := ?_) (a' := ?_) #[true, true, true, true, true, true, true, true, true, true, true, true, true, true, true, true, true, true, true, true, true] rfl rfl (any_of HT_.out (by kernel_rfl)) (fun _ _ _ h => h) (Or.inl ⟨by rfl, ?_⟩) ?_ ?_
  rotate_left
  ·
   intro w'
   go_simp
   with_reducible rfl
  rotate_left
  ·
   simp only [Act.put, List.setIfInBounds_toArray, List.set_cons_zero, List.set_cons_succ, i64_w, i32_w]
   rfl
  refine done_ (done_of HT_.out (by kernel_rfl)) ?_
  go_wp2
  go_ret
  exact ⟨rfl, HB19.out⟩
 by_cases e4 : r1 = 4
 case pos =>
  subst e4
  simp only [if_neg (show ¬ ((4 : Int) = 1 ∨ (4 : Int) = 2) by omega), if_pos (show ((4 : Int) = 4 ∨ (4 : Int) = 6) by omega), if_neg (show ¬ ((4 : Int) = 1) by omega)] at hy hcy
  have HPY := Aside0.mk (show parcel_Put.f k (4 : Int) r2 r3 r4 a1_4 a1_5 l1_6 l1_7 = some (v1, u2) from hy)
  have HCY := Aside0.mk (show parcel_Check.f k (4 : Int) r2 r3 r4 a1_4 a1_5 l1_6 l1_7 = some c from hcy)
  clear hy hcy
  go_enter Try.func15, Try.ntmps15
  go_wp2_with (first | ((with_reducible refine gate_dst (N := 2) rfl ?_); refine box_event ?hg (N := 2) ?hd (cs := #[.int .i64 a0_0, .int .i64 a0_1, .int .i64 a0_2, .int .i64 a0_3, .int .i64 a0_4, .int .i64 a0_5, .slice A0_6 l0_6.length c0_6, .slice A0_7 l0_7.length c0_7]) (t := 51) ?hr ?_; (case hd => rfl); (case hg => rfl); (case hr => first | (go_simp; done) | (go_simp; rfl)); intro gp hg w1 hbox hb; have HB1 := Aside0.mk hb; have Ggp := Aside0.mk (show w.heap.size ≤ gp by rw [hg]; exact Nat.le_refl _); have BP1 := Aside0.mk hbox; clear hb hbox hg) | ((with_reducible refine gate_dst (N := 3) rfl ?_); refine box_event ?hg (N := 3) ?hd (cs := #[.int .i64 a1_0, .int .i64 a1_1, .int .i64 a1_2, .int .i64 a1_3, .int .i64 a1_4, .int .i64 a1_5, .slice A1_6 l1_6.length c1_6, .slice A1_7 l1_7.length c1_7]) (t := 51) ?hr ?_; (case hd => rfl); (case hg => rfl); (case hr => first | (go_simp; done) | (go_simp; rfl)); intro gq hg w2 hbox hb; have HB2 := Aside0.mk (below_step (by repeat (first | (with_reducible first | exact HB1.out | apply below_alloc | apply pw_below_drewN | apply below_drew1) | exact HB1.out)) hb); have Ggq := Aside0.mk (show w.heap.size ≤ gq by (rw [hg]; exact below_size (by repeat (first | (with_reducible first | exact HB1.out | apply below_alloc | apply pw_below_drewN | apply below_drew1) | exact HB1.out)))); have BQ2 := Aside0.mk hbox; have BP2 := Aside0.mk (blk_below BP1.out hb); have hza_0 : w2.cell? ⟨gp, 0, none⟩ = some (.int .i64 a0_0) := (blk_cell BP2.out 0).trans rfl; have hza_1 : w2.cell? ⟨gp, 1, none⟩ = some (.int .i64 a0_1) := (blk_cell BP2.out 1).trans rfl; have hza_2 : w2.cell? ⟨gp, 2, none⟩ = some (.int .i64 a0_2) := (blk_cell BP2.out 2).trans rfl; have hza_3 : w2.cell? ⟨gp, 3, none⟩ = some (.int .i64 a0_3) := (blk_cell BP2.out 3).trans rfl; have hza_4 : w2.cell? ⟨gp, 4, none⟩ = some (.int .i64 a0_4) := (blk_cell BP2.out 4).trans rfl; have hza_5 : w2.cell? ⟨gp, 5, none⟩ = some (.int .i64 a0_5) := (blk_cell BP2.out 5).trans rfl; have hza_6 : w2.cell? ⟨gp, 6, none⟩ = some (.slice A0_6 l0_6.length c0_6) := (blk_cell BP2.out 6).trans rfl; have hza_7 : w2.cell? ⟨gp, 7, none⟩ = some (.slice A0_7 l0_7.length c0_7) := (blk_cell BP2.out 7).trans rfl; clear hb hbox hg) | ((with_reducible refine gate_dst (N := 12) rfl ?_); refine goesL_ (some 12) rfl rfl Try.func49 (by kernel_rfl) rfl #[.agg #[.int .i64 a0_0, .int .i64 a0_1, .int .i64 a0_2, .int .i64 a0_3, .int .i64 a0_4, .int .i64 a0_5, .slice A0_6 l0_6.length c0_6, .slice A0_7 l0_7.length c0_7]] rfl (by (try simp only [List.map_toArray, List.map_cons, List.map_nil]); first | done | rfl | (simp only [List.length_drop, List.length_take]; rfl)) ?_; (with_reducible refine (grapevineref13_Plain.calls k a0_0 a0_1 a0_2 a0_3 a0_4 a0_5 _ _ l0_6 _ _ l0_7 (4) r2 r3 r4 r5 r6 r7 r8 _ ?s1 HC0_6.out ?s3 HC0_7.out HPL.out).mono ?_); (case s1 => repeat (first | exact (Kd.C_below HR0_6.out HB2.out) | (with_reducible refine Kd.C_alloc ?_ _) | (with_reducible refine Kd.C_drewN ?_ _) | (with_reducible refine Kd.C_drew ?_))); (case s3 => repeat (first | exact (Kd.C_below HR0_7.out HB2.out) | (with_reducible refine Kd.C_alloc ?_ _) | (with_reducible refine Kd.C_drewN ?_ _) | (with_reducible refine Kd.C_drew ?_))); rintro e w3 ⟨v6, v7, rfl, ho6, ho7, hb⟩; refine ⟨_, rfl, ?_⟩; have HB3 := Aside0.mk (below_step HB2.out hb); have BQ3 := Aside0.mk (blk_below BQ2.out hb); have HS3 := Aside0.mk (Kd.R_lower ho6 (below_size HB2.out)); have HI3 := Aside0.mk (Kd.S_lower ho7 (below_size HB2.out)); obtain ⟨A6, c6, e6⟩ := Kd.R_slice HS3.out; subst e6; obtain ⟨A7, c7, e7⟩ := Kd.S_slice HI3.out; subst e7; clear hb ho6 ho7) | ((with_reducible refine gate_dst (N := 5) rfl ?_); refine box_event ?hg (N := 5) ?hd (cs := #[.int .i64 0, .int .i64 0, .int .i64 0, .int .i64 0, .int .i64 0, .int .i64 0, .slice none 0 0, .slice none 0 0]) (t := 51) ?hr ?_; (case hd => rfl); (case hg => rfl); (case hr => first | (go_simp; done) | (go_simp; rfl)); intro gx hg w4 hbox hb; have Nq_x : gq ≠ gx := (fun e_ => absurd (blk_lt BQ3.out) (by rw [e_, hg]; exact Nat.lt_irrefl _)); have HB4 := Aside0.mk (below_step (by repeat (first | (with_reducible first | exact HB3.out | apply below_alloc | apply pw_below_drewN | apply below_drew1) | exact HB3.out)) hb); have Ggx := Aside0.mk (show w.heap.size ≤ gx by (rw [hg]; exact below_size (by repeat (first | (with_reducible first | exact HB3.out | apply below_alloc | apply pw_below_drewN | apply below_drew1) | exact HB3.out)))); have BX4 := Aside0.mk hbox; have BQ4 := Aside0.mk (blk_below BQ3.out hb); have HS4 := Aside0.mk (Kd.R_below HS3.out hb); have HI4 := Aside0.mk (Kd.S_below HI3.out hb); have hzn5_0 : w4.cell? ⟨gx, 0, none⟩ = some (.int .i64 0) := (blk_cell BX4.out 0).trans rfl; have hzn5_1 : w4.cell? ⟨gx, 1, none⟩ = some (.int .i64 0) := (blk_cell BX4.out 1).trans rfl; have hzn5_2 : w4.cell? ⟨gx, 2, none⟩ = some (.int .i64 0) := (blk_cell BX4.out 2).trans rfl; have hzn5_3 : w4.cell? ⟨gx, 3, none⟩ = some (.int .i64 0) := (blk_cell BX4.out 3).trans rfl; have hzn5_4 : w4.cell? ⟨gx, 4, none⟩ = some (.int .i64 0) := (blk_cell BX4.out 4).trans rfl; have hzn5_5 : w4.cell? ⟨gx, 5, none⟩ = some (.int .i64 0) := (blk_cell BX4.out 5).trans rfl; have hzn5_6 : w4.cell? ⟨gx, 6, none⟩ = some (.slice none 0 0) := (blk_cell BX4.out 6).trans rfl; have hzn5_7 : w4.cell? ⟨gx, 7, none⟩ = some (.slice none 0 0) := (blk_cell BX4.out 7).trans rfl; have fzn5_0 := blk_frozen BX4.out 0; have fzn5_1 := blk_frozen BX4.out 1; have fzn5_2 := blk_frozen BX4.out 2; have fzn5_3 := blk_frozen BX4.out 3; have fzn5_4 := blk_frozen BX4.out 4; have fzn5_5 := blk_frozen BX4.out 5; have fzn5_6 := blk_frozen BX4.out 6; have fzn5_7 := blk_frozen BX4.out 7; clear hb hbox hg) | ((with_reducible refine gate_store (t := 51) (p := 5) (v := .tmp 12) rfl ?_); refine store_event rfl (t := 51) (p := 5) (v := .tmp 12) rfl rfl (w1 := ((((((((w4.setCell ⟨gx, 0, none⟩ (.int .i64 (4))).setCell ⟨gx, 1, none⟩ (.int .i64 r2)).setCell ⟨gx, 2, none⟩ (.int .i64 r3)).setCell ⟨gx, 3, none⟩ (.int .i64 r4)).setCell ⟨gx, 4, none⟩ (.int .i64 r5)).setCell ⟨gx, 5, none⟩ (.int .i64 r6)).setCell ⟨gx, 6, none⟩ (.slice A6 r7.length c6)).setCell ⟨gx, 7, none⟩ (.slice A7 r8.length c7))) ?hr ?_; (case hr => first | (go_simp; done) | (go_simp; rfl)); intro w5 hw; have hf : ∀ i, i ≠ gx → w5.heap[i]? = w4.heap[i]? := fun i hi => (by rw [hw]; exact far8 w4 gx (.int .i64 (4)) (.int .i64 r2) (.int .i64 r3) (.int .i64 r4) (.int .i64 r5) (.int .i64 r6) (.slice A6 r7.length c6) (.slice A7 r8.length c7) i hi); have BX5 := Aside0.mk (show w5.heap[gx]? = some (.cells #[.int .i64 (4), .int .i64 r2, .int .i64 r3, .int .i64 r4, .int .i64 r5, .int .i64 r6, .slice A6 r7.length c6, .slice A7 r8.length c7] 51 (0, 0)) by (rw [hw]; exact blk_put (blk_put (blk_put (blk_put (blk_put (blk_put (blk_put (blk_put (BX4.out) 0 _ rfl) 1 _ rfl) 2 _ rfl) 3 _ rfl) 4 _ rfl) 5 _ rfl) 6 _ rfl) 7 _ rfl)); have HB5 := Aside0.mk (show Below w.heap.size w w5 by (rw [hw]; exact below_set (below_set (below_set (below_set (below_set (below_set (below_set (below_set (HB4.out) Ggx.out) Ggx.out) Ggx.out) Ggx.out) Ggx.out) Ggx.out) Ggx.out) Ggx.out)); have BQ5 := Aside0.mk ((hf gq Nq_x).trans BQ4.out); have HS5 := Aside0.mk (R_farT HS4.out BX4.out ne_spans hf); have HI5 := Aside0.mk (S_farT HI4.out BX4.out ne_items hf); have hzxa_0 : w5.cell? ⟨gx, 0, none⟩ = some (.int .i64 (4)) := (blk_cell BX5.out 0).trans rfl; have hzxa_1 : w5.cell? ⟨gx, 1, none⟩ = some (.int .i64 r2) := (blk_cell BX5.out 1).trans rfl; have hzxa_2 : w5.cell? ⟨gx, 2, none⟩ = some (.int .i64 r3) := (blk_cell BX5.out 2).trans rfl; have hzxa_3 : w5.cell? ⟨gx, 3, none⟩ = some (.int .i64 r4) := (blk_cell BX5.out 3).trans rfl; have hzxa_4 : w5.cell? ⟨gx, 4, none⟩ = some (.int .i64 r5) := (blk_cell BX5.out 4).trans rfl; have hzxa_5 : w5.cell? ⟨gx, 5, none⟩ = some (.int .i64 r6) := (blk_cell BX5.out 5).trans rfl; have hzxa_6 : w5.cell? ⟨gx, 6, none⟩ = some (.slice A6 r7.length c6) := (blk_cell BX5.out 6).trans rfl; have hzxa_7 : w5.cell? ⟨gx, 7, none⟩ = some (.slice A7 r8.length c7) := (blk_cell BX5.out 7).trans rfl; clear hw hf) | ((with_reducible refine gate_dst (N := 6) rfl ?_); refine box_event ?hg (N := 6) ?hd (cs := #[.int .i64 0, .int .i64 0, .int .i64 0, .int .i64 0, .int .i64 0, .int .i64 0, .slice none 0 0, .slice none 0 0]) (t := 51) ?hr ?_; (case hd => rfl); (case hg => rfl); (case hr => first | (go_simp; done) | (go_simp; rfl)); intro gy hg w6 hbox hb; have Nq_y : gq ≠ gy := (fun e_ => absurd (blk_lt BQ5.out) (by rw [e_, hg]; exact Nat.lt_irrefl _)); have Nx_y : gx ≠ gy := (fun e_ => absurd (blk_lt BX5.out) (by rw [e_, hg]; exact Nat.lt_irrefl _)); have HB6 := Aside0.mk (below_step (by repeat (first | (with_reducible first | exact HB5.out | apply below_alloc | apply pw_below_drewN | apply below_drew1) | exact HB5.out)) hb); have Ggy := Aside0.mk (show w.heap.size ≤ gy by (rw [hg]; exact below_size (by repeat (first | (with_reducible first | exact HB5.out | apply below_alloc | apply pw_below_drewN | apply below_drew1) | exact HB5.out)))); have BY6 := Aside0.mk hbox; have BX6 := Aside0.mk (blk_below BX5.out hb); have BQ6 := Aside0.mk (blk_below BQ5.out hb); have HS6 := Aside0.mk (Kd.R_below HS5.out hb); have HI6 := Aside0.mk (Kd.S_below HI5.out hb); have hzn6_0 : w6.cell? ⟨gy, 0, none⟩ = some (.int .i64 0) := (blk_cell BY6.out 0).trans rfl; have hzn6_1 : w6.cell? ⟨gy, 1, none⟩ = some (.int .i64 0) := (blk_cell BY6.out 1).trans rfl; have hzn6_2 : w6.cell? ⟨gy, 2, none⟩ = some (.int .i64 0) := (blk_cell BY6.out 2).trans rfl; have hzn6_3 : w6.cell? ⟨gy, 3, none⟩ = some (.int .i64 0) := (blk_cell BY6.out 3).trans rfl; have hzn6_4 : w6.cell? ⟨gy, 4, none⟩ = some (.int .i64 0) := (blk_cell BY6.out 4).trans rfl; have hzn6_5 : w6.cell? ⟨gy, 5, none⟩ = some (.int .i64 0) := (blk_cell BY6.out 5).trans rfl; have hzn6_6 : w6.cell? ⟨gy, 6, none⟩ = some (.slice none 0 0) := (blk_cell BY6.out 6).trans rfl; have hzn6_7 : w6.cell? ⟨gy, 7, none⟩ = some (.slice none 0 0) := (blk_cell BY6.out 7).trans rfl; have fzn6_0 := blk_frozen BY6.out 0; have fzn6_1 := blk_frozen BY6.out 1; have fzn6_2 := blk_frozen BY6.out 2; have fzn6_3 := blk_frozen BY6.out 3; have fzn6_4 := blk_frozen BY6.out 4; have fzn6_5 := blk_frozen BY6.out 5; have fzn6_6 := blk_frozen BY6.out 6; have fzn6_7 := blk_frozen BY6.out 7; clear hb hbox hg) | ((with_reducible refine gate_store (t := 51) (p := 6) (v := .tmp 13) rfl ?_); refine store_event rfl (t := 51) (p := 6) (v := .tmp 13) rfl rfl (w1 := ((((((((w6.setCell ⟨gy, 0, none⟩ (.int .i64 (4))).setCell ⟨gy, 1, none⟩ (.int .i64 r2)).setCell ⟨gy, 2, none⟩ (.int .i64 r3)).setCell ⟨gy, 3, none⟩ (.int .i64 r4)).setCell ⟨gy, 4, none⟩ (.int .i64 r5)).setCell ⟨gy, 5, none⟩ (.int .i64 r6)).setCell ⟨gy, 6, none⟩ (.slice A6 r7.length c6)).setCell ⟨gy, 7, none⟩ (.slice A7 r8.length c7))) ?hr ?_; (case hr => first | (go_simp; done) | (go_simp; rfl)); intro w7 hw; have hf : ∀ i, i ≠ gy → w7.heap[i]? = w6.heap[i]? := fun i hi => (by rw [hw]; exact far8 w6 gy (.int .i64 (4)) (.int .i64 r2) (.int .i64 r3) (.int .i64 r4) (.int .i64 r5) (.int .i64 r6) (.slice A6 r7.length c6) (.slice A7 r8.length c7) i hi); have BY7 := Aside0.mk (show w7.heap[gy]? = some (.cells #[.int .i64 (4), .int .i64 r2, .int .i64 r3, .int .i64 r4, .int .i64 r5, .int .i64 r6, .slice A6 r7.length c6, .slice A7 r8.length c7] 51 (0, 0)) by (rw [hw]; exact blk_put (blk_put (blk_put (blk_put (blk_put (blk_put (blk_put (blk_put (BY6.out) 0 _ rfl) 1 _ rfl) 2 _ rfl) 3 _ rfl) 4 _ rfl) 5 _ rfl) 6 _ rfl) 7 _ rfl)); have HB7 := Aside0.mk (show Below w.heap.size w w7 by (rw [hw]; exact below_set (below_set (below_set (below_set (below_set (below_set (below_set (below_set (HB6.out) Ggy.out) Ggy.out) Ggy.out) Ggy.out) Ggy.out) Ggy.out) Ggy.out) Ggy.out)); have BX7 := Aside0.mk ((hf gx Nx_y).trans BX6.out); have BQ7 := Aside0.mk ((hf gq Nq_y).trans BQ6.out); have HS7 := Aside0.mk (R_farT HS6.out BY6.out ne_spans hf); have HI7 := Aside0.mk (S_farT HI6.out BY6.out ne_items hf); have hzya_0 : w7.cell? ⟨gy, 0, none⟩ = some (.int .i64 (4)) := (blk_cell BY7.out 0).trans rfl; have hzya_1 : w7.cell? ⟨gy, 1, none⟩ = some (.int .i64 r2) := (blk_cell BY7.out 1).trans rfl; have hzya_2 : w7.cell? ⟨gy, 2, none⟩ = some (.int .i64 r3) := (blk_cell BY7.out 2).trans rfl; have hzya_3 : w7.cell? ⟨gy, 3, none⟩ = some (.int .i64 r4) := (blk_cell BY7.out 3).trans rfl; have hzya_4 : w7.cell? ⟨gy, 4, none⟩ = some (.int .i64 r5) := (blk_cell BY7.out 4).trans rfl; have hzya_5 : w7.cell? ⟨gy, 5, none⟩ = some (.int .i64 r6) := (blk_cell BY7.out 5).trans rfl; have hzya_6 : w7.cell? ⟨gy, 6, none⟩ = some (.slice A6 r7.length c6) := (blk_cell BY7.out 6).trans rfl; have hzya_7 : w7.cell? ⟨gy, 7, none⟩ = some (.slice A7 r8.length c7) := (blk_cell BY7.out 7).trans rfl; have hzxb_0 : w7.cell? ⟨gx, 0, none⟩ = some (.int .i64 (4)) := (blk_cell BX7.out 0).trans rfl; clear hw hf))
  refine start_ (n := 8) (S := fun w' => w'.heap[gq]? = some (.cells #[.int .i64 a1_0, .int .i64 a1_1, .int .i64 a1_2, .int .i64 a1_3, .int .i64 a1_4, .int .i64 a1_5, .slice A1_6 l1_6.length c1_6, .slice A1_7 l1_7.length c1_7] 51 (0, 0))) (ds := [7]) #[false, false, false, false, false, false, false, false] (by kernel_rfl) rfl rfl (blk_drew BQ7.out) (fun hHeld => ?_)
  refine with_tabW grapevinelaw13_ParcelUnused.tab4 grapevinelaw13_ParcelUnused.bits4 (fun HT_ HW_ => ?_)
  replace HB7 := Aside0.mk (below_drew1 HB7.out)
  replace BX7 := Aside0.mk (blk_drew BX7.out)
  replace BY7 := Aside0.mk (blk_drew BY7.out)
  replace BQ7 := Aside0.mk (blk_drew BQ7.out)
  replace HS7 := Aside0.mk (Kd.R_drew HS7.out)
  replace HI7 := Aside0.mk (Kd.S_drew HI7.out)
  generalize w7.drew = w8 at HB7 BX7 BY7 BQ7 HS7 HI7 hHeld ⊢
  have HB8 := HB7
  have BX8 := BX7
  have BY8 := BY7
  have BQ8 := BQ7
  have HS8 := HS7
  have HI8 := HI7
  refine pure_ (i := 0) (N := some 17) (v := ?_) (a' := ?_) #[true, false, false, false, false, false, false, false] rfl rfl (any_of HT_.out (by kernel_rfl)) (fun _ _ _ h => h) (Or.inl ⟨by rfl, ?_⟩) ?_ ?_
  rotate_left
  ·
   intro w'
   go_simp
   with_reducible rfl
  rotate_left
  ·
   simp only [Act.put, List.setIfInBounds_toArray, List.set_cons_zero, List.set_cons_succ, i64_w, i32_w]
   rfl
  refine take_ (i := 1) (N := some 18) (v := ?_) (a' := ?_) #[true, true, false, false, false, false, false, false] rfl rfl (take_ofW HT_.out HW_.out (by kernel_rfl)) (fun _ _ _ h => h) (Or.inl ⟨by rfl, ?_⟩) hHeld ?_ ?_
  rotate_left
  ·
   rintro w' s0
   have s1 := (blk_cell s0 6).trans rfl
   go_simp
   with_reducible rfl
  rotate_left
  ·
   simp only [Act.put, List.setIfInBounds_toArray, List.set_cons_zero, List.set_cons_succ, i64_w, i32_w]
   rfl
  refine pure_ (i := 2) (N := some 19) (v := ?_) (a' := ?_) #[true, true, true, false, false, false, false, false] rfl rfl (any_of HT_.out (by kernel_rfl)) (fun _ _ _ h => h) (Or.inl ⟨by rfl, ?_⟩) ?_ ?_
  rotate_left
  ·
   intro w'
   go_simp
   with_reducible rfl
  rotate_left
  ·
   simp only [Act.put, List.setIfInBounds_toArray, List.set_cons_zero, List.set_cons_succ, i64_w, i32_w]
   rfl
  refine take_ (i := 3) (N := some 20) (v := ?_) (a' := ?_) #[true, true, true, true, false, false, false, false] rfl rfl (take_ofW HT_.out HW_.out (by kernel_rfl)) (fun _ _ _ h => h) (Or.inl ⟨by rfl, ?_⟩) hHeld ?_ ?_
  rotate_left
  ·
   rintro w' s0
   have s1 := (blk_cell s0 7).trans rfl
   go_simp
   with_reducible rfl
  rotate_left
  ·
   simp only [Act.put, List.setIfInBounds_toArray, List.set_cons_zero, List.set_cons_succ, i64_w, i32_w]
   rfl
  refine pure_ (i := 4) (N := some 21) (v := ?_) (a' := ?_) #[true, true, true, true, true, false, false, false] rfl rfl (any_of HT_.out (by kernel_rfl)) (fun _ _ _ h => h) (Or.inl ⟨by rfl, ?_⟩) ?_ ?_
  rotate_left
  ·
   intro w'
   go_simp
   with_reducible rfl
  rotate_left
  ·
   simp only [Act.put, List.setIfInBounds_toArray, List.set_cons_zero, List.set_cons_succ, i64_w, i32_w]
   rfl
  refine one_ (i := 5) (N := none) #[true, true, true, true, true, true, false, false] rfl rfl (one_of HT_.out (by kernel_rfl)) (by decide) (fun K hK => ?_)
  have hz_ : w8.cell? ⟨gy, 6, none⟩ = some (.slice A6 r7.length c6) := (blk_cell BY8.out 6).trans rfl
  have fz_ := blk_frozen BY8.out 6
  refine skip_ (w1 := w8.setCell ⟨gy, 6, none⟩ (.slice A1_6 l1_6.length c1_6)) (by rfl) rfl ?_ ?_
  ·
   go_simp
  clear hz_ fz_
  have hf : ∀ i, i ≠ gy → (w8.setCell ⟨gy, 6, none⟩ (.slice A1_6 l1_6.length c1_6)).heap[i]? = w8.heap[i]? := fun i hi => far1 w8 gy 6 (.slice A1_6 l1_6.length c1_6) i hi
  have BY9 := Aside0.mk (show (w8.setCell ⟨gy, 6, none⟩ (.slice A1_6 l1_6.length c1_6)).heap[gy]? = some (.cells #[.int .i64 (4), .int .i64 r2, .int .i64 r3, .int .i64 r4, .int .i64 r5, .int .i64 r6, .slice A1_6 l1_6.length c1_6, .slice A7 r8.length c7] 51 (0, 0)) from blk_put BY8.out 6 _ rfl)
  have HB9 := Aside0.mk (show Below w.heap.size w (w8.setCell ⟨gy, 6, none⟩ (.slice A1_6 l1_6.length c1_6)) from below_set HB8.out Ggy.out)
  have BX9 := Aside0.mk ((hf gx Nx_y).trans BX8.out)
  have BQ9 := Aside0.mk ((hf gq Nq_y).trans BQ8.out)
  have HS9 := Aside0.mk (R_farT HS8.out BY8.out ne_spans hf)
  have HI9 := Aside0.mk (S_farT HI8.out BY8.out ne_items hf)
  clear hf
  refine hK.out _ _ BQ9.out (fun hHeld => ?_)
  clear hK K
  generalize w8.setCell ⟨gy, 6, none⟩ (.slice A1_6 l1_6.length c1_6) = w9 at HB9 BX9 BY9 BQ9 HS9 HI9 hHeld ⊢
  refine pure_ (i := 6) (N := some 22) (v := ?_) (a' := ?_) #[true, true, true, true, true, true, true, false] rfl rfl (any_of HT_.out (by kernel_rfl)) (fun _ _ _ h => h) (Or.inl ⟨by rfl, ?_⟩) ?_ ?_
  rotate_left
  ·
   intro w'
   go_simp
   with_reducible rfl
  rotate_left
  ·
   simp only [Act.put, List.setIfInBounds_toArray, List.set_cons_zero, List.set_cons_succ, i64_w, i32_w]
   rfl
  refine last_ (i := 7) (N := none) #[true, true, true, true, true, true, true, true] rfl rfl (one_of HT_.out (by kernel_rfl)) (by decide) (fun K hK => ?_)
  have hz_ : w9.cell? ⟨gy, 7, none⟩ = some (.slice A7 r8.length c7) := (blk_cell BY9.out 7).trans rfl
  have fz_ := blk_frozen BY9.out 7
  refine skip_ (w1 := w9.setCell ⟨gy, 7, none⟩ (.slice A1_7 l1_7.length c1_7)) (by rfl) rfl ?_ ?_
  ·
   go_simp
  clear hz_ fz_
  have hf : ∀ i, i ≠ gy → (w9.setCell ⟨gy, 7, none⟩ (.slice A1_7 l1_7.length c1_7)).heap[i]? = w9.heap[i]? := fun i hi => far1 w9 gy 7 (.slice A1_7 l1_7.length c1_7) i hi
  have BY10 := Aside0.mk (show (w9.setCell ⟨gy, 7, none⟩ (.slice A1_7 l1_7.length c1_7)).heap[gy]? = some (.cells #[.int .i64 (4), .int .i64 r2, .int .i64 r3, .int .i64 r4, .int .i64 r5, .int .i64 r6, .slice A1_6 l1_6.length c1_6, .slice A1_7 l1_7.length c1_7] 51 (0, 0)) from blk_put BY9.out 7 _ rfl)
  have HB10 := Aside0.mk (show Below w.heap.size w (w9.setCell ⟨gy, 7, none⟩ (.slice A1_7 l1_7.length c1_7)) from below_set HB9.out Ggy.out)
  have BX10 := Aside0.mk ((hf gx Nx_y).trans BX9.out)
  have BQ10 := Aside0.mk ((hf gq Nq_y).trans BQ9.out)
  have HS10 := Aside0.mk (R_farT HS9.out BY9.out ne_spans hf)
  have HI10 := Aside0.mk (S_farT HI9.out BY9.out ne_items hf)
  clear hf
  refine hK.out _ _ ?_
  clear hK K
  generalize w9.setCell ⟨gy, 7, none⟩ (.slice A1_7 l1_7.length c1_7) = w10 at HB10 BX10 BY10 BQ10 HS10 HI10 ⊢
  refine done_ (done_of HT_.out (by kernel_rfl)) ?_
  clear hHeld
  have hx10_ : w10.cell? ⟨gx, 0, none⟩ = some (.int .i64 (4)) := (blk_cell BX10.out 0).trans rfl
  have hq_ : w10.cell? ⟨gq, 5, none⟩ = some (.int .i64 a1_5) := (blk_cell BQ10.out 5).trans rfl
  have hz_ : w10.cell? ⟨gy, 5, none⟩ = some (.int .i64 r6) := (blk_cell BY10.out 5).trans rfl
  have fz_ := blk_frozen BY10.out 5
  go_wp2_with (first | ((with_reducible refine gate_store (t := 3) (p := 39) (v := .tmp 38) rfl ?_); refine store_event rfl (t := 3) (p := 39) (v := .tmp 38) rfl rfl (w1 := w10.setCell ⟨gy, 5, none⟩ (.int .i64 a1_5)) ?hr ?_; (case hr => first | (go_simp; done) | (go_simp; rfl)); intro w11 hw; have hf : ∀ i, i ≠ gy → w11.heap[i]? = w10.heap[i]? := fun i hi => (by rw [hw]; exact far1 w10 gy 5 _ i hi); have BY11 := Aside0.mk (show w11.heap[gy]? = some (.cells #[.int .i64 (4), .int .i64 r2, .int .i64 r3, .int .i64 r4, .int .i64 r5, .int .i64 a1_5, .slice A1_6 l1_6.length c1_6, .slice A1_7 l1_7.length c1_7] 51 (0, 0)) by (rw [hw]; exact blk_put BY10.out 5 _ rfl)); have HB11 := Aside0.mk (show Below w.heap.size w w11 by (rw [hw]; exact below_set HB10.out Ggy.out)); have BX11 := Aside0.mk ((hf gx Nx_y).trans BX10.out); have BQ11 := Aside0.mk ((hf gq Nq_y).trans BQ10.out); have HS11 := Aside0.mk (R_farT HS10.out BY10.out ne_spans hf); have HI11 := Aside0.mk (S_farT HI10.out BY10.out ne_items hf); have hx11_ : w11.cell? ⟨gx, 0, none⟩ = some (.int .i64 (4)) := (blk_cell BX11.out 0).trans rfl; have hq2_ : w11.cell? ⟨gq, 4, none⟩ = some (.int .i64 a1_4) := (blk_cell BQ11.out 4).trans rfl; have hz2_ : w11.cell? ⟨gy, 4, none⟩ = some (.int .i64 r5) := (blk_cell BY11.out 4).trans rfl; have fz2_ := blk_frozen BY11.out 4; clear hw hf) | ((with_reducible refine gate_store (t := 3) (p := 50) (v := .tmp 49) rfl ?_); refine store_event rfl (t := 3) (p := 50) (v := .tmp 49) rfl rfl (w1 := w11.setCell ⟨gy, 4, none⟩ (.int .i64 a1_4)) ?hr ?_; (case hr => first | (go_simp; done) | (go_simp; rfl)); intro w12 hw; have hf : ∀ i, i ≠ gy → w12.heap[i]? = w11.heap[i]? := fun i hi => (by rw [hw]; exact far1 w11 gy 4 _ i hi); have BY12 := Aside0.mk (show w12.heap[gy]? = some (.cells #[.int .i64 (4), .int .i64 r2, .int .i64 r3, .int .i64 r4, .int .i64 a1_4, .int .i64 a1_5, .slice A1_6 l1_6.length c1_6, .slice A1_7 l1_7.length c1_7] 51 (0, 0)) by (rw [hw]; exact blk_put BY11.out 4 _ rfl)); have HB12 := Aside0.mk (show Below w.heap.size w w12 by (rw [hw]; exact below_set HB11.out Ggy.out)); have BX12 := Aside0.mk ((hf gx Nx_y).trans BX11.out); have BQ12 := Aside0.mk ((hf gq Nq_y).trans BQ11.out); have HS12 := Aside0.mk (R_farT HS11.out BY11.out ne_spans hf); have HI12 := Aside0.mk (S_farT HI11.out BY11.out ne_items hf); have hx12_ : w12.cell? ⟨gx, 0, none⟩ = some (.int .i64 (4)) := (blk_cell BX12.out 0).trans rfl; have hzxc_0 : w12.cell? ⟨gx, 0, none⟩ = some (.int .i64 (4)) := (blk_cell BX12.out 0).trans rfl; have hzxc_1 : w12.cell? ⟨gx, 1, none⟩ = some (.int .i64 r2) := (blk_cell BX12.out 1).trans rfl; have hzxc_2 : w12.cell? ⟨gx, 2, none⟩ = some (.int .i64 r3) := (blk_cell BX12.out 2).trans rfl; have hzxc_3 : w12.cell? ⟨gx, 3, none⟩ = some (.int .i64 r4) := (blk_cell BX12.out 3).trans rfl; have hzxc_4 : w12.cell? ⟨gx, 4, none⟩ = some (.int .i64 r5) := (blk_cell BX12.out 4).trans rfl; have hzxc_5 : w12.cell? ⟨gx, 5, none⟩ = some (.int .i64 r6) := (blk_cell BX12.out 5).trans rfl; have hzxc_6 : w12.cell? ⟨gx, 6, none⟩ = some (.slice A6 r7.length c6) := (blk_cell BX12.out 6).trans rfl; have hzxc_7 : w12.cell? ⟨gx, 7, none⟩ = some (.slice A7 r8.length c7) := (blk_cell BX12.out 7).trans rfl; clear hw hf) | ((with_reducible refine gate_dst (N := 53) rfl ?_); refine goesL_ (some 53) rfl rfl Try.func47 (by kernel_rfl) rfl #[.agg #[.int .i64 (4), .int .i64 r2, .int .i64 r3, .int .i64 r4, .int .i64 r5, .int .i64 r6, .slice A6 r7.length c6, .slice A7 r8.length c7]] rfl (by (try simp only [List.map_toArray, List.map_cons, List.map_nil]); first | done | rfl | (simp only [List.length_drop, List.length_take]; rfl)) ?_; (with_reducible refine (parcel_Put.calls k (4) r2 r3 r4 r5 r6 _ _ r7 _ _ r8 u1 u2 _ ?s1 ?s2 ?s3 ?s4 HPX.out).mono ?_); (case s1 => exact (Kd.R_reads' HS12.out).2.2); (case s2 => exact (Kd.R_reads' HS12.out).2.1); (case s3 => exact (Kd.S_reads' HI12.out).2.2); (case s4 => exact (Kd.S_reads' HI12.out).2.1); rintro e w13 ⟨vu, rfl, hq, hb⟩; refine ⟨_, rfl, ?_⟩; have HB13 := Aside0.mk (below_step HB12.out hb); have BX13 := Aside0.mk (blk_below BX12.out hb); have BY13 := Aside0.mk (blk_below BY12.out hb); have HS13 := Aside0.mk (Kd.R_below HS12.out hb); have HI13 := Aside0.mk (Kd.S_below HI12.out hb); have HU13 := Aside0.mk (Kd.R_lower hq (below_size HB12.out)); obtain ⟨Au, cu, eu⟩ := Kd.R_slice HU13.out; subst eu; have hzyc_0 : w13.cell? ⟨gy, 0, none⟩ = some (.int .i64 (4)) := (blk_cell BY13.out 0).trans rfl; have hzyc_1 : w13.cell? ⟨gy, 1, none⟩ = some (.int .i64 r2) := (blk_cell BY13.out 1).trans rfl; have hzyc_2 : w13.cell? ⟨gy, 2, none⟩ = some (.int .i64 r3) := (blk_cell BY13.out 2).trans rfl; have hzyc_3 : w13.cell? ⟨gy, 3, none⟩ = some (.int .i64 r4) := (blk_cell BY13.out 3).trans rfl; have hzyc_4 : w13.cell? ⟨gy, 4, none⟩ = some (.int .i64 a1_4) := (blk_cell BY13.out 4).trans rfl; have hzyc_5 : w13.cell? ⟨gy, 5, none⟩ = some (.int .i64 a1_5) := (blk_cell BY13.out 5).trans rfl; have hzyc_6 : w13.cell? ⟨gy, 6, none⟩ = some (.slice A1_6 l1_6.length c1_6) := (blk_cell BY13.out 6).trans rfl; have hzyc_7 : w13.cell? ⟨gy, 7, none⟩ = some (.slice A1_7 l1_7.length c1_7) := (blk_cell BY13.out 7).trans rfl; clear hq hb) | ((with_reducible refine gate_dst (N := 58) rfl ?_); refine goesL_ (some 58) rfl rfl Try.func47 (by kernel_rfl) rfl #[.agg #[.int .i64 (4), .int .i64 r2, .int .i64 r3, .int .i64 r4, .int .i64 a1_4, .int .i64 a1_5, .slice A1_6 l1_6.length c1_6, .slice A1_7 l1_7.length c1_7]] rfl (by (try simp only [List.map_toArray, List.map_cons, List.map_nil]); first | done | rfl | (simp only [List.length_drop, List.length_take]; rfl)) ?_; (with_reducible refine (parcel_Put.calls k (4) r2 r3 r4 a1_4 a1_5 _ _ l1_6 _ _ l1_7 v1 u2 _ ?s1 ?s2 ?s3 ?s4 HPY.out).mono ?_); (case s1 => exact (Kd.C_below HR1_6.out HB13.out)); (case s2 => exact HC1_6.out); (case s3 => exact (Kd.C_below HR1_7.out HB13.out)); (case s4 => exact HC1_7.out); rintro e w14 ⟨vv, rfl, hq, hb⟩; refine ⟨_, rfl, ?_⟩; have HB14 := Aside0.mk (below_step HB13.out hb); have BX14 := Aside0.mk (blk_below BX13.out hb); have BY14 := Aside0.mk (blk_below BY13.out hb); have HS14 := Aside0.mk (Kd.R_below HS13.out hb); have HI14 := Aside0.mk (Kd.S_below HI13.out hb); have HU14 := Aside0.mk (Kd.R_below HU13.out hb); have HV14 := Aside0.mk (Kd.R_lower hq (below_size HB13.out)); obtain ⟨Av, cv, ev⟩ := Kd.R_slice HV14.out; subst ev; clear hq hb))
  refine start_ (n := 21) (S := fun w' => w'.heap[gx]? = some (.cells #[.int .i64 (4), .int .i64 r2, .int .i64 r3, .int .i64 r4, .int .i64 r5, .int .i64 r6, .slice A6 r7.length c6, .slice A7 r8.length c7] 51 (0, 0)) ∧ w'.heap[gy]? = some (.cells #[.int .i64 (4), .int .i64 r2, .int .i64 r3, .int .i64 r4, .int .i64 a1_4, .int .i64 a1_5, .slice A1_6 l1_6.length c1_6, .slice A1_7 l1_7.length c1_7] 51 (0, 0)) ∧ (Kd.int .u8).C w' Au u1.length u1 ∧ (Kd.int .u8).C w' Av v1.length v1) (ds := []) #[false, false, false, false, false, false, false, false, false, false, false, false, false, false, false, false, false, false, false, false, false] (by kernel_rfl) rfl rfl ⟨blk_drew BX14.out, blk_drew BY14.out, Kd.C_drew (Kd.R_reads' HU14.out).2.2, Kd.C_drew (Kd.R_reads' HV14.out).2.2⟩ (fun hHeld => ?_)
  refine with_tabW grapevinelaw13_ParcelUnused.tab12 grapevinelaw13_ParcelUnused.bits12 (fun HT_ HW_ => ?_)
  replace HB14 := Aside0.mk (below_drew1 HB14.out)
  replace BX14 := Aside0.mk (blk_drew BX14.out)
  replace BY14 := Aside0.mk (blk_drew BY14.out)
  replace HS14 := Aside0.mk (Kd.R_drew HS14.out)
  replace HU14 := Aside0.mk (Kd.R_drew HU14.out)
  replace HV14 := Aside0.mk (Kd.R_drew HV14.out)
  replace HI14 := Aside0.mk (Kd.S_drew HI14.out)
  generalize w14.drew = w15 at HB14 BX14 BY14 HS14 HI14 HU14 HV14 hHeld ⊢
  have HB15 := HB14
  have BX15 := BX14
  have BY15 := BY14
  have HS15 := HS14
  have HI15 := HI14
  have HU15 := HU14
  have HV15 := HV14
  refine one_ (i := 0) (N := some 61) #[true, false, false, false, false, false, false, false, false, false, false, false, false, false, false, false, false, false, false, false, false] rfl rfl (one_of HT_.out (by kernel_rfl)) (by decide) (fun K hK => ?_)
  refine goes_ Try.func44 (by kernel_rfl) rfl #[] (by rfl) rfl rfl (by (try simp only [List.map_toArray, List.map_cons, List.map_nil]); first | done | rfl | (simp only [List.length_drop, List.length_take]; rfl)) ?_
  with_reducible refine (grapevinelaw13_live.calls k true _ HL.out).mono ?_
  rintro e w16 ⟨rfl, hb⟩
  refine ⟨_, rfl, ?_⟩
  have HB16 := Aside0.mk (below_step HB15.out hb)
  have BX16 := Aside0.mk (blk_below BX15.out hb)
  have BY16 := Aside0.mk (blk_below BY15.out hb)
  have HS16 := Aside0.mk (Kd.R_below HS15.out hb)
  have HI16 := Aside0.mk (Kd.S_below HI15.out hb)
  have HU16 := Aside0.mk (Kd.R_below HU15.out hb)
  have HV16 := Aside0.mk (Kd.R_below HV15.out hb)
  clear hb
  refine hK.out _ _ ⟨BX16.out, BY16.out, (Kd.R_reads' HU16.out).2.2, (Kd.R_reads' HV16.out).2.2⟩ (fun hHeld => ?_)
  clear hK K
  refine norm_ (a' := ?_) ?_ ?_
  rotate_left
  ·
   show Act.put _ (some 61) _ = _
   simp only [Act.put, List.setIfInBounds_toArray, List.set_cons_zero, List.set_cons_succ, i64_w, i32_w]
   rfl
  refine pure_ (i := 1) (N := some 62) (v := ?_) (a' := ?_) #[true, true, false, false, false, false, false, false, false, false, false, false, false, false, false, false, false, false, false, false, false] rfl rfl (any_of HT_.out (by kernel_rfl)) (fun _ _ _ h => h) (Or.inl ⟨by rfl, ?_⟩) ?_ ?_
  rotate_left
  ·
   intro w'
   go_simp
   with_reducible rfl
  rotate_left
  ·
   simp only [Act.put, List.setIfInBounds_toArray, List.set_cons_zero, List.set_cons_succ, i64_w, i32_w]
   rfl
  refine pure_ (i := 2) (N := some 63) (v := ?_) (a' := ?_) #[true, true, true, false, false, false, false, false, false, false, false, false, false, false, false, false, false, false, false, false, false] rfl rfl (any_of HT_.out (by kernel_rfl)) (fun _ _ _ h => h) (Or.inl ⟨by rfl, ?_⟩) ?_ ?_
  rotate_left
  ·
   intro w'
   go_simp
   with_reducible rfl
  rotate_left
  ·
   simp only [Act.put, List.setIfInBounds_toArray, List.set_cons_zero, List.set_cons_succ, i64_w, i32_w]
   rfl
  refine take_ (i := 3) (N := some 64) (v := ?_) (a' := ?_) #[true, true, true, true, false, false, false, false, false, false, false, false, false, false, false, false, false, false, false, false, false] rfl rfl (take_ofW HT_.out HW_.out (by kernel_rfl)) (fun _ _ _ h => h) (Or.inl ⟨by rfl, ?_⟩) hHeld ?_ ?_
  rotate_left
  ·
   rintro w' ⟨s0, s1, s2, s3⟩
   go_simp
   rw [Kd.C_string Try.underlying44 Try.underlying5 Try.underlying9 s2]
   first | rfl | (constructor <;> rfl)
  rotate_left
  ·
   simp only [Act.put, List.setIfInBounds_toArray, List.set_cons_zero, List.set_cons_succ, i64_w, i32_w]
   rfl
  refine pure_ (i := 4) (N := some 65) (v := ?_) (a' := ?_) #[true, true, true, true, true, false, false, false, false, false, false, false, false, false, false, false, false, false, false, false, false] rfl rfl (any_of HT_.out (by kernel_rfl)) (fun _ _ _ h => h) (Or.inl ⟨by rfl, ?_⟩) ?_ ?_
  rotate_left
  ·
   intro w'
   go_simp
   with_reducible rfl
  rotate_left
  ·
   simp only [Act.put, List.setIfInBounds_toArray, List.set_cons_zero, List.set_cons_succ, i64_w, i32_w]
   rfl
  refine take_ (i := 5) (N := some 66) (v := ?_) (a' := ?_) #[true, true, true, true, true, true, false, false, false, false, false, false, false, false, false, false, false, false, false, false, false] rfl rfl (take_ofW HT_.out HW_.out (by kernel_rfl)) (fun _ _ _ h => h) (Or.inl ⟨by rfl, ?_⟩) hHeld ?_ ?_
  rotate_left
  ·
   rintro w' ⟨s0, s1, s2, s3⟩
   go_simp
   rw [Kd.C_string Try.underlying44 Try.underlying5 Try.underlying9 s3]
   first | rfl | (constructor <;> rfl)
  rotate_left
  ·
   simp only [Act.put, List.setIfInBounds_toArray, List.set_cons_zero, List.set_cons_succ, i64_w, i32_w]
   rfl
  refine pure_ (i := 6) (N := some 67) (v := ?_) (a' := ?_) #[true, true, true, true, true, true, true, false, false, false, false, false, false, false, false, false, false, false, false, false, false] rfl rfl (any_of HT_.out (by kernel_rfl)) (fun _ _ _ h => h) (Or.inl ⟨by rfl, ?_⟩) ?_ ?_
  rotate_left
  ·
   intro w'
   go_simp
   with_reducible rfl
  rotate_left
  ·
   simp only [Act.put, List.setIfInBounds_toArray, List.set_cons_zero, List.set_cons_succ, i64_w, i32_w]
   rfl
  refine pure_ (i := 7) (N := some 68) (v := ?_) (a' := ?_) #[true, true, true, true, true, true, true, true, false, false, false, false, false, false, false, false, false, false, false, false, false] rfl rfl (any_of HT_.out (by kernel_rfl)) (fun _ _ _ h => h) (Or.inl ⟨by rfl, ?_⟩) ?_ ?_
  rotate_left
  ·
   intro w'
   go_simp
   with_reducible rfl
  rotate_left
  ·
   simp only [Act.put, List.setIfInBounds_toArray, List.set_cons_zero, List.set_cons_succ, i64_w, i32_w]
   rfl
  refine pure_ (i := 8) (N := some 69) (v := ?_) (a' := ?_) #[true, true, true, true, true, true, true, true, true, false, false, false, false, false, false, false, false, false, false, false, false] rfl rfl (any_of HT_.out (by kernel_rfl)) (fun _ _ _ h => h) (Or.inl ⟨by rfl, ?_⟩) ?_ ?_
  rotate_left
  ·
   intro w'
   go_simp
   with_reducible rfl
  rotate_left
  ·
   simp only [Act.put, List.setIfInBounds_toArray, List.set_cons_zero, List.set_cons_succ, i64_w, i32_w]
   rfl
  refine pure_ (i := 9) (N := some 70) (v := ?_) (a' := ?_) #[true, true, true, true, true, true, true, true, true, true, false, false, false, false, false, false, false, false, false, false, false] rfl rfl (any_of HT_.out (by kernel_rfl)) (fun _ _ _ h => h) (Or.inl ⟨by rfl, ?_⟩) ?_ ?_
  rotate_left
  ·
   intro w'
   go_simp
   with_reducible rfl
  rotate_left
  ·
   simp only [Act.put, List.setIfInBounds_toArray, List.set_cons_zero, List.set_cons_succ, i64_w, i32_w]
   rfl
  refine pure_ (i := 10) (N := some 71) (v := ?_) (a' := ?_) #[true, true, true, true, true, true, true, true, true, true, true, false, false, false, false, false, false, false, false, false, false] rfl rfl (any_of HT_.out (by kernel_rfl)) (fun _ _ _ h => h) (Or.inl ⟨by rfl, ?_⟩) ?_ ?_
  rotate_left
  ·
   intro w'
   go_simp
   with_reducible rfl
  rotate_left
  ·
   simp only [Act.put, List.setIfInBounds_toArray, List.set_cons_zero, List.set_cons_succ, i64_w, i32_w]
   rfl
  refine pure_ (i := 11) (N := some 72) (v := ?_) (a' := ?_) #[true, true, true, true, true, true, true, true, true, true, true, true, false, false, false, false, false, false, false, false, false] rfl rfl (any_of HT_.out (by kernel_rfl)) (fun _ _ _ h => h) (Or.inl ⟨by rfl, ?_⟩) ?_ ?_
  rotate_left
  ·
   intro w'
   go_simp
   with_reducible rfl
  rotate_left
  ·
   simp only [Act.put, List.setIfInBounds_toArray, List.set_cons_zero, List.set_cons_succ, i64_w, i32_w]
   rfl
  refine pure_ (i := 12) (N := some 73) (v := ?_) (a' := ?_) #[true, true, true, true, true, true, true, true, true, true, true, true, true, false, false, false, false, false, false, false, false] rfl rfl (any_of HT_.out (by kernel_rfl)) (fun _ _ _ h => h) (Or.inl ⟨by rfl, ?_⟩) ?_ ?_
  rotate_left
  ·
   intro w'
   go_simp
   with_reducible rfl
  rotate_left
  ·
   simp only [Act.put, List.setIfInBounds_toArray, List.set_cons_zero, List.set_cons_succ, i64_w, i32_w]
   rfl
  refine pure_ (i := 13) (N := some 74) (v := ?_) (a' := ?_) #[true, true, true, true, true, true, true, true, true, true, true, true, true, true, false, false, false, false, false, false, false] rfl rfl (any_of HT_.out (by kernel_rfl)) (fun _ _ _ h => h) (Or.inl ⟨by rfl, ?_⟩) ?_ ?_
  rotate_left
  ·
   intro w'
   go_simp
   with_reducible rfl
  rotate_left
  ·
   simp only [Act.put, List.setIfInBounds_toArray, List.set_cons_zero, List.set_cons_succ, i64_w, i32_w]
   rfl
  refine take_ (i := 14) (N := some 75) (v := ?_) (a' := ?_) #[true, true, true, true, true, true, true, true, true, true, true, true, true, true, true, false, false, false, false, false, false] rfl rfl (take_ofW HT_.out HW_.out (by kernel_rfl)) (fun _ _ _ h => h) (Or.inl ⟨by rfl, ?_⟩) hHeld ?_ ?_
  rotate_left
  ·
   rintro w' ⟨s0, s1, s2, s3⟩
   have q0_ := (blk_cell s0 0).trans rfl
   have q1_ := (blk_cell s0 1).trans rfl
   have q2_ := (blk_cell s0 2).trans rfl
   have q3_ := (blk_cell s0 3).trans rfl
   have q4_ := (blk_cell s0 4).trans rfl
   have q5_ := (blk_cell s0 5).trans rfl
   have q6_ := (blk_cell s0 6).trans rfl
   have q7_ := (blk_cell s0 7).trans rfl
   go_simp
   with_reducible rfl
  rotate_left
  ·
   simp only [Act.put, List.setIfInBounds_toArray, List.set_cons_zero, List.set_cons_succ, i64_w, i32_w]
   rfl
  refine take_ (i := 16) (N := some 77) (v := ?_) (a' := ?_) #[true, true, true, true, true, true, true, true, true, true, true, true, true, true, true, false, true, false, false, false, false] rfl rfl (take_ofW HT_.out HW_.out (by kernel_rfl)) (fun _ _ _ h => h) (Or.inl ⟨by rfl, ?_⟩) hHeld ?_ ?_
  rotate_left
  ·
   rintro w' ⟨s0, s1, s2, s3⟩
   have q0_ := (blk_cell s1 0).trans rfl
   have q1_ := (blk_cell s1 1).trans rfl
   have q2_ := (blk_cell s1 2).trans rfl
   have q3_ := (blk_cell s1 3).trans rfl
   have q4_ := (blk_cell s1 4).trans rfl
   have q5_ := (blk_cell s1 5).trans rfl
   have q6_ := (blk_cell s1 6).trans rfl
   have q7_ := (blk_cell s1 7).trans rfl
   go_simp
   with_reducible rfl
  rotate_left
  ·
   simp only [Act.put, List.setIfInBounds_toArray, List.set_cons_zero, List.set_cons_succ, i64_w, i32_w]
   rfl
  refine one_ (i := 15) (N := some 76) #[true, true, true, true, true, true, true, true, true, true, true, true, true, true, true, true, true, false, false, false, false] rfl rfl (one_of HT_.out (by kernel_rfl)) (by decide) (fun K hK => ?_)
  refine goes_ Try.func45 (by kernel_rfl) rfl #[.agg #[.int .i64 (4), .int .i64 r2, .int .i64 r3, .int .i64 r4, .int .i64 r5, .int .i64 r6, .slice A6 r7.length c6, .slice A7 r8.length c7]] (by rfl) rfl rfl (by (try simp only [List.map_toArray, List.map_cons, List.map_nil]); first | done | rfl | (simp only [List.length_drop, List.length_take]; rfl)) ?_
  with_reducible refine (parcel_Check.calls k (4) r2 r3 r4 r5 r6 _ _ r7 _ _ r8 c _ ?s1 ?s2 ?s3 ?s4 HCX.out).mono ?_
  case s1 => exact (Kd.R_reads' HS16.out).2.2
  case s2 => exact (Kd.R_reads' HS16.out).2.1
  case s3 => exact (Kd.S_reads' HI16.out).2.2
  case s4 => exact (Kd.S_reads' HI16.out).2.1
  rintro e w17 ⟨rfl, hb⟩
  refine ⟨_, rfl, ?_⟩
  have HB17 := Aside0.mk (below_step HB16.out hb)
  have BX17 := Aside0.mk (blk_below BX16.out hb)
  have BY17 := Aside0.mk (blk_below BY16.out hb)
  have HS17 := Aside0.mk (Kd.R_below HS16.out hb)
  have HI17 := Aside0.mk (Kd.S_below HI16.out hb)
  have HU17 := Aside0.mk (Kd.R_below HU16.out hb)
  have HV17 := Aside0.mk (Kd.R_below HV16.out hb)
  clear hb
  refine hK.out _ _ ⟨BX17.out, BY17.out, (Kd.R_reads' HU17.out).2.2, (Kd.R_reads' HV17.out).2.2⟩ (fun hHeld => ?_)
  clear hK K
  refine norm_ (a' := ?_) ?_ ?_
  rotate_left
  ·
   show Act.put _ (some 76) _ = _
   simp only [Act.put, List.setIfInBounds_toArray, List.set_cons_zero, List.set_cons_succ, i64_w, i32_w]
   rfl
  refine one_ (i := 17) (N := some 78) #[true, true, true, true, true, true, true, true, true, true, true, true, true, true, true, true, true, true, false, false, false] rfl rfl (one_of HT_.out (by kernel_rfl)) (by decide) (fun K hK => ?_)
  refine goes_ Try.func45 (by kernel_rfl) rfl #[.agg #[.int .i64 (4), .int .i64 r2, .int .i64 r3, .int .i64 r4, .int .i64 a1_4, .int .i64 a1_5, .slice A1_6 l1_6.length c1_6, .slice A1_7 l1_7.length c1_7]] (by rfl) rfl rfl (by (try simp only [List.map_toArray, List.map_cons, List.map_nil]); first | done | rfl | (simp only [List.length_drop, List.length_take]; rfl)) ?_
  with_reducible refine (parcel_Check.calls k (4) r2 r3 r4 a1_4 a1_5 _ _ l1_6 _ _ l1_7 c _ ?s1 ?s2 ?s3 ?s4 HCY.out).mono ?_
  case s1 => exact (Kd.C_below HR1_6.out HB17.out)
  case s2 => exact HC1_6.out
  case s3 => exact (Kd.C_below HR1_7.out HB17.out)
  case s4 => exact HC1_7.out
  rintro e w18 ⟨rfl, hb⟩
  refine ⟨_, rfl, ?_⟩
  have HB18 := Aside0.mk (below_step HB17.out hb)
  have BX18 := Aside0.mk (blk_below BX17.out hb)
  have BY18 := Aside0.mk (blk_below BY17.out hb)
  have HS18 := Aside0.mk (Kd.R_below HS17.out hb)
  have HI18 := Aside0.mk (Kd.S_below HI17.out hb)
  have HU18 := Aside0.mk (Kd.R_below HU17.out hb)
  have HV18 := Aside0.mk (Kd.R_below HV17.out hb)
  clear hb
  refine hK.out _ _ ⟨BX18.out, BY18.out, (Kd.R_reads' HU18.out).2.2, (Kd.R_reads' HV18.out).2.2⟩ (fun hHeld => ?_)
  clear hK K
  refine norm_ (a' := ?_) ?_ ?_
  rotate_left
  ·
   show Act.put _ (some 78) _ = _
   simp only [Act.put, List.setIfInBounds_toArray, List.set_cons_zero, List.set_cons_succ, i64_w, i32_w]
   rfl
  refine pure_ (i := 18) (N := some 79) (v := ?_) (a' := ?_) #[true, true, true, true, true, true, true, true, true, true, true, true, true, true, true, true, true, true, true, false, false] rfl rfl (any_of HT_.out (by kernel_rfl)) (fun _ _ _ h => h) (Or.inl ⟨by rfl, ?_⟩) ?_ ?_
  rotate_left
  ·
   intro w'
   go_simp
   with_reducible rfl
  rotate_left
  ·
   simp only [Act.put, List.setIfInBounds_toArray, List.set_cons_zero, List.set_cons_succ, i64_w, i32_w]
   rfl
  refine pure_ (i := 19) (N := some 80) (v := ?_) (a' := ?_) #[true, true, true, true, true, true, true, true, true, true, true, true, true, true, true, true, true, true, true, true, false] rfl rfl (any_of HT_.out (by kernel_rfl)) (fun _ _ _ h => h) (Or.inl ⟨by rfl, ?_⟩) ?_ ?_
  rotate_left
  ·
   intro w'
   go_simp
   with_reducible rfl
  rotate_left
  ·
   simp only [Act.put, List.setIfInBounds_toArray, List.set_cons_zero, List.set_cons_succ, i64_w, i32_w]
   rfl
  refine pure_ (i := 20) (N := some 4) (v := ?_) (a' := ?_) #[true, true, true, true, true, true, true, true, true, true, true, true, true, true, true, true, true, true, true, true, true] rfl rfl (any_of HT_.out (by kernel_rfl)) (fun _ _ _ h => h) (Or.inl ⟨by rfl, ?_⟩) ?_ ?_
  rotate_left
  ·
   intro w'
   go_simp
   with_reducible rfl
  rotate_left
  ·
   simp only [Act.put, List.setIfInBounds_toArray, List.set_cons_zero, List.set_cons_succ, i64_w, i32_w]
   rfl
  refine done_ (done_of HT_.out (by kernel_rfl)) ?_
  go_wp2
  go_ret
  exact ⟨rfl, HB18.out⟩
 by_cases e6 : r1 = 6
 case pos =>
  subst e6
  simp only [if_neg (show ¬ ((6 : Int) = 1 ∨ (6 : Int) = 2) by omega), if_pos (show ((6 : Int) = 4 ∨ (6 : Int) = 6) by omega), if_neg (show ¬ ((6 : Int) = 1) by omega)] at hy hcy
  have HPY := Aside0.mk (show parcel_Put.f k (6 : Int) r2 r3 r4 a1_4 a1_5 l1_6 l1_7 = some (v1, u2) from hy)
  have HCY := Aside0.mk (show parcel_Check.f k (6 : Int) r2 r3 r4 a1_4 a1_5 l1_6 l1_7 = some c from hcy)
  clear hy hcy
  go_enter Try.func15, Try.ntmps15
  go_wp2_with (first | ((with_reducible refine gate_dst (N := 2) rfl ?_); refine box_event ?hg (N := 2) ?hd (cs := #[.int .i64 a0_0, .int .i64 a0_1, .int .i64 a0_2, .int .i64 a0_3, .int .i64 a0_4, .int .i64 a0_5, .slice A0_6 l0_6.length c0_6, .slice A0_7 l0_7.length c0_7]) (t := 51) ?hr ?_; (case hd => rfl); (case hg => rfl); (case hr => first | (go_simp; done) | (go_simp; rfl)); intro gp hg w1 hbox hb; have HB1 := Aside0.mk hb; have Ggp := Aside0.mk (show w.heap.size ≤ gp by rw [hg]; exact Nat.le_refl _); have BP1 := Aside0.mk hbox; clear hb hbox hg) | ((with_reducible refine gate_dst (N := 3) rfl ?_); refine box_event ?hg (N := 3) ?hd (cs := #[.int .i64 a1_0, .int .i64 a1_1, .int .i64 a1_2, .int .i64 a1_3, .int .i64 a1_4, .int .i64 a1_5, .slice A1_6 l1_6.length c1_6, .slice A1_7 l1_7.length c1_7]) (t := 51) ?hr ?_; (case hd => rfl); (case hg => rfl); (case hr => first | (go_simp; done) | (go_simp; rfl)); intro gq hg w2 hbox hb; have HB2 := Aside0.mk (below_step (by repeat (first | (with_reducible first | exact HB1.out | apply below_alloc | apply pw_below_drewN | apply below_drew1) | exact HB1.out)) hb); have Ggq := Aside0.mk (show w.heap.size ≤ gq by (rw [hg]; exact below_size (by repeat (first | (with_reducible first | exact HB1.out | apply below_alloc | apply pw_below_drewN | apply below_drew1) | exact HB1.out)))); have BQ2 := Aside0.mk hbox; have BP2 := Aside0.mk (blk_below BP1.out hb); have hza_0 : w2.cell? ⟨gp, 0, none⟩ = some (.int .i64 a0_0) := (blk_cell BP2.out 0).trans rfl; have hza_1 : w2.cell? ⟨gp, 1, none⟩ = some (.int .i64 a0_1) := (blk_cell BP2.out 1).trans rfl; have hza_2 : w2.cell? ⟨gp, 2, none⟩ = some (.int .i64 a0_2) := (blk_cell BP2.out 2).trans rfl; have hza_3 : w2.cell? ⟨gp, 3, none⟩ = some (.int .i64 a0_3) := (blk_cell BP2.out 3).trans rfl; have hza_4 : w2.cell? ⟨gp, 4, none⟩ = some (.int .i64 a0_4) := (blk_cell BP2.out 4).trans rfl; have hza_5 : w2.cell? ⟨gp, 5, none⟩ = some (.int .i64 a0_5) := (blk_cell BP2.out 5).trans rfl; have hza_6 : w2.cell? ⟨gp, 6, none⟩ = some (.slice A0_6 l0_6.length c0_6) := (blk_cell BP2.out 6).trans rfl; have hza_7 : w2.cell? ⟨gp, 7, none⟩ = some (.slice A0_7 l0_7.length c0_7) := (blk_cell BP2.out 7).trans rfl; clear hb hbox hg) | ((with_reducible refine gate_dst (N := 12) rfl ?_); refine goesL_ (some 12) rfl rfl Try.func49 (by kernel_rfl) rfl #[.agg #[.int .i64 a0_0, .int .i64 a0_1, .int .i64 a0_2, .int .i64 a0_3, .int .i64 a0_4, .int .i64 a0_5, .slice A0_6 l0_6.length c0_6, .slice A0_7 l0_7.length c0_7]] rfl (by (try simp only [List.map_toArray, List.map_cons, List.map_nil]); first | done | rfl | (simp only [List.length_drop, List.length_take]; rfl)) ?_; (with_reducible refine (grapevineref13_Plain.calls k a0_0 a0_1 a0_2 a0_3 a0_4 a0_5 _ _ l0_6 _ _ l0_7 (6) r2 r3 r4 r5 r6 r7 r8 _ ?s1 HC0_6.out ?s3 HC0_7.out HPL.out).mono ?_); (case s1 => repeat (first | exact (Kd.C_below HR0_6.out HB2.out) | (with_reducible refine Kd.C_alloc ?_ _) | (with_reducible refine Kd.C_drewN ?_ _) | (with_reducible refine Kd.C_drew ?_))); (case s3 => repeat (first | exact (Kd.C_below HR0_7.out HB2.out) | (with_reducible refine Kd.C_alloc ?_ _) | (with_reducible refine Kd.C_drewN ?_ _) | (with_reducible refine Kd.C_drew ?_))); rintro e w3 ⟨v6, v7, rfl, ho6, ho7, hb⟩; refine ⟨_, rfl, ?_⟩; have HB3 := Aside0.mk (below_step HB2.out hb); have BQ3 := Aside0.mk (blk_below BQ2.out hb); have HS3 := Aside0.mk (Kd.R_lower ho6 (below_size HB2.out)); have HI3 := Aside0.mk (Kd.S_lower ho7 (below_size HB2.out)); obtain ⟨A6, c6, e6⟩ := Kd.R_slice HS3.out; subst e6; obtain ⟨A7, c7, e7⟩ := Kd.S_slice HI3.out; subst e7; clear hb ho6 ho7) | ((with_reducible refine gate_dst (N := 5) rfl ?_); refine box_event ?hg (N := 5) ?hd (cs := #[.int .i64 0, .int .i64 0, .int .i64 0, .int .i64 0, .int .i64 0, .int .i64 0, .slice none 0 0, .slice none 0 0]) (t := 51) ?hr ?_; (case hd => rfl); (case hg => rfl); (case hr => first | (go_simp; done) | (go_simp; rfl)); intro gx hg w4 hbox hb; have Nq_x : gq ≠ gx := (fun e_ => absurd (blk_lt BQ3.out) (by rw [e_, hg]; exact Nat.lt_irrefl _)); have HB4 := Aside0.mk (below_step (by repeat (first | (with_reducible first | exact HB3.out | apply below_alloc | apply pw_below_drewN | apply below_drew1) | exact HB3.out)) hb); have Ggx := Aside0.mk (show w.heap.size ≤ gx by (rw [hg]; exact below_size (by repeat (first | (with_reducible first | exact HB3.out | apply below_alloc | apply pw_below_drewN | apply below_drew1) | exact HB3.out)))); have BX4 := Aside0.mk hbox; have BQ4 := Aside0.mk (blk_below BQ3.out hb); have HS4 := Aside0.mk (Kd.R_below HS3.out hb); have HI4 := Aside0.mk (Kd.S_below HI3.out hb); have hzn5_0 : w4.cell? ⟨gx, 0, none⟩ = some (.int .i64 0) := (blk_cell BX4.out 0).trans rfl; have hzn5_1 : w4.cell? ⟨gx, 1, none⟩ = some (.int .i64 0) := (blk_cell BX4.out 1).trans rfl; have hzn5_2 : w4.cell? ⟨gx, 2, none⟩ = some (.int .i64 0) := (blk_cell BX4.out 2).trans rfl; have hzn5_3 : w4.cell? ⟨gx, 3, none⟩ = some (.int .i64 0) := (blk_cell BX4.out 3).trans rfl; have hzn5_4 : w4.cell? ⟨gx, 4, none⟩ = some (.int .i64 0) := (blk_cell BX4.out 4).trans rfl; have hzn5_5 : w4.cell? ⟨gx, 5, none⟩ = some (.int .i64 0) := (blk_cell BX4.out 5).trans rfl; have hzn5_6 : w4.cell? ⟨gx, 6, none⟩ = some (.slice none 0 0) := (blk_cell BX4.out 6).trans rfl; have hzn5_7 : w4.cell? ⟨gx, 7, none⟩ = some (.slice none 0 0) := (blk_cell BX4.out 7).trans rfl; have fzn5_0 := blk_frozen BX4.out 0; have fzn5_1 := blk_frozen BX4.out 1; have fzn5_2 := blk_frozen BX4.out 2; have fzn5_3 := blk_frozen BX4.out 3; have fzn5_4 := blk_frozen BX4.out 4; have fzn5_5 := blk_frozen BX4.out 5; have fzn5_6 := blk_frozen BX4.out 6; have fzn5_7 := blk_frozen BX4.out 7; clear hb hbox hg) | ((with_reducible refine gate_store (t := 51) (p := 5) (v := .tmp 12) rfl ?_); refine store_event rfl (t := 51) (p := 5) (v := .tmp 12) rfl rfl (w1 := ((((((((w4.setCell ⟨gx, 0, none⟩ (.int .i64 (6))).setCell ⟨gx, 1, none⟩ (.int .i64 r2)).setCell ⟨gx, 2, none⟩ (.int .i64 r3)).setCell ⟨gx, 3, none⟩ (.int .i64 r4)).setCell ⟨gx, 4, none⟩ (.int .i64 r5)).setCell ⟨gx, 5, none⟩ (.int .i64 r6)).setCell ⟨gx, 6, none⟩ (.slice A6 r7.length c6)).setCell ⟨gx, 7, none⟩ (.slice A7 r8.length c7))) ?hr ?_; (case hr => first | (go_simp; done) | (go_simp; rfl)); intro w5 hw; have hf : ∀ i, i ≠ gx → w5.heap[i]? = w4.heap[i]? := fun i hi => (by rw [hw]; exact far8 w4 gx (.int .i64 (6)) (.int .i64 r2) (.int .i64 r3) (.int .i64 r4) (.int .i64 r5) (.int .i64 r6) (.slice A6 r7.length c6) (.slice A7 r8.length c7) i hi); have BX5 := Aside0.mk (show w5.heap[gx]? = some (.cells #[.int .i64 (6), .int .i64 r2, .int .i64 r3, .int .i64 r4, .int .i64 r5, .int .i64 r6, .slice A6 r7.length c6, .slice A7 r8.length c7] 51 (0, 0)) by (rw [hw]; exact blk_put (blk_put (blk_put (blk_put (blk_put (blk_put (blk_put (blk_put (BX4.out) 0 _ rfl) 1 _ rfl) 2 _ rfl) 3 _ rfl) 4 _ rfl) 5 _ rfl) 6 _ rfl) 7 _ rfl)); have HB5 := Aside0.mk (show Below w.heap.size w w5 by (rw [hw]; exact below_set (below_set (below_set (below_set (below_set (below_set (below_set (below_set (HB4.out) Ggx.out) Ggx.out) Ggx.out) Ggx.out) Ggx.out) Ggx.out) Ggx.out) Ggx.out)); have BQ5 := Aside0.mk ((hf gq Nq_x).trans BQ4.out); have HS5 := Aside0.mk (R_farT HS4.out BX4.out ne_spans hf); have HI5 := Aside0.mk (S_farT HI4.out BX4.out ne_items hf); have hzxa_0 : w5.cell? ⟨gx, 0, none⟩ = some (.int .i64 (6)) := (blk_cell BX5.out 0).trans rfl; have hzxa_1 : w5.cell? ⟨gx, 1, none⟩ = some (.int .i64 r2) := (blk_cell BX5.out 1).trans rfl; have hzxa_2 : w5.cell? ⟨gx, 2, none⟩ = some (.int .i64 r3) := (blk_cell BX5.out 2).trans rfl; have hzxa_3 : w5.cell? ⟨gx, 3, none⟩ = some (.int .i64 r4) := (blk_cell BX5.out 3).trans rfl; have hzxa_4 : w5.cell? ⟨gx, 4, none⟩ = some (.int .i64 r5) := (blk_cell BX5.out 4).trans rfl; have hzxa_5 : w5.cell? ⟨gx, 5, none⟩ = some (.int .i64 r6) := (blk_cell BX5.out 5).trans rfl; have hzxa_6 : w5.cell? ⟨gx, 6, none⟩ = some (.slice A6 r7.length c6) := (blk_cell BX5.out 6).trans rfl; have hzxa_7 : w5.cell? ⟨gx, 7, none⟩ = some (.slice A7 r8.length c7) := (blk_cell BX5.out 7).trans rfl; clear hw hf) | ((with_reducible refine gate_dst (N := 6) rfl ?_); refine box_event ?hg (N := 6) ?hd (cs := #[.int .i64 0, .int .i64 0, .int .i64 0, .int .i64 0, .int .i64 0, .int .i64 0, .slice none 0 0, .slice none 0 0]) (t := 51) ?hr ?_; (case hd => rfl); (case hg => rfl); (case hr => first | (go_simp; done) | (go_simp; rfl)); intro gy hg w6 hbox hb; have Nq_y : gq ≠ gy := (fun e_ => absurd (blk_lt BQ5.out) (by rw [e_, hg]; exact Nat.lt_irrefl _)); have Nx_y : gx ≠ gy := (fun e_ => absurd (blk_lt BX5.out) (by rw [e_, hg]; exact Nat.lt_irrefl _)); have HB6 := Aside0.mk (below_step (by repeat (first | (with_reducible first | exact HB5.out | apply below_alloc | apply pw_below_drewN | apply below_drew1) | exact HB5.out)) hb); have Ggy := Aside0.mk (show w.heap.size ≤ gy by (rw [hg]; exact below_size (by repeat (first | (with_reducible first | exact HB5.out | apply below_alloc | apply pw_below_drewN | apply below_drew1) | exact HB5.out)))); have BY6 := Aside0.mk hbox; have BX6 := Aside0.mk (blk_below BX5.out hb); have BQ6 := Aside0.mk (blk_below BQ5.out hb); have HS6 := Aside0.mk (Kd.R_below HS5.out hb); have HI6 := Aside0.mk (Kd.S_below HI5.out hb); have hzn6_0 : w6.cell? ⟨gy, 0, none⟩ = some (.int .i64 0) := (blk_cell BY6.out 0).trans rfl; have hzn6_1 : w6.cell? ⟨gy, 1, none⟩ = some (.int .i64 0) := (blk_cell BY6.out 1).trans rfl; have hzn6_2 : w6.cell? ⟨gy, 2, none⟩ = some (.int .i64 0) := (blk_cell BY6.out 2).trans rfl; have hzn6_3 : w6.cell? ⟨gy, 3, none⟩ = some (.int .i64 0) := (blk_cell BY6.out 3).trans rfl; have hzn6_4 : w6.cell? ⟨gy, 4, none⟩ = some (.int .i64 0) := (blk_cell BY6.out 4).trans rfl; have hzn6_5 : w6.cell? ⟨gy, 5, none⟩ = some (.int .i64 0) := (blk_cell BY6.out 5).trans rfl; have hzn6_6 : w6.cell? ⟨gy, 6, none⟩ = some (.slice none 0 0) := (blk_cell BY6.out 6).trans rfl; have hzn6_7 : w6.cell? ⟨gy, 7, none⟩ = some (.slice none 0 0) := (blk_cell BY6.out 7).trans rfl; have fzn6_0 := blk_frozen BY6.out 0; have fzn6_1 := blk_frozen BY6.out 1; have fzn6_2 := blk_frozen BY6.out 2; have fzn6_3 := blk_frozen BY6.out 3; have fzn6_4 := blk_frozen BY6.out 4; have fzn6_5 := blk_frozen BY6.out 5; have fzn6_6 := blk_frozen BY6.out 6; have fzn6_7 := blk_frozen BY6.out 7; clear hb hbox hg) | ((with_reducible refine gate_store (t := 51) (p := 6) (v := .tmp 13) rfl ?_); refine store_event rfl (t := 51) (p := 6) (v := .tmp 13) rfl rfl (w1 := ((((((((w6.setCell ⟨gy, 0, none⟩ (.int .i64 (6))).setCell ⟨gy, 1, none⟩ (.int .i64 r2)).setCell ⟨gy, 2, none⟩ (.int .i64 r3)).setCell ⟨gy, 3, none⟩ (.int .i64 r4)).setCell ⟨gy, 4, none⟩ (.int .i64 r5)).setCell ⟨gy, 5, none⟩ (.int .i64 r6)).setCell ⟨gy, 6, none⟩ (.slice A6 r7.length c6)).setCell ⟨gy, 7, none⟩ (.slice A7 r8.length c7))) ?hr ?_; (case hr => first | (go_simp; done) | (go_simp; rfl)); intro w7 hw; have hf : ∀ i, i ≠ gy → w7.heap[i]? = w6.heap[i]? := fun i hi => (by rw [hw]; exact far8 w6 gy (.int .i64 (6)) (.int .i64 r2) (.int .i64 r3) (.int .i64 r4) (.int .i64 r5) (.int .i64 r6) (.slice A6 r7.length c6) (.slice A7 r8.length c7) i hi); have BY7 := Aside0.mk (show w7.heap[gy]? = some (.cells #[.int .i64 (6), .int .i64 r2, .int .i64 r3, .int .i64 r4, .int .i64 r5, .int .i64 r6, .slice A6 r7.length c6, .slice A7 r8.length c7] 51 (0, 0)) by (rw [hw]; exact blk_put (blk_put (blk_put (blk_put (blk_put (blk_put (blk_put (blk_put (BY6.out) 0 _ rfl) 1 _ rfl) 2 _ rfl) 3 _ rfl) 4 _ rfl) 5 _ rfl) 6 _ rfl) 7 _ rfl)); have HB7 := Aside0.mk (show Below w.heap.size w w7 by (rw [hw]; exact below_set (below_set (below_set (below_set (below_set (below_set (below_set (below_set (HB6.out) Ggy.out) Ggy.out) Ggy.out) Ggy.out) Ggy.out) Ggy.out) Ggy.out) Ggy.out)); have BX7 := Aside0.mk ((hf gx Nx_y).trans BX6.out); have BQ7 := Aside0.mk ((hf gq Nq_y).trans BQ6.out); have HS7 := Aside0.mk (R_farT HS6.out BY6.out ne_spans hf); have HI7 := Aside0.mk (S_farT HI6.out BY6.out ne_items hf); have hzya_0 : w7.cell? ⟨gy, 0, none⟩ = some (.int .i64 (6)) := (blk_cell BY7.out 0).trans rfl; have hzya_1 : w7.cell? ⟨gy, 1, none⟩ = some (.int .i64 r2) := (blk_cell BY7.out 1).trans rfl; have hzya_2 : w7.cell? ⟨gy, 2, none⟩ = some (.int .i64 r3) := (blk_cell BY7.out 2).trans rfl; have hzya_3 : w7.cell? ⟨gy, 3, none⟩ = some (.int .i64 r4) := (blk_cell BY7.out 3).trans rfl; have hzya_4 : w7.cell? ⟨gy, 4, none⟩ = some (.int .i64 r5) := (blk_cell BY7.out 4).trans rfl; have hzya_5 : w7.cell? ⟨gy, 5, none⟩ = some (.int .i64 r6) := (blk_cell BY7.out 5).trans rfl; have hzya_6 : w7.cell? ⟨gy, 6, none⟩ = some (.slice A6 r7.length c6) := (blk_cell BY7.out 6).trans rfl; have hzya_7 : w7.cell? ⟨gy, 7, none⟩ = some (.slice A7 r8.length c7) := (blk_cell BY7.out 7).trans rfl; have hzxb_0 : w7.cell? ⟨gx, 0, none⟩ = some (.int .i64 (6)) := (blk_cell BX7.out 0).trans rfl; clear hw hf))
  refine start_ (n := 8) (S := fun w' => w'.heap[gq]? = some (.cells #[.int .i64 a1_0, .int .i64 a1_1, .int .i64 a1_2, .int .i64 a1_3, .int .i64 a1_4, .int .i64 a1_5, .slice A1_6 l1_6.length c1_6, .slice A1_7 l1_7.length c1_7] 51 (0, 0))) (ds := [7]) #[false, false, false, false, false, false, false, false] (by kernel_rfl) rfl rfl (blk_drew BQ7.out) (fun hHeld => ?_)
  refine with_tabW grapevinelaw13_ParcelUnused.tab4 grapevinelaw13_ParcelUnused.bits4 (fun HT_ HW_ => ?_)
  replace HB7 := Aside0.mk (below_drew1 HB7.out)
  replace BX7 := Aside0.mk (blk_drew BX7.out)
  replace BY7 := Aside0.mk (blk_drew BY7.out)
  replace BQ7 := Aside0.mk (blk_drew BQ7.out)
  replace HS7 := Aside0.mk (Kd.R_drew HS7.out)
  replace HI7 := Aside0.mk (Kd.S_drew HI7.out)
  generalize w7.drew = w8 at HB7 BX7 BY7 BQ7 HS7 HI7 hHeld ⊢
  have HB8 := HB7
  have BX8 := BX7
  have BY8 := BY7
  have BQ8 := BQ7
  have HS8 := HS7
  have HI8 := HI7
  refine pure_ (i := 0) (N := some 17) (v := ?_) (a' := ?_) #[true, false, false, false, false, false, false, false] rfl rfl (any_of HT_.out (by kernel_rfl)) (fun _ _ _ h => h) (Or.inl ⟨by rfl, ?_⟩) ?_ ?_
  rotate_left
  ·
   intro w'
   go_simp
   with_reducible rfl
  rotate_left
  ·
   simp only [Act.put, List.setIfInBounds_toArray, List.set_cons_zero, List.set_cons_succ, i64_w, i32_w]
   rfl
  refine take_ (i := 1) (N := some 18) (v := ?_) (a' := ?_) #[true, true, false, false, false, false, false, false] rfl rfl (take_ofW HT_.out HW_.out (by kernel_rfl)) (fun _ _ _ h => h) (Or.inl ⟨by rfl, ?_⟩) hHeld ?_ ?_
  rotate_left
  ·
   rintro w' s0
   have s1 := (blk_cell s0 6).trans rfl
   go_simp
   with_reducible rfl
  rotate_left
  ·
   simp only [Act.put, List.setIfInBounds_toArray, List.set_cons_zero, List.set_cons_succ, i64_w, i32_w]
   rfl
  refine pure_ (i := 2) (N := some 19) (v := ?_) (a' := ?_) #[true, true, true, false, false, false, false, false] rfl rfl (any_of HT_.out (by kernel_rfl)) (fun _ _ _ h => h) (Or.inl ⟨by rfl, ?_⟩) ?_ ?_
  rotate_left
  ·
   intro w'
   go_simp
   with_reducible rfl
  rotate_left
  ·
   simp only [Act.put, List.setIfInBounds_toArray, List.set_cons_zero, List.set_cons_succ, i64_w, i32_w]
   rfl
  refine take_ (i := 3) (N := some 20) (v := ?_) (a' := ?_) #[true, true, true, true, false, false, false, false] rfl rfl (take_ofW HT_.out HW_.out (by kernel_rfl)) (fun _ _ _ h => h) (Or.inl ⟨by rfl, ?_⟩) hHeld ?_ ?_
  rotate_left
  ·
   rintro w' s0
   have s1 := (blk_cell s0 7).trans rfl
   go_simp
   with_reducible rfl
  rotate_left
  ·
   simp only [Act.put, List.setIfInBounds_toArray, List.set_cons_zero, List.set_cons_succ, i64_w, i32_w]
   rfl
  refine pure_ (i := 4) (N := some 21) (v := ?_) (a' := ?_) #[true, true, true, true, true, false, false, false] rfl rfl (any_of HT_.out (by kernel_rfl)) (fun _ _ _ h => h) (Or.inl ⟨by rfl, ?_⟩) ?_ ?_
  rotate_left
  ·
   intro w'
   go_simp
   with_reducible rfl
  rotate_left
  ·
   simp only [Act.put, List.setIfInBounds_toArray, List.set_cons_zero, List.set_cons_succ, i64_w, i32_w]
   rfl
  refine one_ (i := 5) (N := none) #[true, true, true, true, true, true, false, false] rfl rfl (one_of HT_.out (by kernel_rfl)) (by decide) (fun K hK => ?_)
  have hz_ : w8.cell? ⟨gy, 6, none⟩ = some (.slice A6 r7.length c6) := (blk_cell BY8.out 6).trans rfl
  have fz_ := blk_frozen BY8.out 6
  refine skip_ (w1 := w8.setCell ⟨gy, 6, none⟩ (.slice A1_6 l1_6.length c1_6)) (by rfl) rfl ?_ ?_
  ·
   go_simp
  clear hz_ fz_
  have hf : ∀ i, i ≠ gy → (w8.setCell ⟨gy, 6, none⟩ (.slice A1_6 l1_6.length c1_6)).heap[i]? = w8.heap[i]? := fun i hi => far1 w8 gy 6 (.slice A1_6 l1_6.length c1_6) i hi
  have BY9 := Aside0.mk (show (w8.setCell ⟨gy, 6, none⟩ (.slice A1_6 l1_6.length c1_6)).heap[gy]? = some (.cells #[.int .i64 (6), .int .i64 r2, .int .i64 r3, .int .i64 r4, .int .i64 r5, .int .i64 r6, .slice A1_6 l1_6.length c1_6, .slice A7 r8.length c7] 51 (0, 0)) from blk_put BY8.out 6 _ rfl)
  have HB9 := Aside0.mk (show Below w.heap.size w (w8.setCell ⟨gy, 6, none⟩ (.slice A1_6 l1_6.length c1_6)) from below_set HB8.out Ggy.out)
  have BX9 := Aside0.mk ((hf gx Nx_y).trans BX8.out)
  have BQ9 := Aside0.mk ((hf gq Nq_y).trans BQ8.out)
  have HS9 := Aside0.mk (R_farT HS8.out BY8.out ne_spans hf)
  have HI9 := Aside0.mk (S_farT HI8.out BY8.out ne_items hf)
  clear hf
  refine hK.out _ _ BQ9.out (fun hHeld => ?_)
  clear hK K
  generalize w8.setCell ⟨gy, 6, none⟩ (.slice A1_6 l1_6.length c1_6) = w9 at HB9 BX9 BY9 BQ9 HS9 HI9 hHeld ⊢
  refine pure_ (i := 6) (N := some 22) (v := ?_) (a' := ?_) #[true, true, true, true, true, true, true, false] rfl rfl (any_of HT_.out (by kernel_rfl)) (fun _ _ _ h => h) (Or.inl ⟨by rfl, ?_⟩) ?_ ?_
  rotate_left
  ·
   intro w'
   go_simp
   with_reducible rfl
  rotate_left
  ·
   simp only [Act.put, List.setIfInBounds_toArray, List.set_cons_zero, List.set_cons_succ, i64_w, i32_w]
   rfl
  refine last_ (i := 7) (N := none) #[true, true, true, true, true, true, true, true] rfl rfl (one_of HT_.out (by kernel_rfl)) (by decide) (fun K hK => ?_)
  have hz_ : w9.cell? ⟨gy, 7, none⟩ = some (.slice A7 r8.length c7) := (blk_cell BY9.out 7).trans rfl
  have fz_ := blk_frozen BY9.out 7
  refine skip_ (w1 := w9.setCell ⟨gy, 7, none⟩ (.slice A1_7 l1_7.length c1_7)) (by rfl) rfl ?_ ?_
  ·
   go_simp
  clear hz_ fz_
  have hf : ∀ i, i ≠ gy → (w9.setCell ⟨gy, 7, none⟩ (.slice A1_7 l1_7.length c1_7)).heap[i]? = w9.heap[i]? := fun i hi => far1 w9 gy 7 (.slice A1_7 l1_7.length c1_7) i hi
  have BY10 := Aside0.mk (show (w9.setCell ⟨gy, 7, none⟩ (.slice A1_7 l1_7.length c1_7)).heap[gy]? = some (.cells #[.int .i64 (6), .int .i64 r2, .int .i64 r3, .int .i64 r4, .int .i64 r5, .int .i64 r6, .slice A1_6 l1_6.length c1_6, .slice A1_7 l1_7.length c1_7] 51 (0, 0)) from blk_put BY9.out 7 _ rfl)
  have HB10 := Aside0.mk (show Below w.heap.size w (w9.setCell ⟨gy, 7, none⟩ (.slice A1_7 l1_7.length c1_7)) from below_set HB9.out Ggy.out)
  have BX10 := Aside0.mk ((hf gx Nx_y).trans BX9.out)
  have BQ10 := Aside0.mk ((hf gq Nq_y).trans BQ9.out)
  have HS10 := Aside0.mk (R_farT HS9.out BY9.out ne_spans hf)
  have HI10 := Aside0.mk (S_farT HI9.out BY9.out ne_items hf)
  clear hf
  refine hK.out _ _ ?_
  clear hK K
  generalize w9.setCell ⟨gy, 7, none⟩ (.slice A1_7 l1_7.length c1_7) = w10 at HB10 BX10 BY10 BQ10 HS10 HI10 ⊢
  refine done_ (done_of HT_.out (by kernel_rfl)) ?_
  clear hHeld
  have hx10_ : w10.cell? ⟨gx, 0, none⟩ = some (.int .i64 (6)) := (blk_cell BX10.out 0).trans rfl
  have hq_ : w10.cell? ⟨gq, 5, none⟩ = some (.int .i64 a1_5) := (blk_cell BQ10.out 5).trans rfl
  have hz_ : w10.cell? ⟨gy, 5, none⟩ = some (.int .i64 r6) := (blk_cell BY10.out 5).trans rfl
  have fz_ := blk_frozen BY10.out 5
  go_wp2_with (first | ((with_reducible refine gate_store (t := 3) (p := 39) (v := .tmp 38) rfl ?_); refine store_event rfl (t := 3) (p := 39) (v := .tmp 38) rfl rfl (w1 := w10.setCell ⟨gy, 5, none⟩ (.int .i64 a1_5)) ?hr ?_; (case hr => first | (go_simp; done) | (go_simp; rfl)); intro w11 hw; have hf : ∀ i, i ≠ gy → w11.heap[i]? = w10.heap[i]? := fun i hi => (by rw [hw]; exact far1 w10 gy 5 _ i hi); have BY11 := Aside0.mk (show w11.heap[gy]? = some (.cells #[.int .i64 (6), .int .i64 r2, .int .i64 r3, .int .i64 r4, .int .i64 r5, .int .i64 a1_5, .slice A1_6 l1_6.length c1_6, .slice A1_7 l1_7.length c1_7] 51 (0, 0)) by (rw [hw]; exact blk_put BY10.out 5 _ rfl)); have HB11 := Aside0.mk (show Below w.heap.size w w11 by (rw [hw]; exact below_set HB10.out Ggy.out)); have BX11 := Aside0.mk ((hf gx Nx_y).trans BX10.out); have BQ11 := Aside0.mk ((hf gq Nq_y).trans BQ10.out); have HS11 := Aside0.mk (R_farT HS10.out BY10.out ne_spans hf); have HI11 := Aside0.mk (S_farT HI10.out BY10.out ne_items hf); have hx11_ : w11.cell? ⟨gx, 0, none⟩ = some (.int .i64 (6)) := (blk_cell BX11.out 0).trans rfl; have hq2_ : w11.cell? ⟨gq, 4, none⟩ = some (.int .i64 a1_4) := (blk_cell BQ11.out 4).trans rfl; have hz2_ : w11.cell? ⟨gy, 4, none⟩ = some (.int .i64 r5) := (blk_cell BY11.out 4).trans rfl; have fz2_ := blk_frozen BY11.out 4; clear hw hf) | ((with_reducible refine gate_store (t := 3) (p := 50) (v := .tmp 49) rfl ?_); refine store_event rfl (t := 3) (p := 50) (v := .tmp 49) rfl rfl (w1 := w11.setCell ⟨gy, 4, none⟩ (.int .i64 a1_4)) ?hr ?_; (case hr => first | (go_simp; done) | (go_simp; rfl)); intro w12 hw; have hf : ∀ i, i ≠ gy → w12.heap[i]? = w11.heap[i]? := fun i hi => (by rw [hw]; exact far1 w11 gy 4 _ i hi); have BY12 := Aside0.mk (show w12.heap[gy]? = some (.cells #[.int .i64 (6), .int .i64 r2, .int .i64 r3, .int .i64 r4, .int .i64 a1_4, .int .i64 a1_5, .slice A1_6 l1_6.length c1_6, .slice A1_7 l1_7.length c1_7] 51 (0, 0)) by (rw [hw]; exact blk_put BY11.out 4 _ rfl)); have HB12 := Aside0.mk (show Below w.heap.size w w12 by (rw [hw]; exact below_set HB11.out Ggy.out)); have BX12 := Aside0.mk ((hf gx Nx_y).trans BX11.out); have BQ12 := Aside0.mk ((hf gq Nq_y).trans BQ11.out); have HS12 := Aside0.mk (R_farT HS11.out BY11.out ne_spans hf); have HI12 := Aside0.mk (S_farT HI11.out BY11.out ne_items hf); have hx12_ : w12.cell? ⟨gx, 0, none⟩ = some (.int .i64 (6)) := (blk_cell BX12.out 0).trans rfl; have hzxc_0 : w12.cell? ⟨gx, 0, none⟩ = some (.int .i64 (6)) := (blk_cell BX12.out 0).trans rfl; have hzxc_1 : w12.cell? ⟨gx, 1, none⟩ = some (.int .i64 r2) := (blk_cell BX12.out 1).trans rfl; have hzxc_2 : w12.cell? ⟨gx, 2, none⟩ = some (.int .i64 r3) := (blk_cell BX12.out 2).trans rfl; have hzxc_3 : w12.cell? ⟨gx, 3, none⟩ = some (.int .i64 r4) := (blk_cell BX12.out 3).trans rfl; have hzxc_4 : w12.cell? ⟨gx, 4, none⟩ = some (.int .i64 r5) := (blk_cell BX12.out 4).trans rfl; have hzxc_5 : w12.cell? ⟨gx, 5, none⟩ = some (.int .i64 r6) := (blk_cell BX12.out 5).trans rfl; have hzxc_6 : w12.cell? ⟨gx, 6, none⟩ = some (.slice A6 r7.length c6) := (blk_cell BX12.out 6).trans rfl; have hzxc_7 : w12.cell? ⟨gx, 7, none⟩ = some (.slice A7 r8.length c7) := (blk_cell BX12.out 7).trans rfl; clear hw hf) | ((with_reducible refine gate_dst (N := 53) rfl ?_); refine goesL_ (some 53) rfl rfl Try.func47 (by kernel_rfl) rfl #[.agg #[.int .i64 (6), .int .i64 r2, .int .i64 r3, .int .i64 r4, .int .i64 r5, .int .i64 r6, .slice A6 r7.length c6, .slice A7 r8.length c7]] rfl (by (try simp only [List.map_toArray, List.map_cons, List.map_nil]); first | done | rfl | (simp only [List.length_drop, List.length_take]; rfl)) ?_; (with_reducible refine (parcel_Put.calls k (6) r2 r3 r4 r5 r6 _ _ r7 _ _ r8 u1 u2 _ ?s1 ?s2 ?s3 ?s4 HPX.out).mono ?_); (case s1 => exact (Kd.R_reads' HS12.out).2.2); (case s2 => exact (Kd.R_reads' HS12.out).2.1); (case s3 => exact (Kd.S_reads' HI12.out).2.2); (case s4 => exact (Kd.S_reads' HI12.out).2.1); rintro e w13 ⟨vu, rfl, hq, hb⟩; refine ⟨_, rfl, ?_⟩; have HB13 := Aside0.mk (below_step HB12.out hb); have BX13 := Aside0.mk (blk_below BX12.out hb); have BY13 := Aside0.mk (blk_below BY12.out hb); have HS13 := Aside0.mk (Kd.R_below HS12.out hb); have HI13 := Aside0.mk (Kd.S_below HI12.out hb); have HU13 := Aside0.mk (Kd.R_lower hq (below_size HB12.out)); obtain ⟨Au, cu, eu⟩ := Kd.R_slice HU13.out; subst eu; have hzyc_0 : w13.cell? ⟨gy, 0, none⟩ = some (.int .i64 (6)) := (blk_cell BY13.out 0).trans rfl; have hzyc_1 : w13.cell? ⟨gy, 1, none⟩ = some (.int .i64 r2) := (blk_cell BY13.out 1).trans rfl; have hzyc_2 : w13.cell? ⟨gy, 2, none⟩ = some (.int .i64 r3) := (blk_cell BY13.out 2).trans rfl; have hzyc_3 : w13.cell? ⟨gy, 3, none⟩ = some (.int .i64 r4) := (blk_cell BY13.out 3).trans rfl; have hzyc_4 : w13.cell? ⟨gy, 4, none⟩ = some (.int .i64 a1_4) := (blk_cell BY13.out 4).trans rfl; have hzyc_5 : w13.cell? ⟨gy, 5, none⟩ = some (.int .i64 a1_5) := (blk_cell BY13.out 5).trans rfl; have hzyc_6 : w13.cell? ⟨gy, 6, none⟩ = some (.slice A1_6 l1_6.length c1_6) := (blk_cell BY13.out 6).trans rfl; have hzyc_7 : w13.cell? ⟨gy, 7, none⟩ = some (.slice A1_7 l1_7.length c1_7) := (blk_cell BY13.out 7).trans rfl; clear hq hb) | ((with_reducible refine gate_dst (N := 58) rfl ?_); refine goesL_ (some 58) rfl rfl Try.func47 (by kernel_rfl) rfl #[.agg #[.int .i64 (6), .int .i64 r2, .int .i64 r3, .int .i64 r4, .int .i64 a1_4, .int .i64 a1_5, .slice A1_6 l1_6.length c1_6, .slice A1_7 l1_7.length c1_7]] rfl (by (try simp only [List.map_toArray, List.map_cons, List.map_nil]); first | done | rfl | (simp only [List.length_drop, List.length_take]; rfl)) ?_; (with_reducible refine (parcel_Put.calls k (6) r2 r3 r4 a1_4 a1_5 _ _ l1_6 _ _ l1_7 v1 u2 _ ?s1 ?s2 ?s3 ?s4 HPY.out).mono ?_); (case s1 => exact (Kd.C_below HR1_6.out HB13.out)); (case s2 => exact HC1_6.out); (case s3 => exact (Kd.C_below HR1_7.out HB13.out)); (case s4 => exact HC1_7.out); rintro e w14 ⟨vv, rfl, hq, hb⟩; refine ⟨_, rfl, ?_⟩; have HB14 := Aside0.mk (below_step HB13.out hb); have BX14 := Aside0.mk (blk_below BX13.out hb); have BY14 := Aside0.mk (blk_below BY13.out hb); have HS14 := Aside0.mk (Kd.R_below HS13.out hb); have HI14 := Aside0.mk (Kd.S_below HI13.out hb); have HU14 := Aside0.mk (Kd.R_below HU13.out hb); have HV14 := Aside0.mk (Kd.R_lower hq (below_size HB13.out)); obtain ⟨Av, cv, ev⟩ := Kd.R_slice HV14.out; subst ev; clear hq hb))
  refine start_ (n := 21) (S := fun w' => w'.heap[gx]? = some (.cells #[.int .i64 (6), .int .i64 r2, .int .i64 r3, .int .i64 r4, .int .i64 r5, .int .i64 r6, .slice A6 r7.length c6, .slice A7 r8.length c7] 51 (0, 0)) ∧ w'.heap[gy]? = some (.cells #[.int .i64 (6), .int .i64 r2, .int .i64 r3, .int .i64 r4, .int .i64 a1_4, .int .i64 a1_5, .slice A1_6 l1_6.length c1_6, .slice A1_7 l1_7.length c1_7] 51 (0, 0)) ∧ (Kd.int .u8).C w' Au u1.length u1 ∧ (Kd.int .u8).C w' Av v1.length v1) (ds := []) #[false, false, false, false, false, false, false, false, false, false, false, false, false, false, false, false, false, false, false, false, false] (by kernel_rfl) rfl rfl ⟨blk_drew BX14.out, blk_drew BY14.out, Kd.C_drew (Kd.R_reads' HU14.out).2.2, Kd.C_drew (Kd.R_reads' HV14.out).2.2⟩ (fun hHeld => ?_)
  refine with_tabW grapevinelaw13_ParcelUnused.tab12 grapevinelaw13_ParcelUnused.bits12 (fun HT_ HW_ => ?_)
  replace HB14 := Aside0.mk (below_drew1 HB14.out)
  replace BX14 := Aside0.mk (blk_drew BX14.out)
  replace BY14 := Aside0.mk (blk_drew BY14.out)
  replace HS14 := Aside0.mk (Kd.R_drew HS14.out)
  replace HU14 := Aside0.mk (Kd.R_drew HU14.out)
  replace HV14 := Aside0.mk (Kd.R_drew HV14.out)
  replace HI14 := Aside0.mk (Kd.S_drew HI14.out)
  generalize w14.drew = w15 at HB14 BX14 BY14 HS14 HI14 HU14 HV14 hHeld ⊢
  have HB15 := HB14
  have BX15 := BX14
  have BY15 := BY14
  have HS15 := HS14
  have HI15 := HI14
  have HU15 := HU14
  have HV15 := HV14
  refine one_ (i := 0) (N := some 61) #[true, false, false, false, false, false, false, false, false, false, false, false, false, false, false, false, false, false, false, false, false] rfl rfl (one_of HT_.out (by kernel_rfl)) (by decide) (fun K hK => ?_)
  refine goes_ Try.func44 (by kernel_rfl) rfl #[] (by rfl) rfl rfl (by (try simp only [List.map_toArray, List.map_cons, List.map_nil]); first | done | rfl | (simp only [List.length_drop, List.length_take]; rfl)) ?_
  with_reducible refine (grapevinelaw13_live.calls k true _ HL.out).mono ?_
  rintro e w16 ⟨rfl, hb⟩
  refine ⟨_, rfl, ?_⟩
  have HB16 := Aside0.mk (below_step HB15.out hb)
  have BX16 := Aside0.mk (blk_below BX15.out hb)
  have BY16 := Aside0.mk (blk_below BY15.out hb)
  have HS16 := Aside0.mk (Kd.R_below HS15.out hb)
  have HI16 := Aside0.mk (Kd.S_below HI15.out hb)
  have HU16 := Aside0.mk (Kd.R_below HU15.out hb)
  have HV16 := Aside0.mk (Kd.R_below HV15.out hb)
  clear hb
  refine hK.out _ _ ⟨BX16.out, BY16.out, (Kd.R_reads' HU16.out).2.2, (Kd.R_reads' HV16.out).2.2⟩ (fun hHeld => ?_)
  clear hK K
  refine norm_ (a' := ?_) ?_ ?_
  rotate_left
  ·
   show Act.put _ (some 61) _ = _
   simp only [Act.put, List.setIfInBounds_toArray, List.set_cons_zero, List.set_cons_succ, i64_w, i32_w]
   rfl
  refine pure_ (i := 1) (N := some 62) (v := ?_) (a' := ?_) #[true, true, false, false, false, false, false, false, false, false, false, false, false, false, false, false, false, false, false, false, false] rfl rfl (any_of HT_.out (by kernel_rfl)) (fun _ _ _ h => h) (Or.inl ⟨by rfl, ?_⟩) ?_ ?_
  rotate_left
  ·
   intro w'
   go_simp
   with_reducible rfl
  rotate_left
  ·
   simp only [Act.put, List.setIfInBounds_toArray, List.set_cons_zero, List.set_cons_succ, i64_w, i32_w]
   rfl
  refine pure_ (i := 2) (N := some 63) (v := ?_) (a' := ?_) #[true, true, true, false, false, false, false, false, false, false, false, false, false, false, false, false, false, false, false, false, false] rfl rfl (any_of HT_.out (by kernel_rfl)) (fun _ _ _ h => h) (Or.inl ⟨by rfl, ?_⟩) ?_ ?_
  rotate_left
  ·
   intro w'
   go_simp
   with_reducible rfl
  rotate_left
  ·
   simp only [Act.put, List.setIfInBounds_toArray, List.set_cons_zero, List.set_cons_succ, i64_w, i32_w]
   rfl
  refine take_ (i := 3) (N := some 64) (v := ?_) (a' := ?_) #[true, true, true, true, false, false, false, false, false, false, false, false, false, false, false, false, false, false, false, false, false] rfl rfl (take_ofW HT_.out HW_.out (by kernel_rfl)) (fun _ _ _ h => h) (Or.inl ⟨by rfl, ?_⟩) hHeld ?_ ?_
  rotate_left
  ·
   rintro w' ⟨s0, s1, s2, s3⟩
   go_simp
   rw [Kd.C_string Try.underlying44 Try.underlying5 Try.underlying9 s2]
   first | rfl | (constructor <;> rfl)
  rotate_left
  ·
   simp only [Act.put, List.setIfInBounds_toArray, List.set_cons_zero, List.set_cons_succ, i64_w, i32_w]
   rfl
  refine pure_ (i := 4) (N := some 65) (v := ?_) (a' := ?_) #[true, true, true, true, true, false, false, false, false, false, false, false, false, false, false, false, false, false, false, false, false] rfl rfl (any_of HT_.out (by kernel_rfl)) (fun _ _ _ h => h) (Or.inl ⟨by rfl, ?_⟩) ?_ ?_
  rotate_left
  ·
   intro w'
   go_simp
   with_reducible rfl
  rotate_left
  ·
   simp only [Act.put, List.setIfInBounds_toArray, List.set_cons_zero, List.set_cons_succ, i64_w, i32_w]
   rfl
  refine take_ (i := 5) (N := some 66) (v := ?_) (a' := ?_) #[true, true, true, true, true, true, false, false, false, false, false, false, false, false, false, false, false, false, false, false, false] rfl rfl (take_ofW HT_.out HW_.out (by kernel_rfl)) (fun _ _ _ h => h) (Or.inl ⟨by rfl, ?_⟩) hHeld ?_ ?_
  rotate_left
  ·
   rintro w' ⟨s0, s1, s2, s3⟩
   go_simp
   rw [Kd.C_string Try.underlying44 Try.underlying5 Try.underlying9 s3]
   first | rfl | (constructor <;> rfl)
  rotate_left
  ·
   simp only [Act.put, List.setIfInBounds_toArray, List.set_cons_zero, List.set_cons_succ, i64_w, i32_w]
   rfl
  refine pure_ (i := 6) (N := some 67) (v := ?_) (a' := ?_) #[true, true, true, true, true, true, true, false, false, false, false, false, false, false, false, false, false, false, false, false, false] rfl rfl (any_of HT_.out (by kernel_rfl)) (fun _ _ _ h => h) (Or.inl ⟨by rfl, ?_⟩) ?_ ?_
  rotate_left
  ·
   intro w'
   go_simp
   with_reducible rfl
  rotate_left
  ·
   simp only [Act.put, List.setIfInBounds_toArray, List.set_cons_zero, List.set_cons_succ, i64_w, i32_w]
   rfl
  refine pure_ (i := 7) (N := some 68) (v := ?_) (a' := ?_) #[true, true, true, true, true, true, true, true, false, false, false, false, false, false, false, false, false, false, false, false, false] rfl rfl (any_of HT_.out (by kernel_rfl)) (fun _ _ _ h => h) (Or.inl ⟨by rfl, ?_⟩) ?_ ?_
  rotate_left
  ·
   intro w'
   go_simp
   with_reducible rfl
  rotate_left
  ·
   simp only [Act.put, List.setIfInBounds_toArray, List.set_cons_zero, List.set_cons_succ, i64_w, i32_w]
   rfl
  refine pure_ (i := 8) (N := some 69) (v := ?_) (a' := ?_) #[true, true, true, true, true, true, true, true, true, false, false, false, false, false, false, false, false, false, false, false, false] rfl rfl (any_of HT_.out (by kernel_rfl)) (fun _ _ _ h => h) (Or.inl ⟨by rfl, ?_⟩) ?_ ?_
  rotate_left
  ·
   intro w'
   go_simp
   with_reducible rfl
  rotate_left
  ·
   simp only [Act.put, List.setIfInBounds_toArray, List.set_cons_zero, List.set_cons_succ, i64_w, i32_w]
   rfl
  refine pure_ (i := 9) (N := some 70) (v := ?_) (a' := ?_) #[true, true, true, true, true, true, true, true, true, true, false, false, false, false, false, false, false, false, false, false, false] rfl rfl (any_of HT_.out (by kernel_rfl)) (fun _ _ _ h => h) (Or.inl ⟨by rfl, ?_⟩) ?_ ?_
  rotate_left
  ·
   intro w'
   go_simp
   with_reducible rfl
  rotate_left
  ·
   simp only [Act.put, List.setIfInBounds_toArray, List.set_cons_zero, List.set_cons_succ, i64_w, i32_w]
   rfl
  refine pure_ (i := 10) (N := some 71) (v := ?_) (a' := ?_) #[true, true, true, true, true, true, true, true, true, true, true, false, false, false, false, false, false, false, false, false, false] rfl rfl (any_of HT_.out (by kernel_rfl)) (fun _ _ _ h => h) (Or.inl ⟨by rfl, ?_⟩) ?_ ?_
  rotate_left
  ·
   intro w'
   go_simp
   with_reducible rfl
  rotate_left
  ·
   simp only [Act.put, List.setIfInBounds_toArray, List.set_cons_zero, List.set_cons_succ, i64_w, i32_w]
   rfl
  refine pure_ (i := 11) (N := some 72) (v := ?_) (a' := ?_) #[true, true, true, true, true, true, true, true, true, true, true, true, false, false, false, false, false, false, false, false, false] rfl rfl (any_of HT_.out (by kernel_rfl)) (fun _ _ _ h => h) (Or.inl ⟨by rfl, ?_⟩) ?_ ?_
  rotate_left
  ·
   intro w'
   go_simp
   with_reducible rfl
  rotate_left
  ·
   simp only [Act.put, List.setIfInBounds_toArray, List.set_cons_zero, List.set_cons_succ, i64_w, i32_w]
   rfl
  refine pure_ (i := 12) (N := some 73) (v := ?_) (a' := ?_) #[true, true, true, true, true, true, true, true, true, true, true, true, true, false, false, false, false, false, false, false, false] rfl rfl (any_of HT_.out (by kernel_rfl)) (fun _ _ _ h => h) (Or.inl ⟨by rfl, ?_⟩) ?_ ?_
  rotate_left
  ·
   intro w'
   go_simp
   with_reducible rfl
  rotate_left
  ·
   simp only [Act.put, List.setIfInBounds_toArray, List.set_cons_zero, List.set_cons_succ, i64_w, i32_w]
   rfl
  refine pure_ (i := 13) (N := some 74) (v := ?_) (a' := ?_) #[true, true, true, true, true, true, true, true, true, true, true, true, true, true, false, false, false, false, false, false, false] rfl rfl (any_of HT_.out (by kernel_rfl)) (fun _ _ _ h => h) (Or.inl ⟨by rfl, ?_⟩) ?_ ?_
  rotate_left
  ·
   intro w'
   go_simp
   with_reducible rfl
  rotate_left
  ·
   simp only [Act.put, List.setIfInBounds_toArray, List.set_cons_zero, List.set_cons_succ, i64_w, i32_w]
   rfl
  refine take_ (i := 14) (N := some 75) (v := ?_) (a' := ?_) #[true, true, true, true, true, true, true, true, true, true, true, true, true, true, true, false, false, false, false, false, false] rfl rfl (take_ofW HT_.out HW_.out (by kernel_rfl)) (fun _ _ _ h => h) (Or.inl ⟨by rfl, ?_⟩) hHeld ?_ ?_
  rotate_left
  ·
   rintro w' ⟨s0, s1, s2, s3⟩
   have q0_ := (blk_cell s0 0).trans rfl
   have q1_ := (blk_cell s0 1).trans rfl
   have q2_ := (blk_cell s0 2).trans rfl
   have q3_ := (blk_cell s0 3).trans rfl
   have q4_ := (blk_cell s0 4).trans rfl
   have q5_ := (blk_cell s0 5).trans rfl
   have q6_ := (blk_cell s0 6).trans rfl
   have q7_ := (blk_cell s0 7).trans rfl
   go_simp
   with_reducible rfl
  rotate_left
  ·
   simp only [Act.put, List.setIfInBounds_toArray, List.set_cons_zero, List.set_cons_succ, i64_w, i32_w]
   rfl
  refine take_ (i := 16) (N := some 77) (v := ?_) (a' := ?_) #[true, true, true, true, true, true, true, true, true, true, true, true, true, true, true, false, true, false, false, false, false] rfl rfl (take_ofW HT_.out HW_.out (by kernel_rfl)) (fun _ _ _ h => h) (Or.inl ⟨by rfl, ?_⟩) hHeld ?_ ?_
  rotate_left
  ·
   rintro w' ⟨s0, s1, s2, s3⟩
   have q0_ := (blk_cell s1 0).trans rfl
   have q1_ := (blk_cell s1 1).trans rfl
   have q2_ := (blk_cell s1 2).trans rfl
   have q3_ := (blk_cell s1 3).trans rfl
   have q4_ := (blk_cell s1 4).trans rfl
   have q5_ := (blk_cell s1 5).trans rfl
   have q6_ := (blk_cell s1 6).trans rfl
   have q7_ := (blk_cell s1 7).trans rfl
   go_simp
   with_reducible rfl
  rotate_left
  ·
   simp only [Act.put, List.setIfInBounds_toArray, List.set_cons_zero, List.set_cons_succ, i64_w, i32_w]
   rfl
  refine one_ (i := 15) (N := some 76) #[true, true, true, true, true, true, true, true, true, true, true, true, true, true, true, true, true, false, false, false, false] rfl rfl (one_of HT_.out (by kernel_rfl)) (by decide) (fun K hK => ?_)
  refine goes_ Try.func45 (by kernel_rfl) rfl #[.agg #[.int .i64 (6), .int .i64 r2, .int .i64 r3, .int .i64 r4, .int .i64 r5, .int .i64 r6, .slice A6 r7.length c6, .slice A7 r8.length c7]] (by rfl) rfl rfl (by (try simp only [List.map_toArray, List.map_cons, List.map_nil]); first | done | rfl | (simp only [List.length_drop, List.length_take]; rfl)) ?_
  with_reducible refine (parcel_Check.calls k (6) r2 r3 r4 r5 r6 _ _ r7 _ _ r8 c _ ?s1 ?s2 ?s3 ?s4 HCX.out).mono ?_
  case s1 => exact (Kd.R_reads' HS16.out).2.2
  case s2 => exact (Kd.R_reads' HS16.out).2.1
  case s3 => exact (Kd.S_reads' HI16.out).2.2
  case s4 => exact (Kd.S_reads' HI16.out).2.1
  rintro e w17 ⟨rfl, hb⟩
  refine ⟨_, rfl, ?_⟩
  have HB17 := Aside0.mk (below_step HB16.out hb)
  have BX17 := Aside0.mk (blk_below BX16.out hb)
  have BY17 := Aside0.mk (blk_below BY16.out hb)
  have HS17 := Aside0.mk (Kd.R_below HS16.out hb)
  have HI17 := Aside0.mk (Kd.S_below HI16.out hb)
  have HU17 := Aside0.mk (Kd.R_below HU16.out hb)
  have HV17 := Aside0.mk (Kd.R_below HV16.out hb)
  clear hb
  refine hK.out _ _ ⟨BX17.out, BY17.out, (Kd.R_reads' HU17.out).2.2, (Kd.R_reads' HV17.out).2.2⟩ (fun hHeld => ?_)
  clear hK K
  refine norm_ (a' := ?_) ?_ ?_
  rotate_left
  ·
   show Act.put _ (some 76) _ = _
   simp only [Act.put, List.setIfInBounds_toArray, List.set_cons_zero, List.set_cons_succ, i64_w, i32_w]
   rfl
  refine one_ (i := 17) (N := some 78) #[true, true, true, true, true, true, true, true, true, true, true, true, true, true, true, true, true, true, false, false, false] rfl rfl (one_of HT_.out (by kernel_rfl)) (by decide) (fun K hK => ?_)
  refine goes_ Try.func45 (by kernel_rfl) rfl #[.agg #[.int .i64 (6), .int .i64 r2, .int .i64 r3, .int .i64 r4, .int .i64 a1_4, .int .i64 a1_5, .slice A1_6 l1_6.length c1_6, .slice A1_7 l1_7.length c1_7]] (by rfl) rfl rfl (by (try simp only [List.map_toArray, List.map_cons, List.map_nil]); first | done | rfl | (simp only [List.length_drop, List.length_take]; rfl)) ?_
  with_reducible refine (parcel_Check.calls k (6) r2 r3 r4 a1_4 a1_5 _ _ l1_6 _ _ l1_7 c _ ?s1 ?s2 ?s3 ?s4 HCY.out).mono ?_
  case s1 => exact (Kd.C_below HR1_6.out HB17.out)
  case s2 => exact HC1_6.out
  case s3 => exact (Kd.C_below HR1_7.out HB17.out)
  case s4 => exact HC1_7.out
  rintro e w18 ⟨rfl, hb⟩
  refine ⟨_, rfl, ?_⟩
  have HB18 := Aside0.mk (below_step HB17.out hb)
  have BX18 := Aside0.mk (blk_below BX17.out hb)
  have BY18 := Aside0.mk (blk_below BY17.out hb)
  have HS18 := Aside0.mk (Kd.R_below HS17.out hb)
  have HI18 := Aside0.mk (Kd.S_below HI17.out hb)
  have HU18 := Aside0.mk (Kd.R_below HU17.out hb)
  have HV18 := Aside0.mk (Kd.R_below HV17.out hb)
  clear hb
  refine hK.out _ _ ⟨BX18.out, BY18.out, (Kd.R_reads' HU18.out).2.2, (Kd.R_reads' HV18.out).2.2⟩ (fun hHeld => ?_)
  clear hK K
  refine norm_ (a' := ?_) ?_ ?_
  rotate_left
  ·
   show Act.put _ (some 78) _ = _
   simp only [Act.put, List.setIfInBounds_toArray, List.set_cons_zero, List.set_cons_succ, i64_w, i32_w]
   rfl
  refine pure_ (i := 18) (N := some 79) (v := ?_) (a' := ?_) #[true, true, true, true, true, true, true, true, true, true, true, true, true, true, true, true, true, true, true, false, false] rfl rfl (any_of HT_.out (by kernel_rfl)) (fun _ _ _ h => h) (Or.inl ⟨by rfl, ?_⟩) ?_ ?_
  rotate_left
  ·
   intro w'
   go_simp
   with_reducible rfl
  rotate_left
  ·
   simp only [Act.put, List.setIfInBounds_toArray, List.set_cons_zero, List.set_cons_succ, i64_w, i32_w]
   rfl
  refine pure_ (i := 19) (N := some 80) (v := ?_) (a' := ?_) #[true, true, true, true, true, true, true, true, true, true, true, true, true, true, true, true, true, true, true, true, false] rfl rfl (any_of HT_.out (by kernel_rfl)) (fun _ _ _ h => h) (Or.inl ⟨by rfl, ?_⟩) ?_ ?_
  rotate_left
  ·
   intro w'
   go_simp
   with_reducible rfl
  rotate_left
  ·
   simp only [Act.put, List.setIfInBounds_toArray, List.set_cons_zero, List.set_cons_succ, i64_w, i32_w]
   rfl
  refine pure_ (i := 20) (N := some 4) (v := ?_) (a' := ?_) #[true, true, true, true, true, true, true, true, true, true, true, true, true, true, true, true, true, true, true, true, true] rfl rfl (any_of HT_.out (by kernel_rfl)) (fun _ _ _ h => h) (Or.inl ⟨by rfl, ?_⟩) ?_ ?_
  rotate_left
  ·
   intro w'
   go_simp
   with_reducible rfl
  rotate_left
  ·
   simp only [Act.put, List.setIfInBounds_toArray, List.set_cons_zero, List.set_cons_succ, i64_w, i32_w]
   rfl
  refine done_ (done_of HT_.out (by kernel_rfl)) ?_
  go_wp2
  go_ret
  exact ⟨rfl, HB18.out⟩
 have k1 : (r1 == 1) = false := beq_eq_false_iff_ne.mpr e1
 have k2 : (r1 == 2) = false := beq_eq_false_iff_ne.mpr e2
 have k4 : (r1 == 4) = false := beq_eq_false_iff_ne.mpr e4
 have k6 : (r1 == 6) = false := beq_eq_false_iff_ne.mpr e6
 have kn : (r1 != 1) = true := bne_iff_ne.mpr e1
 simp only [if_neg (show ¬ (r1 = 1 ∨ r1 = 2) by omega), if_neg (show ¬ (r1 = 4 ∨ r1 = 6) by omega), if_neg (show ¬ (r1 = 1) by omega)] at hy hcy
 have HPY := Aside0.mk (show parcel_Put.f k r1 r2 r3 r4 r5 a1_5 l1_6 l1_7 = some (v1, u2) from hy)
 have HCY := Aside0.mk (show parcel_Check.f k r1 r2 r3 r4 r5 a1_5 l1_6 l1_7 = some c from hcy)
 clear hy hcy
 go_enter Try.func15, Try.ntmps15
 go_wp2_with (first | ((with_reducible refine gate_dst (N := 2) rfl ?_); refine box_event ?hg (N := 2) ?hd (cs := #[.int .i64 a0_0, .int .i64 a0_1, .int .i64 a0_2, .int .i64 a0_3, .int .i64 a0_4, .int .i64 a0_5, .slice A0_6 l0_6.length c0_6, .slice A0_7 l0_7.length c0_7]) (t := 51) ?hr ?_; (case hd => rfl); (case hg => rfl); (case hr => first | (go_simp; done) | (go_simp; rfl)); intro gp hg w1 hbox hb; have HB1 := Aside0.mk hb; have Ggp := Aside0.mk (show w.heap.size ≤ gp by rw [hg]; exact Nat.le_refl _); have BP1 := Aside0.mk hbox; clear hb hbox hg) | ((with_reducible refine gate_dst (N := 3) rfl ?_); refine box_event ?hg (N := 3) ?hd (cs := #[.int .i64 a1_0, .int .i64 a1_1, .int .i64 a1_2, .int .i64 a1_3, .int .i64 a1_4, .int .i64 a1_5, .slice A1_6 l1_6.length c1_6, .slice A1_7 l1_7.length c1_7]) (t := 51) ?hr ?_; (case hd => rfl); (case hg => rfl); (case hr => first | (go_simp; done) | (go_simp; rfl)); intro gq hg w2 hbox hb; have HB2 := Aside0.mk (below_step (by repeat (first | (with_reducible first | exact HB1.out | apply below_alloc | apply pw_below_drewN | apply below_drew1) | exact HB1.out)) hb); have Ggq := Aside0.mk (show w.heap.size ≤ gq by (rw [hg]; exact below_size (by repeat (first | (with_reducible first | exact HB1.out | apply below_alloc | apply pw_below_drewN | apply below_drew1) | exact HB1.out)))); have BQ2 := Aside0.mk hbox; have BP2 := Aside0.mk (blk_below BP1.out hb); have hza_0 : w2.cell? ⟨gp, 0, none⟩ = some (.int .i64 a0_0) := (blk_cell BP2.out 0).trans rfl; have hza_1 : w2.cell? ⟨gp, 1, none⟩ = some (.int .i64 a0_1) := (blk_cell BP2.out 1).trans rfl; have hza_2 : w2.cell? ⟨gp, 2, none⟩ = some (.int .i64 a0_2) := (blk_cell BP2.out 2).trans rfl; have hza_3 : w2.cell? ⟨gp, 3, none⟩ = some (.int .i64 a0_3) := (blk_cell BP2.out 3).trans rfl; have hza_4 : w2.cell? ⟨gp, 4, none⟩ = some (.int .i64 a0_4) := (blk_cell BP2.out 4).trans rfl; have hza_5 : w2.cell? ⟨gp, 5, none⟩ = some (.int .i64 a0_5) := (blk_cell BP2.out 5).trans rfl; have hza_6 : w2.cell? ⟨gp, 6, none⟩ = some (.slice A0_6 l0_6.length c0_6) := (blk_cell BP2.out 6).trans rfl; have hza_7 : w2.cell? ⟨gp, 7, none⟩ = some (.slice A0_7 l0_7.length c0_7) := (blk_cell BP2.out 7).trans rfl; clear hb hbox hg) | ((with_reducible refine gate_dst (N := 12) rfl ?_); refine goesL_ (some 12) rfl rfl Try.func49 (by kernel_rfl) rfl #[.agg #[.int .i64 a0_0, .int .i64 a0_1, .int .i64 a0_2, .int .i64 a0_3, .int .i64 a0_4, .int .i64 a0_5, .slice A0_6 l0_6.length c0_6, .slice A0_7 l0_7.length c0_7]] rfl (by (try simp only [List.map_toArray, List.map_cons, List.map_nil]); first | done | rfl | (simp only [List.length_drop, List.length_take]; rfl)) ?_; (with_reducible refine (grapevineref13_Plain.calls k a0_0 a0_1 a0_2 a0_3 a0_4 a0_5 _ _ l0_6 _ _ l0_7 r1 r2 r3 r4 r5 r6 r7 r8 _ ?s1 HC0_6.out ?s3 HC0_7.out HPL.out).mono ?_); (case s1 => repeat (first | exact (Kd.C_below HR0_6.out HB2.out) | (with_reducible refine Kd.C_alloc ?_ _) | (with_reducible refine Kd.C_drewN ?_ _) | (with_reducible refine Kd.C_drew ?_))); (case s3 => repeat (first | exact (Kd.C_below HR0_7.out HB2.out) | (with_reducible refine Kd.C_alloc ?_ _) | (with_reducible refine Kd.C_drewN ?_ _) | (with_reducible refine Kd.C_drew ?_))); rintro e w3 ⟨v6, v7, rfl, ho6, ho7, hb⟩; refine ⟨_, rfl, ?_⟩; have HB3 := Aside0.mk (below_step HB2.out hb); have BQ3 := Aside0.mk (blk_below BQ2.out hb); have HS3 := Aside0.mk (Kd.R_lower ho6 (below_size HB2.out)); have HI3 := Aside0.mk (Kd.S_lower ho7 (below_size HB2.out)); obtain ⟨A6, c6, e6⟩ := Kd.R_slice HS3.out; subst e6; obtain ⟨A7, c7, e7⟩ := Kd.S_slice HI3.out; subst e7; clear hb ho6 ho7) | ((with_reducible refine gate_dst (N := 5) rfl ?_); refine box_event ?hg (N := 5) ?hd (cs := #[.int .i64 0, .int .i64 0, .int .i64 0, .int .i64 0, .int .i64 0, .int .i64 0, .slice none 0 0, .slice none 0 0]) (t := 51) ?hr ?_; (case hd => rfl); (case hg => rfl); (case hr => first | (go_simp; done) | (go_simp; rfl)); intro gx hg w4 hbox hb; have Nq_x : gq ≠ gx := (fun e_ => absurd (blk_lt BQ3.out) (by rw [e_, hg]; exact Nat.lt_irrefl _)); have HB4 := Aside0.mk (below_step (by repeat (first | (with_reducible first | exact HB3.out | apply below_alloc | apply pw_below_drewN | apply below_drew1) | exact HB3.out)) hb); have Ggx := Aside0.mk (show w.heap.size ≤ gx by (rw [hg]; exact below_size (by repeat (first | (with_reducible first | exact HB3.out | apply below_alloc | apply pw_below_drewN | apply below_drew1) | exact HB3.out)))); have BX4 := Aside0.mk hbox; have BQ4 := Aside0.mk (blk_below BQ3.out hb); have HS4 := Aside0.mk (Kd.R_below HS3.out hb); have HI4 := Aside0.mk (Kd.S_below HI3.out hb); have hzn5_0 : w4.cell? ⟨gx, 0, none⟩ = some (.int .i64 0) := (blk_cell BX4.out 0).trans rfl; have hzn5_1 : w4.cell? ⟨gx, 1, none⟩ = some (.int .i64 0) := (blk_cell BX4.out 1).trans rfl; have hzn5_2 : w4.cell? ⟨gx, 2, none⟩ = some (.int .i64 0) := (blk_cell BX4.out 2).trans rfl; have hzn5_3 : w4.cell? ⟨gx, 3, none⟩ = some (.int .i64 0) := (blk_cell BX4.out 3).trans rfl; have hzn5_4 : w4.cell? ⟨gx, 4, none⟩ = some (.int .i64 0) := (blk_cell BX4.out 4).trans rfl; have hzn5_5 : w4.cell? ⟨gx, 5, none⟩ = some (.int .i64 0) := (blk_cell BX4.out 5).trans rfl; have hzn5_6 : w4.cell? ⟨gx, 6, none⟩ = some (.slice none 0 0) := (blk_cell BX4.out 6).trans rfl; have hzn5_7 : w4.cell? ⟨gx, 7, none⟩ = some (.slice none 0 0) := (blk_cell BX4.out 7).trans rfl; have fzn5_0 := blk_frozen BX4.out 0; have fzn5_1 := blk_frozen BX4.out 1; have fzn5_2 := blk_frozen BX4.out 2; have fzn5_3 := blk_frozen BX4.out 3; have fzn5_4 := blk_frozen BX4.out 4; have fzn5_5 := blk_frozen BX4.out 5; have fzn5_6 := blk_frozen BX4.out 6; have fzn5_7 := blk_frozen BX4.out 7; clear hb hbox hg) | ((with_reducible refine gate_store (t := 51) (p := 5) (v := .tmp 12) rfl ?_); refine store_event rfl (t := 51) (p := 5) (v := .tmp 12) rfl rfl (w1 := ((((((((w4.setCell ⟨gx, 0, none⟩ (.int .i64 r1)).setCell ⟨gx, 1, none⟩ (.int .i64 r2)).setCell ⟨gx, 2, none⟩ (.int .i64 r3)).setCell ⟨gx, 3, none⟩ (.int .i64 r4)).setCell ⟨gx, 4, none⟩ (.int .i64 r5)).setCell ⟨gx, 5, none⟩ (.int .i64 r6)).setCell ⟨gx, 6, none⟩ (.slice A6 r7.length c6)).setCell ⟨gx, 7, none⟩ (.slice A7 r8.length c7))) ?hr ?_; (case hr => first | (go_simp; done) | (go_simp; rfl)); intro w5 hw; have hf : ∀ i, i ≠ gx → w5.heap[i]? = w4.heap[i]? := fun i hi => (by rw [hw]; exact far8 w4 gx (.int .i64 r1) (.int .i64 r2) (.int .i64 r3) (.int .i64 r4) (.int .i64 r5) (.int .i64 r6) (.slice A6 r7.length c6) (.slice A7 r8.length c7) i hi); have BX5 := Aside0.mk (show w5.heap[gx]? = some (.cells #[.int .i64 r1, .int .i64 r2, .int .i64 r3, .int .i64 r4, .int .i64 r5, .int .i64 r6, .slice A6 r7.length c6, .slice A7 r8.length c7] 51 (0, 0)) by (rw [hw]; exact blk_put (blk_put (blk_put (blk_put (blk_put (blk_put (blk_put (blk_put (BX4.out) 0 _ rfl) 1 _ rfl) 2 _ rfl) 3 _ rfl) 4 _ rfl) 5 _ rfl) 6 _ rfl) 7 _ rfl)); have HB5 := Aside0.mk (show Below w.heap.size w w5 by (rw [hw]; exact below_set (below_set (below_set (below_set (below_set (below_set (below_set (below_set (HB4.out) Ggx.out) Ggx.out) Ggx.out) Ggx.out) Ggx.out) Ggx.out) Ggx.out) Ggx.out)); have BQ5 := Aside0.mk ((hf gq Nq_x).trans BQ4.out); have HS5 := Aside0.mk (R_farT HS4.out BX4.out ne_spans hf); have HI5 := Aside0.mk (S_farT HI4.out BX4.out ne_items hf); have hzxa_0 : w5.cell? ⟨gx, 0, none⟩ = some (.int .i64 r1) := (blk_cell BX5.out 0).trans rfl; have hzxa_1 : w5.cell? ⟨gx, 1, none⟩ = some (.int .i64 r2) := (blk_cell BX5.out 1).trans rfl; have hzxa_2 : w5.cell? ⟨gx, 2, none⟩ = some (.int .i64 r3) := (blk_cell BX5.out 2).trans rfl; have hzxa_3 : w5.cell? ⟨gx, 3, none⟩ = some (.int .i64 r4) := (blk_cell BX5.out 3).trans rfl; have hzxa_4 : w5.cell? ⟨gx, 4, none⟩ = some (.int .i64 r5) := (blk_cell BX5.out 4).trans rfl; have hzxa_5 : w5.cell? ⟨gx, 5, none⟩ = some (.int .i64 r6) := (blk_cell BX5.out 5).trans rfl; have hzxa_6 : w5.cell? ⟨gx, 6, none⟩ = some (.slice A6 r7.length c6) := (blk_cell BX5.out 6).trans rfl; have hzxa_7 : w5.cell? ⟨gx, 7, none⟩ = some (.slice A7 r8.length c7) := (blk_cell BX5.out 7).trans rfl; clear hw hf) | ((with_reducible refine gate_dst (N := 6) rfl ?_); refine box_event ?hg (N := 6) ?hd (cs := #[.int .i64 0, .int .i64 0, .int .i64 0, .int .i64 0, .int .i64 0, .int .i64 0, .slice none 0 0, .slice none 0 0]) (t := 51) ?hr ?_; (case hd => rfl); (case hg => rfl); (case hr => first | (go_simp; done) | (go_simp; rfl)); intro gy hg w6 hbox hb; have Nq_y : gq ≠ gy := (fun e_ => absurd (blk_lt BQ5.out) (by rw [e_, hg]; exact Nat.lt_irrefl _)); have Nx_y : gx ≠ gy := (fun e_ => absurd (blk_lt BX5.out) (by rw [e_, hg]; exact Nat.lt_irrefl _)); have HB6 := Aside0.mk (below_step (by repeat (first | (with_reducible first | exact HB5.out | apply below_alloc | apply pw_below_drewN | apply below_drew1) | exact HB5.out)) hb); have Ggy := Aside0.mk (show w.heap.size ≤ gy by (rw [hg]; exact below_size (by repeat (first | (with_reducible first | exact HB5.out | apply below_alloc | apply pw_below_drewN | apply below_drew1) | exact HB5.out)))); have BY6 := Aside0.mk hbox; have BX6 := Aside0.mk (blk_below BX5.out hb); have BQ6 := Aside0.mk (blk_below BQ5.out hb); have HS6 := Aside0.mk (Kd.R_below HS5.out hb); have HI6 := Aside0.mk (Kd.S_below HI5.out hb); have hzn6_0 : w6.cell? ⟨gy, 0, none⟩ = some (.int .i64 0) := (blk_cell BY6.out 0).trans rfl; have hzn6_1 : w6.cell? ⟨gy, 1, none⟩ = some (.int .i64 0) := (blk_cell BY6.out 1).trans rfl; have hzn6_2 : w6.cell? ⟨gy, 2, none⟩ = some (.int .i64 0) := (blk_cell BY6.out 2).trans rfl; have hzn6_3 : w6.cell? ⟨gy, 3, none⟩ = some (.int .i64 0) := (blk_cell BY6.out 3).trans rfl; have hzn6_4 : w6.cell? ⟨gy, 4, none⟩ = some (.int .i64 0) := (blk_cell BY6.out 4).trans rfl; have hzn6_5 : w6.cell? ⟨gy, 5, none⟩ = some (.int .i64 0) := (blk_cell BY6.out 5).trans rfl; have hzn6_6 : w6.cell? ⟨gy, 6, none⟩ = some (.slice none 0 0) := (blk_cell BY6.out 6).trans rfl; have hzn6_7 : w6.cell? ⟨gy, 7, none⟩ = some (.slice none 0 0) := (blk_cell BY6.out 7).trans rfl; have fzn6_0 := blk_frozen BY6.out 0; have fzn6_1 := blk_frozen BY6.out 1; have fzn6_2 := blk_frozen BY6.out 2; have fzn6_3 := blk_frozen BY6.out 3; have fzn6_4 := blk_frozen BY6.out 4; have fzn6_5 := blk_frozen BY6.out 5; have fzn6_6 := blk_frozen BY6.out 6; have fzn6_7 := blk_frozen BY6.out 7; clear hb hbox hg) | ((with_reducible refine gate_store (t := 51) (p := 6) (v := .tmp 13) rfl ?_); refine store_event rfl (t := 51) (p := 6) (v := .tmp 13) rfl rfl (w1 := ((((((((w6.setCell ⟨gy, 0, none⟩ (.int .i64 r1)).setCell ⟨gy, 1, none⟩ (.int .i64 r2)).setCell ⟨gy, 2, none⟩ (.int .i64 r3)).setCell ⟨gy, 3, none⟩ (.int .i64 r4)).setCell ⟨gy, 4, none⟩ (.int .i64 r5)).setCell ⟨gy, 5, none⟩ (.int .i64 r6)).setCell ⟨gy, 6, none⟩ (.slice A6 r7.length c6)).setCell ⟨gy, 7, none⟩ (.slice A7 r8.length c7))) ?hr ?_; (case hr => first | (go_simp; done) | (go_simp; rfl)); intro w7 hw; have hf : ∀ i, i ≠ gy → w7.heap[i]? = w6.heap[i]? := fun i hi => (by rw [hw]; exact far8 w6 gy (.int .i64 r1) (.int .i64 r2) (.int .i64 r3) (.int .i64 r4) (.int .i64 r5) (.int .i64 r6) (.slice A6 r7.length c6) (.slice A7 r8.length c7) i hi); have BY7 := Aside0.mk (show w7.heap[gy]? = some (.cells #[.int .i64 r1, .int .i64 r2, .int .i64 r3, .int .i64 r4, .int .i64 r5, .int .i64 r6, .slice A6 r7.length c6, .slice A7 r8.length c7] 51 (0, 0)) by (rw [hw]; exact blk_put (blk_put (blk_put (blk_put (blk_put (blk_put (blk_put (blk_put (BY6.out) 0 _ rfl) 1 _ rfl) 2 _ rfl) 3 _ rfl) 4 _ rfl) 5 _ rfl) 6 _ rfl) 7 _ rfl)); have HB7 := Aside0.mk (show Below w.heap.size w w7 by (rw [hw]; exact below_set (below_set (below_set (below_set (below_set (below_set (below_set (below_set (HB6.out) Ggy.out) Ggy.out) Ggy.out) Ggy.out) Ggy.out) Ggy.out) Ggy.out) Ggy.out)); have BX7 := Aside0.mk ((hf gx Nx_y).trans BX6.out); have BQ7 := Aside0.mk ((hf gq Nq_y).trans BQ6.out); have HS7 := Aside0.mk (R_farT HS6.out BY6.out ne_spans hf); have HI7 := Aside0.mk (S_farT HI6.out BY6.out ne_items hf); have hzya_0 : w7.cell? ⟨gy, 0, none⟩ = some (.int .i64 r1) := (blk_cell BY7.out 0).trans rfl; have hzya_1 : w7.cell? ⟨gy, 1, none⟩ = some (.int .i64 r2) := (blk_cell BY7.out 1).trans rfl; have hzya_2 : w7.cell? ⟨gy, 2, none⟩ = some (.int .i64 r3) := (blk_cell BY7.out 2).trans rfl; have hzya_3 : w7.cell? ⟨gy, 3, none⟩ = some (.int .i64 r4) := (blk_cell BY7.out 3).trans rfl; have hzya_4 : w7.cell? ⟨gy, 4, none⟩ = some (.int .i64 r5) := (blk_cell BY7.out 4).trans rfl; have hzya_5 : w7.cell? ⟨gy, 5, none⟩ = some (.int .i64 r6) := (blk_cell BY7.out 5).trans rfl; have hzya_6 : w7.cell? ⟨gy, 6, none⟩ = some (.slice A6 r7.length c6) := (blk_cell BY7.out 6).trans rfl; have hzya_7 : w7.cell? ⟨gy, 7, none⟩ = some (.slice A7 r8.length c7) := (blk_cell BY7.out 7).trans rfl; have hzxb_0 : w7.cell? ⟨gx, 0, none⟩ = some (.int .i64 r1) := (blk_cell BX7.out 0).trans rfl; clear hw hf))
 refine start_ (n := 8) (S := fun w' => w'.heap[gq]? = some (.cells #[.int .i64 a1_0, .int .i64 a1_1, .int .i64 a1_2, .int .i64 a1_3, .int .i64 a1_4, .int .i64 a1_5, .slice A1_6 l1_6.length c1_6, .slice A1_7 l1_7.length c1_7] 51 (0, 0))) (ds := [7]) #[false, false, false, false, false, false, false, false] (by kernel_rfl) rfl rfl (blk_drew BQ7.out) (fun hHeld => ?_)
 refine with_tabW grapevinelaw13_ParcelUnused.tab4 grapevinelaw13_ParcelUnused.bits4 (fun HT_ HW_ => ?_)
 replace HB7 := Aside0.mk (below_drew1 HB7.out)
 replace BX7 := Aside0.mk (blk_drew BX7.out)
 replace BY7 := Aside0.mk (blk_drew BY7.out)
 replace BQ7 := Aside0.mk (blk_drew BQ7.out)
 replace HS7 := Aside0.mk (Kd.R_drew HS7.out)
 replace HI7 := Aside0.mk (Kd.S_drew HI7.out)
 generalize w7.drew = w8 at HB7 BX7 BY7 BQ7 HS7 HI7 hHeld ⊢
 have HB8 := HB7
 have BX8 := BX7
 have BY8 := BY7
 have BQ8 := BQ7
 have HS8 := HS7
 have HI8 := HI7
 refine pure_ (i := 0) (N := some 17) (v := ?_) (a' := ?_) #[true, false, false, false, false, false, false, false] rfl rfl (any_of HT_.out (by kernel_rfl)) (fun _ _ _ h => h) (Or.inl ⟨by rfl, ?_⟩) ?_ ?_
 rotate_left
 ·
  intro w'
  go_simp
  with_reducible rfl
 rotate_left
 ·
  simp only [Act.put, List.setIfInBounds_toArray, List.set_cons_zero, List.set_cons_succ, i64_w, i32_w]
  rfl
 refine take_ (i := 1) (N := some 18) (v := ?_) (a' := ?_) #[true, true, false, false, false, false, false, false] rfl rfl (take_ofW HT_.out HW_.out (by kernel_rfl)) (fun _ _ _ h => h) (Or.inl ⟨by rfl, ?_⟩) hHeld ?_ ?_
 rotate_left
 ·
  rintro w' s0
  have s1 := (blk_cell s0 6).trans rfl
  go_simp
  with_reducible rfl
 rotate_left
 ·
  simp only [Act.put, List.setIfInBounds_toArray, List.set_cons_zero, List.set_cons_succ, i64_w, i32_w]
  rfl
 refine pure_ (i := 2) (N := some 19) (v := ?_) (a' := ?_) #[true, true, true, false, false, false, false, false] rfl rfl (any_of HT_.out (by kernel_rfl)) (fun _ _ _ h => h) (Or.inl ⟨by rfl, ?_⟩) ?_ ?_
 rotate_left
 ·
  intro w'
  go_simp
  with_reducible rfl
 rotate_left
 ·
  simp only [Act.put, List.setIfInBounds_toArray, List.set_cons_zero, List.set_cons_succ, i64_w, i32_w]
  rfl
 refine take_ (i := 3) (N := some 20) (v := ?_) (a' := ?_) #[true, true, true, true, false, false, false, false] rfl rfl (take_ofW HT_.out HW_.out (by kernel_rfl)) (fun _ _ _ h => h) (Or.inl ⟨by rfl, ?_⟩) hHeld ?_ ?_
 rotate_left
 ·
  rintro w' s0
  have s1 := (blk_cell s0 7).trans rfl
  go_simp
  with_reducible rfl
 rotate_left
 ·
  simp only [Act.put, List.setIfInBounds_toArray, List.set_cons_zero, List.set_cons_succ, i64_w, i32_w]
  rfl
 refine pure_ (i := 4) (N := some 21) (v := ?_) (a' := ?_) #[true, true, true, true, true, false, false, false] rfl rfl (any_of HT_.out (by kernel_rfl)) (fun _ _ _ h => h) (Or.inl ⟨by rfl, ?_⟩) ?_ ?_
 rotate_left
 ·
  intro w'
  go_simp
  with_reducible rfl
 rotate_left
 ·
  simp only [Act.put, List.setIfInBounds_toArray, List.set_cons_zero, List.set_cons_succ, i64_w, i32_w]
  rfl
 refine one_ (i := 5) (N := none) #[true, true, true, true, true, true, false, false] rfl rfl (one_of HT_.out (by kernel_rfl)) (by decide) (fun K hK => ?_)
 have hz_ : w8.cell? ⟨gy, 6, none⟩ = some (.slice A6 r7.length c6) := (blk_cell BY8.out 6).trans rfl
 have fz_ := blk_frozen BY8.out 6
 refine skip_ (w1 := w8.setCell ⟨gy, 6, none⟩ (.slice A1_6 l1_6.length c1_6)) (by rfl) rfl ?_ ?_
 ·
  go_simp
 clear hz_ fz_
 have hf : ∀ i, i ≠ gy → (w8.setCell ⟨gy, 6, none⟩ (.slice A1_6 l1_6.length c1_6)).heap[i]? = w8.heap[i]? := fun i hi => far1 w8 gy 6 (.slice A1_6 l1_6.length c1_6) i hi
 have BY9 := Aside0.mk (show (w8.setCell ⟨gy, 6, none⟩ (.slice A1_6 l1_6.length c1_6)).heap[gy]? = some (.cells #[.int .i64 r1, .int .i64 r2, .int .i64 r3, .int .i64 r4, .int .i64 r5, .int .i64 r6, .slice A1_6 l1_6.length c1_6, .slice A7 r8.length c7] 51 (0, 0)) from blk_put BY8.out 6 _ rfl)
 have HB9 := Aside0.mk (show Below w.heap.size w (w8.setCell ⟨gy, 6, none⟩ (.slice A1_6 l1_6.length c1_6)) from below_set HB8.out Ggy.out)
 have BX9 := Aside0.mk ((hf gx Nx_y).trans BX8.out)
 have BQ9 := Aside0.mk ((hf gq Nq_y).trans BQ8.out)
 have HS9 := Aside0.mk (R_farT HS8.out BY8.out ne_spans hf)
 have HI9 := Aside0.mk (S_farT HI8.out BY8.out ne_items hf)
 clear hf
 refine hK.out _ _ BQ9.out (fun hHeld => ?_)
 clear hK K
 generalize w8.setCell ⟨gy, 6, none⟩ (.slice A1_6 l1_6.length c1_6) = w9 at HB9 BX9 BY9 BQ9 HS9 HI9 hHeld ⊢
 refine pure_ (i := 6) (N := some 22) (v := ?_) (a' := ?_) #[true, true, true, true, true, true, true, false] rfl rfl (any_of HT_.out (by kernel_rfl)) (fun _ _ _ h => h) (Or.inl ⟨by rfl, ?_⟩) ?_ ?_
 rotate_left
 ·
  intro w'
  go_simp
  with_reducible rfl
 rotate_left
 ·
  simp only [Act.put, List.setIfInBounds_toArray, List.set_cons_zero, List.set_cons_succ, i64_w, i32_w]
  rfl
 refine last_ (i := 7) (N := none) #[true, true, true, true, true, true, true, true] rfl rfl (one_of HT_.out (by kernel_rfl)) (by decide) (fun K hK => ?_)
 have hz_ : w9.cell? ⟨gy, 7, none⟩ = some (.slice A7 r8.length c7) := (blk_cell BY9.out 7).trans rfl
 have fz_ := blk_frozen BY9.out 7
 refine skip_ (w1 := w9.setCell ⟨gy, 7, none⟩ (.slice A1_7 l1_7.length c1_7)) (by rfl) rfl ?_ ?_
 ·
  go_simp
 clear hz_ fz_
 have hf : ∀ i, i ≠ gy → (w9.setCell ⟨gy, 7, none⟩ (.slice A1_7 l1_7.length c1_7)).heap[i]? = w9.heap[i]? := fun i hi => far1 w9 gy 7 (.slice A1_7 l1_7.length c1_7) i hi
 have BY10 := Aside0.mk (show (w9.setCell ⟨gy, 7, none⟩ (.slice A1_7 l1_7.length c1_7)).heap[gy]? = some (.cells #[.int .i64 r1, .int .i64 r2, .int .i64 r3, .int .i64 r4, .int .i64 r5, .int .i64 r6, .slice A1_6 l1_6.length c1_6, .slice A1_7 l1_7.length c1_7] 51 (0, 0)) from blk_put BY9.out 7 _ rfl)
 have HB10 := Aside0.mk (show Below w.heap.size w (w9.setCell ⟨gy, 7, none⟩ (.slice A1_7 l1_7.length c1_7)) from below_set HB9.out Ggy.out)
 have BX10 := Aside0.mk ((hf gx Nx_y).trans BX9.out)
 have BQ10 := Aside0.mk ((hf gq Nq_y).trans BQ9.out)
 have HS10 := Aside0.mk (R_farT HS9.out BY9.out ne_spans hf)
 have HI10 := Aside0.mk (S_farT HI9.out BY9.out ne_items hf)
 clear hf
 refine hK.out _ _ ?_
 clear hK K
 generalize w9.setCell ⟨gy, 7, none⟩ (.slice A1_7 l1_7.length c1_7) = w10 at HB10 BX10 BY10 BQ10 HS10 HI10 ⊢
 refine done_ (done_of HT_.out (by kernel_rfl)) ?_
 clear hHeld
 have hx10_ : w10.cell? ⟨gx, 0, none⟩ = some (.int .i64 r1) := (blk_cell BX10.out 0).trans rfl
 have hq_ : w10.cell? ⟨gq, 5, none⟩ = some (.int .i64 a1_5) := (blk_cell BQ10.out 5).trans rfl
 have hz_ : w10.cell? ⟨gy, 5, none⟩ = some (.int .i64 r6) := (blk_cell BY10.out 5).trans rfl
 have fz_ := blk_frozen BY10.out 5
 go_wp2_with (first | ((with_reducible refine gate_store (t := 3) (p := 39) (v := .tmp 38) rfl ?_); refine store_event rfl (t := 3) (p := 39) (v := .tmp 38) rfl rfl (w1 := w10.setCell ⟨gy, 5, none⟩ (.int .i64 a1_5)) ?hr ?_; (case hr => first | (go_simp; done) | (go_simp; rfl)); intro w11 hw; have hf : ∀ i, i ≠ gy → w11.heap[i]? = w10.heap[i]? := fun i hi => (by rw [hw]; exact far1 w10 gy 5 _ i hi); have BY11 := Aside0.mk (show w11.heap[gy]? = some (.cells #[.int .i64 r1, .int .i64 r2, .int .i64 r3, .int .i64 r4, .int .i64 r5, .int .i64 a1_5, .slice A1_6 l1_6.length c1_6, .slice A1_7 l1_7.length c1_7] 51 (0, 0)) by (rw [hw]; exact blk_put BY10.out 5 _ rfl)); have HB11 := Aside0.mk (show Below w.heap.size w w11 by (rw [hw]; exact below_set HB10.out Ggy.out)); have BX11 := Aside0.mk ((hf gx Nx_y).trans BX10.out); have BQ11 := Aside0.mk ((hf gq Nq_y).trans BQ10.out); have HS11 := Aside0.mk (R_farT HS10.out BY10.out ne_spans hf); have HI11 := Aside0.mk (S_farT HI10.out BY10.out ne_items hf); have hx11_ : w11.cell? ⟨gx, 0, none⟩ = some (.int .i64 r1) := (blk_cell BX11.out 0).trans rfl; have hzxc_0 : w11.cell? ⟨gx, 0, none⟩ = some (.int .i64 r1) := (blk_cell BX11.out 0).trans rfl; have hzxc_1 : w11.cell? ⟨gx, 1, none⟩ = some (.int .i64 r2) := (blk_cell BX11.out 1).trans rfl; have hzxc_2 : w11.cell? ⟨gx, 2, none⟩ = some (.int .i64 r3) := (blk_cell BX11.out 2).trans rfl; have hzxc_3 : w11.cell? ⟨gx, 3, none⟩ = some (.int .i64 r4) := (blk_cell BX11.out 3).trans rfl; have hzxc_4 : w11.cell? ⟨gx, 4, none⟩ = some (.int .i64 r5) := (blk_cell BX11.out 4).trans rfl; have hzxc_5 : w11.cell? ⟨gx, 5, none⟩ = some (.int .i64 r6) := (blk_cell BX11.out 5).trans rfl; have hzxc_6 : w11.cell? ⟨gx, 6, none⟩ = some (.slice A6 r7.length c6) := (blk_cell BX11.out 6).trans rfl; have hzxc_7 : w11.cell? ⟨gx, 7, none⟩ = some (.slice A7 r8.length c7) := (blk_cell BX11.out 7).trans rfl; clear hw hf) | ((with_reducible refine gate_dst (N := 53) rfl ?_); refine goesL_ (some 53) rfl rfl Try.func47 (by kernel_rfl) rfl #[.agg #[.int .i64 r1, .int .i64 r2, .int .i64 r3, .int .i64 r4, .int .i64 r5, .int .i64 r6, .slice A6 r7.length c6, .slice A7 r8.length c7]] rfl (by (try simp only [List.map_toArray, List.map_cons, List.map_nil]); first | done | rfl | (simp only [List.length_drop, List.length_take]; rfl)) ?_; (with_reducible refine (parcel_Put.calls k r1 r2 r3 r4 r5 r6 _ _ r7 _ _ r8 u1 u2 _ ?s1 ?s2 ?s3 ?s4 HPX.out).mono ?_); (case s1 => exact (Kd.R_reads' HS11.out).2.2); (case s2 => exact (Kd.R_reads' HS11.out).2.1); (case s3 => exact (Kd.S_reads' HI11.out).2.2); (case s4 => exact (Kd.S_reads' HI11.out).2.1); rintro e w12 ⟨vu, rfl, hq, hb⟩; refine ⟨_, rfl, ?_⟩; have HB12 := Aside0.mk (below_step HB11.out hb); have BX12 := Aside0.mk (blk_below BX11.out hb); have BY12 := Aside0.mk (blk_below BY11.out hb); have HS12 := Aside0.mk (Kd.R_below HS11.out hb); have HI12 := Aside0.mk (Kd.S_below HI11.out hb); have HU12 := Aside0.mk (Kd.R_lower hq (below_size HB11.out)); obtain ⟨Au, cu, eu⟩ := Kd.R_slice HU12.out; subst eu; have hzyc_0 : w12.cell? ⟨gy, 0, none⟩ = some (.int .i64 r1) := (blk_cell BY12.out 0).trans rfl; have hzyc_1 : w12.cell? ⟨gy, 1, none⟩ = some (.int .i64 r2) := (blk_cell BY12.out 1).trans rfl; have hzyc_2 : w12.cell? ⟨gy, 2, none⟩ = some (.int .i64 r3) := (blk_cell BY12.out 2).trans rfl; have hzyc_3 : w12.cell? ⟨gy, 3, none⟩ = some (.int .i64 r4) := (blk_cell BY12.out 3).trans rfl; have hzyc_4 : w12.cell? ⟨gy, 4, none⟩ = some (.int .i64 r5) := (blk_cell BY12.out 4).trans rfl; have hzyc_5 : w12.cell? ⟨gy, 5, none⟩ = some (.int .i64 a1_5) := (blk_cell BY12.out 5).trans rfl; have hzyc_6 : w12.cell? ⟨gy, 6, none⟩ = some (.slice A1_6 l1_6.length c1_6) := (blk_cell BY12.out 6).trans rfl; have hzyc_7 : w12.cell? ⟨gy, 7, none⟩ = some (.slice A1_7 l1_7.length c1_7) := (blk_cell BY12.out 7).trans rfl; clear hq hb) | ((with_reducible refine gate_dst (N := 58) rfl ?_); refine goesL_ (some 58) rfl rfl Try.func47 (by kernel_rfl) rfl #[.agg #[.int .i64 r1, .int .i64 r2, .int .i64 r3, .int .i64 r4, .int .i64 r5, .int .i64 a1_5, .slice A1_6 l1_6.length c1_6, .slice A1_7 l1_7.length c1_7]] rfl (by (try simp only [List.map_toArray, List.map_cons, List.map_nil]); first | done | rfl | (simp only [List.length_drop, List.length_take]; rfl)) ?_; (with_reducible refine (parcel_Put.calls k r1 r2 r3 r4 r5 a1_5 _ _ l1_6 _ _ l1_7 v1 u2 _ ?s1 ?s2 ?s3 ?s4 HPY.out).mono ?_); (case s1 => exact (Kd.C_below HR1_6.out HB12.out)); (case s2 => exact HC1_6.out); (case s3 => exact (Kd.C_below HR1_7.out HB12.out)); (case s4 => exact HC1_7.out); rintro e w13 ⟨vv, rfl, hq, hb⟩; refine ⟨_, rfl, ?_⟩; have HB13 := Aside0.mk (below_step HB12.out hb); have BX13 := Aside0.mk (blk_below BX12.out hb); have BY13 := Aside0.mk (blk_below BY12.out hb); have HS13 := Aside0.mk (Kd.R_below HS12.out hb); have HI13 := Aside0.mk (Kd.S_below HI12.out hb); have HU13 := Aside0.mk (Kd.R_below HU12.out hb); have HV13 := Aside0.mk (Kd.R_lower hq (below_size HB12.out)); obtain ⟨Av, cv, ev⟩ := Kd.R_slice HV13.out; subst ev; clear hq hb))
 refine start_ (n := 21) (S := fun w' => w'.heap[gx]? = some (.cells #[.int .i64 r1, .int .i64 r2, .int .i64 r3, .int .i64 r4, .int .i64 r5, .int .i64 r6, .slice A6 r7.length c6, .slice A7 r8.length c7] 51 (0, 0)) ∧ w'.heap[gy]? = some (.cells #[.int .i64 r1, .int .i64 r2, .int .i64 r3, .int .i64 r4, .int .i64 r5, .int .i64 a1_5, .slice A1_6 l1_6.length c1_6, .slice A1_7 l1_7.length c1_7] 51 (0, 0)) ∧ (Kd.int .u8).C w' Au u1.length u1 ∧ (Kd.int .u8).C w' Av v1.length v1) (ds := []) #[false, false, false, false, false, false, false, false, false, false, false, false, false, false, false, false, false, false, false, false, false] (by kernel_rfl) rfl rfl ⟨blk_drew BX13.out, blk_drew BY13.out, Kd.C_drew (Kd.R_reads' HU13.out).2.2, Kd.C_drew (Kd.R_reads' HV13.out).2.2⟩ (fun hHeld => ?_)
 refine with_tabW grapevinelaw13_ParcelUnused.tab12 grapevinelaw13_ParcelUnused.bits12 (fun HT_ HW_ => ?_)
 replace HB13 := Aside0.mk (below_drew1 HB13.out)
 replace BX13 := Aside0.mk (blk_drew BX13.out)
 replace BY13 := Aside0.mk (blk_drew BY13.out)
 replace HS13 := Aside0.mk (Kd.R_drew HS13.out)
 replace HU13 := Aside0.mk (Kd.R_drew HU13.out)
 replace HV13 := Aside0.mk (Kd.R_drew HV13.out)
 replace HI13 := Aside0.mk (Kd.S_drew HI13.out)
 generalize w13.drew = w14 at HB13 BX13 BY13 HS13 HI13 HU13 HV13 hHeld ⊢
 have HB14 := HB13
 have BX14 := BX13
 have BY14 := BY13
 have HS14 := HS13
 have HI14 := HI13
 have HU14 := HU13
 have HV14 := HV13
 refine one_ (i := 0) (N := some 61) #[true, false, false, false, false, false, false, false, false, false, false, false, false, false, false, false, false, false, false, false, false] rfl rfl (one_of HT_.out (by kernel_rfl)) (by decide) (fun K hK => ?_)
 refine goes_ Try.func44 (by kernel_rfl) rfl #[] (by rfl) rfl rfl (by (try simp only [List.map_toArray, List.map_cons, List.map_nil]); first | done | rfl | (simp only [List.length_drop, List.length_take]; rfl)) ?_
 with_reducible refine (grapevinelaw13_live.calls k true _ HL.out).mono ?_
 rintro e w15 ⟨rfl, hb⟩
 refine ⟨_, rfl, ?_⟩
 have HB15 := Aside0.mk (below_step HB14.out hb)
 have BX15 := Aside0.mk (blk_below BX14.out hb)
 have BY15 := Aside0.mk (blk_below BY14.out hb)
 have HS15 := Aside0.mk (Kd.R_below HS14.out hb)
 have HI15 := Aside0.mk (Kd.S_below HI14.out hb)
 have HU15 := Aside0.mk (Kd.R_below HU14.out hb)
 have HV15 := Aside0.mk (Kd.R_below HV14.out hb)
 clear hb
 refine hK.out _ _ ⟨BX15.out, BY15.out, (Kd.R_reads' HU15.out).2.2, (Kd.R_reads' HV15.out).2.2⟩ (fun hHeld => ?_)
 clear hK K
 refine norm_ (a' := ?_) ?_ ?_
 rotate_left
 ·
  show Act.put _ (some 61) _ = _
  simp only [Act.put, List.setIfInBounds_toArray, List.set_cons_zero, List.set_cons_succ, i64_w, i32_w]
  rfl
 refine pure_ (i := 1) (N := some 62) (v := ?_) (a' := ?_) #[true, true, false, false, false, false, false, false, false, false, false, false, false, false, false, false, false, false, false, false, false] rfl rfl (any_of HT_.out (by kernel_rfl)) (fun _ _ _ h => h) (Or.inl ⟨by rfl, ?_⟩) ?_ ?_
 rotate_left
 ·
  intro w'
  go_simp
  with_reducible rfl
 rotate_left
 ·
  simp only [Act.put, List.setIfInBounds_toArray, List.set_cons_zero, List.set_cons_succ, i64_w, i32_w]
  rfl
 refine pure_ (i := 2) (N := some 63) (v := ?_) (a' := ?_) #[true, true, true, false, false, false, false, false, false, false, false, false, false, false, false, false, false, false, false, false, false] rfl rfl (any_of HT_.out (by kernel_rfl)) (fun _ _ _ h => h) (Or.inl ⟨by rfl, ?_⟩) ?_ ?_
 rotate_left
 ·
  intro w'
  go_simp
  with_reducible rfl
 rotate_left
 ·
  simp only [Act.put, List.setIfInBounds_toArray, List.set_cons_zero, List.set_cons_succ, i64_w, i32_w]
  rfl
 refine take_ (i := 3) (N := some 64) (v := ?_) (a' := ?_) #[true, true, true, true, false, false, false, false, false, false, false, false, false, false, false, false, false, false, false, false, false] rfl rfl (take_ofW HT_.out HW_.out (by kernel_rfl)) (fun _ _ _ h => h) (Or.inl ⟨by rfl, ?_⟩) hHeld ?_ ?_
 rotate_left
 ·
  rintro w' ⟨s0, s1, s2, s3⟩
  go_simp
  rw [Kd.C_string Try.underlying44 Try.underlying5 Try.underlying9 s2]
  first | rfl | (constructor <;> rfl)
 rotate_left
 ·
  simp only [Act.put, List.setIfInBounds_toArray, List.set_cons_zero, List.set_cons_succ, i64_w, i32_w]
  rfl
 refine pure_ (i := 4) (N := some 65) (v := ?_) (a' := ?_) #[true, true, true, true, true, false, false, false, false, false, false, false, false, false, false, false, false, false, false, false, false] rfl rfl (any_of HT_.out (by kernel_rfl)) (fun _ _ _ h => h) (Or.inl ⟨by rfl, ?_⟩) ?_ ?_
 rotate_left
 ·
  intro w'
  go_simp
  with_reducible rfl
 rotate_left
 ·
  simp only [Act.put, List.setIfInBounds_toArray, List.set_cons_zero, List.set_cons_succ, i64_w, i32_w]
  rfl
 refine take_ (i := 5) (N := some 66) (v := ?_) (a' := ?_) #[true, true, true, true, true, true, false, false, false, false, false, false, false, false, false, false, false, false, false, false, false] rfl rfl (take_ofW HT_.out HW_.out (by kernel_rfl)) (fun _ _ _ h => h) (Or.inl ⟨by rfl, ?_⟩) hHeld ?_ ?_
 rotate_left
 ·
  rintro w' ⟨s0, s1, s2, s3⟩
  go_simp
  rw [Kd.C_string Try.underlying44 Try.underlying5 Try.underlying9 s3]
  first | rfl | (constructor <;> rfl)
 rotate_left
 ·
  simp only [Act.put, List.setIfInBounds_toArray, List.set_cons_zero, List.set_cons_succ, i64_w, i32_w]
  rfl
 refine pure_ (i := 6) (N := some 67) (v := ?_) (a' := ?_) #[true, true, true, true, true, true, true, false, false, false, false, false, false, false, false, false, false, false, false, false, false] rfl rfl (any_of HT_.out (by kernel_rfl)) (fun _ _ _ h => h) (Or.inl ⟨by rfl, ?_⟩) ?_ ?_
 rotate_left
 ·
  intro w'
  go_simp
  with_reducible rfl
 rotate_left
 ·
  simp only [Act.put, List.setIfInBounds_toArray, List.set_cons_zero, List.set_cons_succ, i64_w, i32_w]
  rfl
 refine pure_ (i := 7) (N := some 68) (v := ?_) (a' := ?_) #[true, true, true, true, true, true, true, true, false, false, false, false, false, false, false, false, false, false, false, false, false] rfl rfl (any_of HT_.out (by kernel_rfl)) (fun _ _ _ h => h) (Or.inl ⟨by rfl, ?_⟩) ?_ ?_
 rotate_left
 ·
  intro w'
  go_simp
  with_reducible rfl
 rotate_left
 ·
  simp only [Act.put, List.setIfInBounds_toArray, List.set_cons_zero, List.set_cons_succ, i64_w, i32_w]
  rfl
 refine pure_ (i := 8) (N := some 69) (v := ?_) (a' := ?_) #[true, true, true, true, true, true, true, true, true, false, false, false, false, false, false, false, false, false, false, false, false] rfl rfl (any_of HT_.out (by kernel_rfl)) (fun _ _ _ h => h) (Or.inl ⟨by rfl, ?_⟩) ?_ ?_
 rotate_left
 ·
  intro w'
  go_simp
  with_reducible rfl
 rotate_left
 ·
  simp only [Act.put, List.setIfInBounds_toArray, List.set_cons_zero, List.set_cons_succ, i64_w, i32_w]
  rfl
 refine pure_ (i := 9) (N := some 70) (v := ?_) (a' := ?_) #[true, true, true, true, true, true, true, true, true, true, false, false, false, false, false, false, false, false, false, false, false] rfl rfl (any_of HT_.out (by kernel_rfl)) (fun _ _ _ h => h) (Or.inl ⟨by rfl, ?_⟩) ?_ ?_
 rotate_left
 ·
  intro w'
  go_simp
  with_reducible rfl
 rotate_left
 ·
  simp only [Act.put, List.setIfInBounds_toArray, List.set_cons_zero, List.set_cons_succ, i64_w, i32_w]
  rfl
 refine pure_ (i := 10) (N := some 71) (v := ?_) (a' := ?_) #[true, true, true, true, true, true, true, true, true, true, true, false, false, false, false, false, false, false, false, false, false] rfl rfl (any_of HT_.out (by kernel_rfl)) (fun _ _ _ h => h) (Or.inl ⟨by rfl, ?_⟩) ?_ ?_
 rotate_left
 ·
  intro w'
  go_simp
  with_reducible rfl
 rotate_left
 ·
  simp only [Act.put, List.setIfInBounds_toArray, List.set_cons_zero, List.set_cons_succ, i64_w, i32_w]
  rfl
 refine pure_ (i := 11) (N := some 72) (v := ?_) (a' := ?_) #[true, true, true, true, true, true, true, true, true, true, true, true, false, false, false, false, false, false, false, false, false] rfl rfl (any_of HT_.out (by kernel_rfl)) (fun _ _ _ h => h) (Or.inl ⟨by rfl, ?_⟩) ?_ ?_
 rotate_left
 ·
  intro w'
  go_simp
  with_reducible rfl
 rotate_left
 ·
  simp only [Act.put, List.setIfInBounds_toArray, List.set_cons_zero, List.set_cons_succ, i64_w, i32_w]
  rfl
 refine pure_ (i := 12) (N := some 73) (v := ?_) (a' := ?_) #[true, true, true, true, true, true, true, true, true, true, true, true, true, false, false, false, false, false, false, false, false] rfl rfl (any_of HT_.out (by kernel_rfl)) (fun _ _ _ h => h) (Or.inl ⟨by rfl, ?_⟩) ?_ ?_
 rotate_left
 ·
  intro w'
  go_simp
  with_reducible rfl
 rotate_left
 ·
  simp only [Act.put, List.setIfInBounds_toArray, List.set_cons_zero, List.set_cons_succ, i64_w, i32_w]
  rfl
 refine pure_ (i := 13) (N := some 74) (v := ?_) (a' := ?_) #[true, true, true, true, true, true, true, true, true, true, true, true, true, true, false, false, false, false, false, false, false] rfl rfl (any_of HT_.out (by kernel_rfl)) (fun _ _ _ h => h) (Or.inl ⟨by rfl, ?_⟩) ?_ ?_
 rotate_left
 ·
  intro w'
  go_simp
  with_reducible rfl
 rotate_left
 ·
  simp only [Act.put, List.setIfInBounds_toArray, List.set_cons_zero, List.set_cons_succ, i64_w, i32_w]
  rfl
 refine take_ (i := 14) (N := some 75) (v := ?_) (a' := ?_) #[true, true, true, true, true, true, true, true, true, true, true, true, true, true, true, false, false, false, false, false, false] rfl rfl (take_ofW HT_.out HW_.out (by kernel_rfl)) (fun _ _ _ h => h) (Or.inl ⟨by rfl, ?_⟩) hHeld ?_ ?_
 rotate_left
 ·
  rintro w' ⟨s0, s1, s2, s3⟩
  have q0_ := (blk_cell s0 0).trans rfl
  have q1_ := (blk_cell s0 1).trans rfl
  have q2_ := (blk_cell s0 2).trans rfl
  have q3_ := (blk_cell s0 3).trans rfl
  have q4_ := (blk_cell s0 4).trans rfl
  have q5_ := (blk_cell s0 5).trans rfl
  have q6_ := (blk_cell s0 6).trans rfl
  have q7_ := (blk_cell s0 7).trans rfl
  go_simp
  with_reducible rfl
 rotate_left
 ·
  simp only [Act.put, List.setIfInBounds_toArray, List.set_cons_zero, List.set_cons_succ, i64_w, i32_w]
  rfl
 refine take_ (i := 16) (N := some 77) (v := ?_) (a' := ?_) #[true, true, true, true, true, true, true, true, true, true, true, true, true, true, true, false, true, false, false, false, false] rfl rfl (take_ofW HT_.out HW_.out (by kernel_rfl)) (fun _ _ _ h => h) (Or.inl ⟨by rfl, ?_⟩) hHeld ?_ ?_
 rotate_left
 ·
  rintro w' ⟨s0, s1, s2, s3⟩
  have q0_ := (blk_cell s1 0).trans rfl
  have q1_ := (blk_cell s1 1).trans rfl
  have q2_ := (blk_cell s1 2).trans rfl
  have q3_ := (blk_cell s1 3).trans rfl
  have q4_ := (blk_cell s1 4).trans rfl
  have q5_ := (blk_cell s1 5).trans rfl
  have q6_ := (blk_cell s1 6).trans rfl
  have q7_ := (blk_cell s1 7).trans rfl
  go_simp
  with_reducible rfl
 rotate_left
 ·
  simp only [Act.put, List.setIfInBounds_toArray, List.set_cons_zero, List.set_cons_succ, i64_w, i32_w]
  rfl
 refine one_ (i := 15) (N := some 76) #[true, true, true, true, true, true, true, true, true, true, true, true, true, true, true, true, true, false, false, false, false] rfl rfl (one_of HT_.out (by kernel_rfl)) (by decide) (fun K hK => ?_)
 refine goes_ Try.func45 (by kernel_rfl) rfl #[.agg #[.int .i64 r1, .int .i64 r2, .int .i64 r3, .int .i64 r4, .int .i64 r5, .int .i64 r6, .slice A6 r7.length c6, .slice A7 r8.length c7]] (by rfl) rfl rfl (by (try simp only [List.map_toArray, List.map_cons, List.map_nil]); first | done | rfl | (simp only [List.length_drop, List.length_take]; rfl)) ?_
 with_reducible refine (parcel_Check.calls k r1 r2 r3 r4 r5 r6 _ _ r7 _ _ r8 c _ ?s1 ?s2 ?s3 ?s4 HCX.out).mono ?_
 case s1 => exact (Kd.R_reads' HS15.out).2.2
 case s2 => exact (Kd.R_reads' HS15.out).2.1
 case s3 => exact (Kd.S_reads' HI15.out).2.2
 case s4 => exact (Kd.S_reads' HI15.out).2.1
 rintro e w16 ⟨rfl, hb⟩
 refine ⟨_, rfl, ?_⟩
 have HB16 := Aside0.mk (below_step HB15.out hb)
 have BX16 := Aside0.mk (blk_below BX15.out hb)
 have BY16 := Aside0.mk (blk_below BY15.out hb)
 have HS16 := Aside0.mk (Kd.R_below HS15.out hb)
 have HI16 := Aside0.mk (Kd.S_below HI15.out hb)
 have HU16 := Aside0.mk (Kd.R_below HU15.out hb)
 have HV16 := Aside0.mk (Kd.R_below HV15.out hb)
 clear hb
 refine hK.out _ _ ⟨BX16.out, BY16.out, (Kd.R_reads' HU16.out).2.2, (Kd.R_reads' HV16.out).2.2⟩ (fun hHeld => ?_)
 clear hK K
 refine norm_ (a' := ?_) ?_ ?_
 rotate_left
 ·
  show Act.put _ (some 76) _ = _
  simp only [Act.put, List.setIfInBounds_toArray, List.set_cons_zero, List.set_cons_succ, i64_w, i32_w]
  rfl
 refine one_ (i := 17) (N := some 78) #[true, true, true, true, true, true, true, true, true, true, true, true, true, true, true, true, true, true, false, false, false] rfl rfl (one_of HT_.out (by kernel_rfl)) (by decide) (fun K hK => ?_)
 refine goes_ Try.func45 (by kernel_rfl) rfl #[.agg #[.int .i64 r1, .int .i64 r2, .int .i64 r3, .int .i64 r4, .int .i64 r5, .int .i64 a1_5, .slice A1_6 l1_6.length c1_6, .slice A1_7 l1_7.length c1_7]] (by rfl) rfl rfl (by (try simp only [List.map_toArray, List.map_cons, List.map_nil]); first | done | rfl | (simp only [List.length_drop, List.length_take]; rfl)) ?_
 with_reducible refine (parcel_Check.calls k r1 r2 r3 r4 r5 a1_5 _ _ l1_6 _ _ l1_7 c _ ?s1 ?s2 ?s3 ?s4 HCY.out).mono ?_
 case s1 => exact (Kd.C_below HR1_6.out HB16.out)
 case s2 => exact HC1_6.out
 case s3 => exact (Kd.C_below HR1_7.out HB16.out)
 case s4 => exact HC1_7.out
 rintro e w17 ⟨rfl, hb⟩
 refine ⟨_, rfl, ?_⟩
 have HB17 := Aside0.mk (below_step HB16.out hb)
 have BX17 := Aside0.mk (blk_below BX16.out hb)
 have BY17 := Aside0.mk (blk_below BY16.out hb)
 have HS17 := Aside0.mk (Kd.R_below HS16.out hb)
 have HI17 := Aside0.mk (Kd.S_below HI16.out hb)
 have HU17 := Aside0.mk (Kd.R_below HU16.out hb)
 have HV17 := Aside0.mk (Kd.R_below HV16.out hb)
 clear hb
 refine hK.out _ _ ⟨BX17.out, BY17.out, (Kd.R_reads' HU17.out).2.2, (Kd.R_reads' HV17.out).2.2⟩ (fun hHeld => ?_)
 clear hK K
 refine norm_ (a' := ?_) ?_ ?_
 rotate_left
 ·
  show Act.put _ (some 78) _ = _
  simp only [Act.put, List.setIfInBounds_toArray, List.set_cons_zero, List.set_cons_succ, i64_w, i32_w]
  rfl
 refine pure_ (i := 18) (N := some 79) (v := ?_) (a' := ?_) #[true, true, true, true, true, true, true, true, true, true, true, true, true, true, true, true, true, true, true, false, false] rfl rfl (any_of HT_.out (by kernel_rfl)) (fun _ _ _ h => h) (Or.inl ⟨by rfl, ?_⟩) ?_ ?_
 rotate_left
 ·
  intro w'
  go_simp
  with_reducible rfl
 rotate_left
 ·
  simp only [Act.put, List.setIfInBounds_toArray, List.set_cons_zero, List.set_cons_succ, i64_w, i32_w]
  rfl
 refine pure_ (i := 19) (N := some 80) (v := ?_) (a' := ?_) #[true, true, true, true, true, true, true, true, true, true, true, true, true, true, true, true, true, true, true, true, false] rfl rfl (any_of HT_.out (by kernel_rfl)) (fun _ _ _ h => h) (Or.inl ⟨by rfl, ?_⟩) ?_ ?_
 rotate_left
 ·
  intro w'
  go_simp
  with_reducible rfl
 rotate_left
 ·
  simp only [Act.put, List.setIfInBounds_toArray, List.set_cons_zero, List.set_cons_succ, i64_w, i32_w]
  rfl
 refine pure_ (i := 20) (N := some 4) (v := ?_) (a' := ?_) #[true, true, true, true, true, true, true, true, true, true, true, true, true, true, true, true, true, true, true, true, true] rfl rfl (any_of HT_.out (by kernel_rfl)) (fun _ _ _ h => h) (Or.inl ⟨by rfl, ?_⟩) ?_ ?_
 rotate_left
 ·
  intro w'
  go_simp
  with_reducible rfl
 rotate_left
 ·
  simp only [Act.put, List.setIfInBounds_toArray, List.set_cons_zero, List.set_cons_succ, i64_w, i32_w]
  rfl
 refine done_ (done_of HT_.out (by kernel_rfl)) ?_
 go_wp2
 go_ret
 exact ⟨rfl, HB17.out⟩


end Go.Proofs.Ytpeacoppclmmlaa.PP
