-- PRINTED by gprint.py (a session's own driver over the kit's print): not trusted; Lean checks it.
import Derived.Test.YtffefaiaifhokaaSOPTx0
namespace Go.Proofs.Ytffefaiaifhokaa.PT
open Go.RowKit Go.Proofs.YtffefaiaifhokaaW.PrintWords Go.Proofs.YtffefaiaifhokaaW.PrintLast Go.Proofs.YtffefaiaifhokaaW.PrintMore
attribute [local go_sem] max2_int min2_int max_two min_two max_three min_three max_four min_four   -- for this text's walks alone
set_option linter.unusedVariables false
set_option linter.unusedSimpArgs false

/-! ### span_Right: function 51 -/
def span_Right.l0 : Nat → List (S38) → Int → Int → Int → Int → Int → Option (Bool)
 | 0, _, _, _, _, _, _ => none
 | k + 1, x7, x8, x9, x180000, x180001, x180002 => if x9 < x8 then (if 0 ≤ x9 then (if x9 < (x7.length : Int) then (if ((rd_T38 x7 x9).f2) < 1 then (some false) else (if ((rd_T38 x7 x9).f2) > 3 then (some false) else (if ((rd_T38 x7 x9).f0) < 1 then (some false) else (if ((rd_T38 x7 x9).f0) > ((rd_T38 x7 x9).f1) then (some false) else (if ((rd_T38 x7 x9).f1) > 1099511627776 then (some false) else (if ((rd_T38 x7 x9).f0) ≤ x180001 then (some false) else (if ((rd_T38 x7 x9).f0) = (wrap64 (x180001 + 1)) then (if ((rd_T38 x7 x9).f2) = x180002 then (some false) else (span_Right.l0 k x7 x8 (wrap64 (x9 + 1)) ((rd_T38 x7 x9).f0) ((rd_T38 x7 x9).f1) ((rd_T38 x7 x9).f2))) else (span_Right.l0 k x7 x8 (wrap64 (x9 + 1)) ((rd_T38 x7 x9).f0) ((rd_T38 x7 x9).f1) ((rd_T38 x7 x9).f2))))))))) else (none)) else (none)) else (some true)
def span_Right.f (k : Nat) (l0 : List (S38)) : Option (Bool) := span_Right.l0 k l0 (l0.length : Int) 0 0 0 0
theorem span_Right.mono_l : ∀ k, (∀ y0 y1 y2 y3 y4 y5, LeO (span_Right.l0 k y0 y1 y2 y3 y4 y5) (span_Right.l0 (k + 1) y0 y1 y2 y3 y4 y5))
 | 0 => fun _ _ _ _ _ _ r h => by simp [span_Right.l0] at h
 | k + 1 => by
  have ih0 := span_Right.mono_l k
  intro y0 y1 y2 y3 y4 y5
  unfold span_Right.l0
  repeat' first
  | (with_reducible exact ih0 _ _ _ _ _ _)
  | (with_reducible exact LeO.refl _)
  | (with_reducible exact LeO.none _)
  | (with_reducible refine LeO.ite ?_ ?_)
  | (with_reducible refine LeO.bind ?_ (fun _ => ?_))
  | exact ih0 _ _ _ _ _ _
  | exact LeO.none _
  | refine LeO.ite ?_ ?_
  | refine LeO.bind ?_ (fun _ => ?_)
theorem span_Right.mono : ∀ a0 k, LeO (span_Right.f k a0) (span_Right.f (k + 1) a0) := by
 intro a0 k
 have ih0 := span_Right.mono_l k
 unfold span_Right.f
 repeat' first
  | (with_reducible exact ih0 _ _ _ _ _ _)
  | (with_reducible exact LeO.refl _)
  | (with_reducible exact LeO.none _)
  | (with_reducible refine LeO.ite ?_ ?_)
  | (with_reducible refine LeO.bind ?_ (fun _ => ?_))
  | exact ih0 _ _ _ _ _ _
  | exact LeO.none _
  | refine LeO.ite ?_ ?_
  | refine LeO.bind ?_ (fun _ => ?_)
set_option maxHeartbeats 8000000 in
set_option maxRecDepth 100000 in
theorem span_Right.calls (k : Nat) (A0 : Option Addr) (c0 : Nat) (l0 : List (S38)) (r : Bool) (w : World) (hr0 : Kd.C k38 w A0 l0.length l0) (hc0 : l0.length ≤ c0) (h : span_Right.f k l0 = some r) :
 Calls Try.prog 51 #[.slice A0 l0.length c0] w fun e w' => e = .returned (.bool r) ∧ Below w.heap.size w w' := by
 have hu38 := Try.underlying38
 have HR0 := Aside0.mk hr0
 have HC0 := Aside0.mk hc0
 clear hr0 hc0
 have HB := Aside0.mk (Below.refl w.heap.size w)
 have H : (span_Right.l0 k l0 (l0.length : Int) 0 0 0 0) = some r := h
 clear h
 have H' := Aside0.mk H
 clear H
 go_enter Try.func51, Try.ntmps51
 go_wp2_with (((with_reducible refine gate_dst (N := 3) rfl ?_); refine box_event ?hg (N := 3) ?hd (cs := #[.int .i64 0, .int .i64 0, .int .i64 0]) (t := 38) ?hr ?_; (case hd => rfl); (case hg => rfl); (case hr => (go_simp; done)); intro gb179 hg w2 hbox hb; have n0_ := Aside0.mk (below_step (by repeat (with_reducible exact HB.out)) hb); have n1_ := Aside0.mk (hbox); have n2_ := Aside0.mk ((by rw [hg]; exact (below_size (by repeat (with_reducible exact HB.out))) : w.heap.size ≤ gb179)); have n3_ := Aside0.mk ((by rw [hg]; exact (below_size (by repeat (with_reducible exact HB.out))) : w.heap.size ≤ gb179)); clear HB; have HB := n0_; have BK179 := n1_; have GW179 := n2_; have GE179 := n3_; clear n0_ n1_ n2_ n3_; clear hb hbox hg; obtain ⟨hcz3_0, hcz3_1, hcz3_2, hfz3_0, hfz3_1, hfz3_2⟩ := cz3 BK179.out))
 go_loopg [9] k (fun kq v9 w' => ∃ (x9_1 : Int) (x180000_1 : Int) (x180001_1 : Int) (x180002_1 : Int), v9 = .int .i64 x9_1 ∧ Aside0 (span_Right.l0 kq l0 (l0.length : Int) x9_1 x180000_1 x180001_1 x180002_1 = some r) ∧ Aside0 (kq ≤ k) ∧ Aside0 (w'.heap[gb179]? = some (.cells #[.int .i64 x180000_1, .int .i64 x180001_1, .int .i64 x180002_1] 38 (0, 0))) ∧ Aside0 (Below w.heap.size w w'))
 case atStart => exact ⟨(0), (0), (0), (0), (by rfl), H', ⟨Nat.le_refl _⟩, ⟨by refine blk_put (cs := #[.int .i64 0, .int .i64 0, .int .i64 0]) ?_ 2 _ rfl; refine blk_put (cs := #[.int .i64 0, .int .i64 0, .int .i64 0]) ?_ 1 _ rfl; refine blk_put (cs := #[.int .i64 0, .int .i64 0, .int .i64 0]) ?_ 0 _ rfl; exact BK179.out⟩, ⟨by repeat (with_reducible first | exact HB.out | refine below_set ?_ GE179.out)⟩⟩
 case round =>
  clear H'
  try clear hcz3_0
  try clear hcz3_1
  try clear hcz3_2
  try clear hfz3_0
  try clear hfz3_1
  try clear hfz3_2
  obtain ⟨x9_1, x180000_1, x180001_1, x180002_1, rfl, HA, HK1, BK179, HB⟩ := hrel
  cases gk with
  | zero => exact absurd HA.out (by simp [span_Right.l0])
  | succ k1 =>
   have H := HA.out
   clear HA
   simp only [span_Right.l0] at H
   by_cases c4 : x9_1 < (l0.length : Int)
   ·
    rw [if_pos c4] at H
    have c4b0 : decide (x9_1 < (l0.length : Int)) = true := decide_eq_true c4
    clear c4
    by_cases c5 : 0 ≤ x9_1
    ·
     rw [if_pos c5] at H
     have c5b0 : decide (0 ≤ x9_1) = true := decide_eq_true c5
     clear c5
     by_cases c6 : x9_1 < (l0.length : Int)
     ·
      rw [if_pos c6] at H
      have c6b0 : decide (x9_1 < (l0.length : Int)) = true := decide_eq_true c6
      clear c6
      by_cases c7 : ((rd_T38 l0 x9_1).f2) < 1
      ·
       rw [if_pos c7] at H
       have c7b0 : decide (((rd_T38 l0 x9_1).f2) < 1) = true := decide_eq_true c7
       clear c7
       obtain rfl := Option.some.inj H
       have p180 : 0 ≤ (x9_1 : Int) := of_decide_eq_true (by (with_reducible assumption))
       have q180 : x9_1 < (l0.length : Int) := of_decide_eq_true (by (with_reducible assumption))
       obtain ⟨ad180, e180, hx180_0, hx180_1, hx180_2⟩ := at_T38 HR0.out x9_1 p180 q180
       cases e180
       replace hx180_0 := (HB.out.cell (World.block_lt_of_cell? w _ hx180_0)).trans hx180_0
       replace hx180_1 := (HB.out.cell (World.block_lt_of_cell? w _ hx180_1)).trans hx180_1
       replace hx180_2 := (HB.out.cell (World.block_lt_of_cell? w _ hx180_2)).trans hx180_2
       replace p180 := eq_true p180
       replace q180 := eq_true q180
       go_wp2_with (((with_reducible refine gate_dst (N := 5) rfl ?_); refine box_event ?hg (N := 5) ?hd (cs := #[.int .i64 0, .int .i64 0, .int .i64 0]) (t := 38) ?hr ?_; (case hd => rfl); (case hg => rfl); (case hr => (go_simp; done)); intro gb181 hg w8 hbox hb; have n0_ := Aside0.mk (blk_below (g := gb179) (o := .cells #[.int .i64 x180000_1, .int .i64 x180001_1, .int .i64 x180002_1] 38 (0, 0)) (by exact BK179.out) hb); have n1_ := Aside0.mk (below_step (by repeat (with_reducible exact HB.out)) hb); have n2_ := Aside0.mk (hbox); have n3_ := Aside0.mk ((by rw [hg]; exact (below_size (by repeat (with_reducible exact HB.out))) : w.heap.size ≤ gb181)); have n4_ := Aside0.mk ((by rw [hg]; exact (below_size (by repeat (with_reducible exact HB.out))) : w.heap.size ≤ gb181)); have n5_ := Aside0.mk ((by rw [hg]; exact Nat.ne_of_lt (blk_lt (g := gb179) (o := .cells #[.int .i64 x180000_1, .int .i64 x180001_1, .int .i64 x180002_1] 38 (0, 0)) (by exact BK179.out)) : gb179 ≠ gb181)); have n6_ := Aside0.mk ((by rw [hg]; exact Nat.ne_of_gt (blk_lt (g := gb179) (o := .cells #[.int .i64 x180000_1, .int .i64 x180001_1, .int .i64 x180002_1] 38 (0, 0)) (by exact BK179.out)) : gb181 ≠ gb179)); clear BK179; clear HB; have BK179 := n0_; have HB := n1_; have BK181 := n2_; have GW181 := n3_; have GE181 := n4_; have NB179_181 := n5_; have NB181_179 := n6_; clear n0_ n1_ n2_ n3_ n4_ n5_ n6_; clear hb hbox hg; have hnb9 := NB181_179.out; have hnc9 := NB179_181.out; obtain ⟨hcz10_0, hcz10_1, hcz10_2, hfz10_0, hfz10_1, hfz10_2⟩ := cz3 BK181.out))
       go_ret
       exact ⟨by rfl, by repeat (with_reducible first | exact HB.out | refine below_set ?_ GE181.out)⟩
      rw [if_neg c7] at H
      have c7b0 : decide (((rd_T38 l0 x9_1).f2) < 1) = false := decide_eq_false c7
      clear c7
      by_cases c11 : ((rd_T38 l0 x9_1).f2) > 3
      ·
       rw [if_pos c11] at H
       have c11b0 : decide (3 < ((rd_T38 l0 x9_1).f2)) = true := decide_eq_true c11
       clear c11
       obtain rfl := Option.some.inj H
       have p180 : 0 ≤ (x9_1 : Int) := of_decide_eq_true (by (with_reducible assumption))
       have q180 : x9_1 < (l0.length : Int) := of_decide_eq_true (by (with_reducible assumption))
       obtain ⟨ad180, e180, hx180_0, hx180_1, hx180_2⟩ := at_T38 HR0.out x9_1 p180 q180
       cases e180
       replace hx180_0 := (HB.out.cell (World.block_lt_of_cell? w _ hx180_0)).trans hx180_0
       replace hx180_1 := (HB.out.cell (World.block_lt_of_cell? w _ hx180_1)).trans hx180_1
       replace hx180_2 := (HB.out.cell (World.block_lt_of_cell? w _ hx180_2)).trans hx180_2
       replace p180 := eq_true p180
       replace q180 := eq_true q180
       go_wp2_with (((with_reducible refine gate_dst (N := 5) rfl ?_); refine box_event ?hg (N := 5) ?hd (cs := #[.int .i64 0, .int .i64 0, .int .i64 0]) (t := 38) ?hr ?_; (case hd => rfl); (case hg => rfl); (case hr => (go_simp; done)); intro gb181 hg w12 hbox hb; have n0_ := Aside0.mk (blk_below (g := gb179) (o := .cells #[.int .i64 x180000_1, .int .i64 x180001_1, .int .i64 x180002_1] 38 (0, 0)) (by exact BK179.out) hb); have n1_ := Aside0.mk (below_step (by repeat (with_reducible exact HB.out)) hb); have n2_ := Aside0.mk (hbox); have n3_ := Aside0.mk ((by rw [hg]; exact (below_size (by repeat (with_reducible exact HB.out))) : w.heap.size ≤ gb181)); have n4_ := Aside0.mk ((by rw [hg]; exact (below_size (by repeat (with_reducible exact HB.out))) : w.heap.size ≤ gb181)); have n5_ := Aside0.mk ((by rw [hg]; exact Nat.ne_of_lt (blk_lt (g := gb179) (o := .cells #[.int .i64 x180000_1, .int .i64 x180001_1, .int .i64 x180002_1] 38 (0, 0)) (by exact BK179.out)) : gb179 ≠ gb181)); have n6_ := Aside0.mk ((by rw [hg]; exact Nat.ne_of_gt (blk_lt (g := gb179) (o := .cells #[.int .i64 x180000_1, .int .i64 x180001_1, .int .i64 x180002_1] 38 (0, 0)) (by exact BK179.out)) : gb181 ≠ gb179)); clear BK179; clear HB; have BK179 := n0_; have HB := n1_; have BK181 := n2_; have GW181 := n3_; have GE181 := n4_; have NB179_181 := n5_; have NB181_179 := n6_; clear n0_ n1_ n2_ n3_ n4_ n5_ n6_; clear hb hbox hg; have hnb13 := NB181_179.out; have hnc13 := NB179_181.out; obtain ⟨hcz14_0, hcz14_1, hcz14_2, hfz14_0, hfz14_1, hfz14_2⟩ := cz3 BK181.out))
       go_ret
       exact ⟨by rfl, by repeat (with_reducible first | exact HB.out | refine below_set ?_ GE181.out)⟩
      rw [if_neg c11] at H
      have c11b0 : decide (3 < ((rd_T38 l0 x9_1).f2)) = false := decide_eq_false c11
      clear c11
      by_cases c15 : ((rd_T38 l0 x9_1).f0) < 1
      ·
       rw [if_pos c15] at H
       have c15b0 : decide (((rd_T38 l0 x9_1).f0) < 1) = true := decide_eq_true c15
       clear c15
       obtain rfl := Option.some.inj H
       have p180 : 0 ≤ (x9_1 : Int) := of_decide_eq_true (by (with_reducible assumption))
       have q180 : x9_1 < (l0.length : Int) := of_decide_eq_true (by (with_reducible assumption))
       obtain ⟨ad180, e180, hx180_0, hx180_1, hx180_2⟩ := at_T38 HR0.out x9_1 p180 q180
       cases e180
       replace hx180_0 := (HB.out.cell (World.block_lt_of_cell? w _ hx180_0)).trans hx180_0
       replace hx180_1 := (HB.out.cell (World.block_lt_of_cell? w _ hx180_1)).trans hx180_1
       replace hx180_2 := (HB.out.cell (World.block_lt_of_cell? w _ hx180_2)).trans hx180_2
       replace p180 := eq_true p180
       replace q180 := eq_true q180
       go_wp2_with (((with_reducible refine gate_dst (N := 5) rfl ?_); refine box_event ?hg (N := 5) ?hd (cs := #[.int .i64 0, .int .i64 0, .int .i64 0]) (t := 38) ?hr ?_; (case hd => rfl); (case hg => rfl); (case hr => (go_simp; done)); intro gb181 hg w16 hbox hb; have n0_ := Aside0.mk (blk_below (g := gb179) (o := .cells #[.int .i64 x180000_1, .int .i64 x180001_1, .int .i64 x180002_1] 38 (0, 0)) (by exact BK179.out) hb); have n1_ := Aside0.mk (below_step (by repeat (with_reducible exact HB.out)) hb); have n2_ := Aside0.mk (hbox); have n3_ := Aside0.mk ((by rw [hg]; exact (below_size (by repeat (with_reducible exact HB.out))) : w.heap.size ≤ gb181)); have n4_ := Aside0.mk ((by rw [hg]; exact (below_size (by repeat (with_reducible exact HB.out))) : w.heap.size ≤ gb181)); have n5_ := Aside0.mk ((by rw [hg]; exact Nat.ne_of_lt (blk_lt (g := gb179) (o := .cells #[.int .i64 x180000_1, .int .i64 x180001_1, .int .i64 x180002_1] 38 (0, 0)) (by exact BK179.out)) : gb179 ≠ gb181)); have n6_ := Aside0.mk ((by rw [hg]; exact Nat.ne_of_gt (blk_lt (g := gb179) (o := .cells #[.int .i64 x180000_1, .int .i64 x180001_1, .int .i64 x180002_1] 38 (0, 0)) (by exact BK179.out)) : gb181 ≠ gb179)); clear BK179; clear HB; have BK179 := n0_; have HB := n1_; have BK181 := n2_; have GW181 := n3_; have GE181 := n4_; have NB179_181 := n5_; have NB181_179 := n6_; clear n0_ n1_ n2_ n3_ n4_ n5_ n6_; clear hb hbox hg; have hnb17 := NB181_179.out; have hnc17 := NB179_181.out; obtain ⟨hcz18_0, hcz18_1, hcz18_2, hfz18_0, hfz18_1, hfz18_2⟩ := cz3 BK181.out))
       go_ret
       exact ⟨by rfl, by repeat (with_reducible first | exact HB.out | refine below_set ?_ GE181.out)⟩
      rw [if_neg c15] at H
      have c15b0 : decide (((rd_T38 l0 x9_1).f0) < 1) = false := decide_eq_false c15
      clear c15
      by_cases c19 : ((rd_T38 l0 x9_1).f0) > ((rd_T38 l0 x9_1).f1)
      ·
       rw [if_pos c19] at H
       have c19b0 : decide (((rd_T38 l0 x9_1).f1) < ((rd_T38 l0 x9_1).f0)) = true := decide_eq_true c19
       clear c19
       obtain rfl := Option.some.inj H
       have p180 : 0 ≤ (x9_1 : Int) := of_decide_eq_true (by (with_reducible assumption))
       have q180 : x9_1 < (l0.length : Int) := of_decide_eq_true (by (with_reducible assumption))
       obtain ⟨ad180, e180, hx180_0, hx180_1, hx180_2⟩ := at_T38 HR0.out x9_1 p180 q180
       cases e180
       replace hx180_0 := (HB.out.cell (World.block_lt_of_cell? w _ hx180_0)).trans hx180_0
       replace hx180_1 := (HB.out.cell (World.block_lt_of_cell? w _ hx180_1)).trans hx180_1
       replace hx180_2 := (HB.out.cell (World.block_lt_of_cell? w _ hx180_2)).trans hx180_2
       replace p180 := eq_true p180
       replace q180 := eq_true q180
       go_wp2_with (((with_reducible refine gate_dst (N := 5) rfl ?_); refine box_event ?hg (N := 5) ?hd (cs := #[.int .i64 0, .int .i64 0, .int .i64 0]) (t := 38) ?hr ?_; (case hd => rfl); (case hg => rfl); (case hr => (go_simp; done)); intro gb181 hg w20 hbox hb; have n0_ := Aside0.mk (blk_below (g := gb179) (o := .cells #[.int .i64 x180000_1, .int .i64 x180001_1, .int .i64 x180002_1] 38 (0, 0)) (by exact BK179.out) hb); have n1_ := Aside0.mk (below_step (by repeat (with_reducible exact HB.out)) hb); have n2_ := Aside0.mk (hbox); have n3_ := Aside0.mk ((by rw [hg]; exact (below_size (by repeat (with_reducible exact HB.out))) : w.heap.size ≤ gb181)); have n4_ := Aside0.mk ((by rw [hg]; exact (below_size (by repeat (with_reducible exact HB.out))) : w.heap.size ≤ gb181)); have n5_ := Aside0.mk ((by rw [hg]; exact Nat.ne_of_lt (blk_lt (g := gb179) (o := .cells #[.int .i64 x180000_1, .int .i64 x180001_1, .int .i64 x180002_1] 38 (0, 0)) (by exact BK179.out)) : gb179 ≠ gb181)); have n6_ := Aside0.mk ((by rw [hg]; exact Nat.ne_of_gt (blk_lt (g := gb179) (o := .cells #[.int .i64 x180000_1, .int .i64 x180001_1, .int .i64 x180002_1] 38 (0, 0)) (by exact BK179.out)) : gb181 ≠ gb179)); clear BK179; clear HB; have BK179 := n0_; have HB := n1_; have BK181 := n2_; have GW181 := n3_; have GE181 := n4_; have NB179_181 := n5_; have NB181_179 := n6_; clear n0_ n1_ n2_ n3_ n4_ n5_ n6_; clear hb hbox hg; have hnb21 := NB181_179.out; have hnc21 := NB179_181.out; obtain ⟨hcz22_0, hcz22_1, hcz22_2, hfz22_0, hfz22_1, hfz22_2⟩ := cz3 BK181.out))
       go_ret
       exact ⟨by rfl, by repeat (with_reducible first | exact HB.out | refine below_set ?_ GE181.out)⟩
      rw [if_neg c19] at H
      have c19b0 : decide (((rd_T38 l0 x9_1).f1) < ((rd_T38 l0 x9_1).f0)) = false := decide_eq_false c19
      clear c19
      by_cases c23 : ((rd_T38 l0 x9_1).f1) > 1099511627776
      ·
       rw [if_pos c23] at H
       have c23b0 : decide (1099511627776 < ((rd_T38 l0 x9_1).f1)) = true := decide_eq_true c23
       clear c23
       obtain rfl := Option.some.inj H
       have p180 : 0 ≤ (x9_1 : Int) := of_decide_eq_true (by (with_reducible assumption))
       have q180 : x9_1 < (l0.length : Int) := of_decide_eq_true (by (with_reducible assumption))
       obtain ⟨ad180, e180, hx180_0, hx180_1, hx180_2⟩ := at_T38 HR0.out x9_1 p180 q180
       cases e180
       replace hx180_0 := (HB.out.cell (World.block_lt_of_cell? w _ hx180_0)).trans hx180_0
       replace hx180_1 := (HB.out.cell (World.block_lt_of_cell? w _ hx180_1)).trans hx180_1
       replace hx180_2 := (HB.out.cell (World.block_lt_of_cell? w _ hx180_2)).trans hx180_2
       replace p180 := eq_true p180
       replace q180 := eq_true q180
       go_wp2_with (((with_reducible refine gate_dst (N := 5) rfl ?_); refine box_event ?hg (N := 5) ?hd (cs := #[.int .i64 0, .int .i64 0, .int .i64 0]) (t := 38) ?hr ?_; (case hd => rfl); (case hg => rfl); (case hr => (go_simp; done)); intro gb181 hg w24 hbox hb; have n0_ := Aside0.mk (blk_below (g := gb179) (o := .cells #[.int .i64 x180000_1, .int .i64 x180001_1, .int .i64 x180002_1] 38 (0, 0)) (by exact BK179.out) hb); have n1_ := Aside0.mk (below_step (by repeat (with_reducible exact HB.out)) hb); have n2_ := Aside0.mk (hbox); have n3_ := Aside0.mk ((by rw [hg]; exact (below_size (by repeat (with_reducible exact HB.out))) : w.heap.size ≤ gb181)); have n4_ := Aside0.mk ((by rw [hg]; exact (below_size (by repeat (with_reducible exact HB.out))) : w.heap.size ≤ gb181)); have n5_ := Aside0.mk ((by rw [hg]; exact Nat.ne_of_lt (blk_lt (g := gb179) (o := .cells #[.int .i64 x180000_1, .int .i64 x180001_1, .int .i64 x180002_1] 38 (0, 0)) (by exact BK179.out)) : gb179 ≠ gb181)); have n6_ := Aside0.mk ((by rw [hg]; exact Nat.ne_of_gt (blk_lt (g := gb179) (o := .cells #[.int .i64 x180000_1, .int .i64 x180001_1, .int .i64 x180002_1] 38 (0, 0)) (by exact BK179.out)) : gb181 ≠ gb179)); clear BK179; clear HB; have BK179 := n0_; have HB := n1_; have BK181 := n2_; have GW181 := n3_; have GE181 := n4_; have NB179_181 := n5_; have NB181_179 := n6_; clear n0_ n1_ n2_ n3_ n4_ n5_ n6_; clear hb hbox hg; have hnb25 := NB181_179.out; have hnc25 := NB179_181.out; obtain ⟨hcz26_0, hcz26_1, hcz26_2, hfz26_0, hfz26_1, hfz26_2⟩ := cz3 BK181.out))
       go_ret
       exact ⟨by rfl, by repeat (with_reducible first | exact HB.out | refine below_set ?_ GE181.out)⟩
      rw [if_neg c23] at H
      have c23b0 : decide (1099511627776 < ((rd_T38 l0 x9_1).f1)) = false := decide_eq_false c23
      clear c23
      by_cases c27 : ((rd_T38 l0 x9_1).f0) ≤ x180001_1
      ·
       rw [if_pos c27] at H
       have c27b0 : decide (((rd_T38 l0 x9_1).f0) ≤ x180001_1) = true := decide_eq_true c27
       clear c27
       obtain rfl := Option.some.inj H
       have p180 : 0 ≤ (x9_1 : Int) := of_decide_eq_true (by (with_reducible assumption))
       have q180 : x9_1 < (l0.length : Int) := of_decide_eq_true (by (with_reducible assumption))
       obtain ⟨ad180, e180, hx180_0, hx180_1, hx180_2⟩ := at_T38 HR0.out x9_1 p180 q180
       cases e180
       replace hx180_0 := (HB.out.cell (World.block_lt_of_cell? w _ hx180_0)).trans hx180_0
       replace hx180_1 := (HB.out.cell (World.block_lt_of_cell? w _ hx180_1)).trans hx180_1
       replace hx180_2 := (HB.out.cell (World.block_lt_of_cell? w _ hx180_2)).trans hx180_2
       replace p180 := eq_true p180
       replace q180 := eq_true q180
       go_wp2_with (((with_reducible refine gate_dst (N := 5) rfl ?_); refine box_event ?hg (N := 5) ?hd (cs := #[.int .i64 0, .int .i64 0, .int .i64 0]) (t := 38) ?hr ?_; (case hd => rfl); (case hg => rfl); (case hr => (go_simp; done)); intro gb181 hg w28 hbox hb; have n0_ := Aside0.mk (blk_below (g := gb179) (o := .cells #[.int .i64 x180000_1, .int .i64 x180001_1, .int .i64 x180002_1] 38 (0, 0)) (by exact BK179.out) hb); have n1_ := Aside0.mk (below_step (by repeat (with_reducible exact HB.out)) hb); have n2_ := Aside0.mk (hbox); have n3_ := Aside0.mk ((by rw [hg]; exact (below_size (by repeat (with_reducible exact HB.out))) : w.heap.size ≤ gb181)); have n4_ := Aside0.mk ((by rw [hg]; exact (below_size (by repeat (with_reducible exact HB.out))) : w.heap.size ≤ gb181)); have n5_ := Aside0.mk ((by rw [hg]; exact Nat.ne_of_lt (blk_lt (g := gb179) (o := .cells #[.int .i64 x180000_1, .int .i64 x180001_1, .int .i64 x180002_1] 38 (0, 0)) (by exact BK179.out)) : gb179 ≠ gb181)); have n6_ := Aside0.mk ((by rw [hg]; exact Nat.ne_of_gt (blk_lt (g := gb179) (o := .cells #[.int .i64 x180000_1, .int .i64 x180001_1, .int .i64 x180002_1] 38 (0, 0)) (by exact BK179.out)) : gb181 ≠ gb179)); clear BK179; clear HB; have BK179 := n0_; have HB := n1_; have BK181 := n2_; have GW181 := n3_; have GE181 := n4_; have NB179_181 := n5_; have NB181_179 := n6_; clear n0_ n1_ n2_ n3_ n4_ n5_ n6_; clear hb hbox hg; have hnb29 := NB181_179.out; have hnc29 := NB179_181.out; obtain ⟨hcz30_0, hcz30_1, hcz30_2, hfz30_0, hfz30_1, hfz30_2⟩ := cz3 BK181.out; obtain ⟨hcz31_0, hcz31_1, hcz31_2, hfz31_0, hfz31_1, hfz31_2⟩ := cz3 BK179.out))
       go_ret
       exact ⟨by rfl, by repeat (with_reducible first | exact HB.out | refine below_set ?_ GE181.out)⟩
      rw [if_neg c27] at H
      have c27b0 : decide (((rd_T38 l0 x9_1).f0) ≤ x180001_1) = false := decide_eq_false c27
      clear c27
      by_cases c32 : ((rd_T38 l0 x9_1).f0) = (wrap64 (x180001_1 + 1))
      ·
       rw [if_pos c32] at H
       have c32b0 : (((rd_T38 l0 x9_1).f0) == (wrap64 (x180001_1 + 1))) = true := beq_iff_eq.mpr c32
       have c32b1 : (((rd_T38 l0 x9_1).f0) != (wrap64 (x180001_1 + 1))) = false := bne_eq_false_iff_eq.mpr c32
       clear c32
       by_cases c33 : ((rd_T38 l0 x9_1).f2) = x180002_1
       ·
        rw [if_pos c33] at H
        have c33b0 : (((rd_T38 l0 x9_1).f2) == x180002_1) = true := beq_iff_eq.mpr c33
        have c33b1 : (((rd_T38 l0 x9_1).f2) != x180002_1) = false := bne_eq_false_iff_eq.mpr c33
        clear c33
        obtain rfl := Option.some.inj H
        have p180 : 0 ≤ (x9_1 : Int) := of_decide_eq_true (by (with_reducible assumption))
        have q180 : x9_1 < (l0.length : Int) := of_decide_eq_true (by (with_reducible assumption))
        obtain ⟨ad180, e180, hx180_0, hx180_1, hx180_2⟩ := at_T38 HR0.out x9_1 p180 q180
        cases e180
        replace hx180_0 := (HB.out.cell (World.block_lt_of_cell? w _ hx180_0)).trans hx180_0
        replace hx180_1 := (HB.out.cell (World.block_lt_of_cell? w _ hx180_1)).trans hx180_1
        replace hx180_2 := (HB.out.cell (World.block_lt_of_cell? w _ hx180_2)).trans hx180_2
        replace p180 := eq_true p180
        replace q180 := eq_true q180
        go_wp2_with (((with_reducible refine gate_dst (N := 5) rfl ?_); refine box_event ?hg (N := 5) ?hd (cs := #[.int .i64 0, .int .i64 0, .int .i64 0]) (t := 38) ?hr ?_; (case hd => rfl); (case hg => rfl); (case hr => (go_simp; done)); intro gb181 hg w34 hbox hb; have n0_ := Aside0.mk (blk_below (g := gb179) (o := .cells #[.int .i64 x180000_1, .int .i64 x180001_1, .int .i64 x180002_1] 38 (0, 0)) (by exact BK179.out) hb); have n1_ := Aside0.mk (below_step (by repeat (with_reducible exact HB.out)) hb); have n2_ := Aside0.mk (hbox); have n3_ := Aside0.mk ((by rw [hg]; exact (below_size (by repeat (with_reducible exact HB.out))) : w.heap.size ≤ gb181)); have n4_ := Aside0.mk ((by rw [hg]; exact (below_size (by repeat (with_reducible exact HB.out))) : w.heap.size ≤ gb181)); have n5_ := Aside0.mk ((by rw [hg]; exact Nat.ne_of_lt (blk_lt (g := gb179) (o := .cells #[.int .i64 x180000_1, .int .i64 x180001_1, .int .i64 x180002_1] 38 (0, 0)) (by exact BK179.out)) : gb179 ≠ gb181)); have n6_ := Aside0.mk ((by rw [hg]; exact Nat.ne_of_gt (blk_lt (g := gb179) (o := .cells #[.int .i64 x180000_1, .int .i64 x180001_1, .int .i64 x180002_1] 38 (0, 0)) (by exact BK179.out)) : gb181 ≠ gb179)); clear BK179; clear HB; have BK179 := n0_; have HB := n1_; have BK181 := n2_; have GW181 := n3_; have GE181 := n4_; have NB179_181 := n5_; have NB181_179 := n6_; clear n0_ n1_ n2_ n3_ n4_ n5_ n6_; clear hb hbox hg; have hnb35 := NB181_179.out; have hnc35 := NB179_181.out; obtain ⟨hcz36_0, hcz36_1, hcz36_2, hfz36_0, hfz36_1, hfz36_2⟩ := cz3 BK181.out; obtain ⟨hcz37_0, hcz37_1, hcz37_2, hfz37_0, hfz37_1, hfz37_2⟩ := cz3 BK179.out))
        go_ret
        exact ⟨by rfl, by repeat (with_reducible first | exact HB.out | refine below_set ?_ GE181.out)⟩
       rw [if_neg c33] at H
       have c33b0 : (((rd_T38 l0 x9_1).f2) == x180002_1) = false := beq_eq_false_iff_ne.mpr c33
       have c33b1 : (((rd_T38 l0 x9_1).f2) != x180002_1) = true := bne_iff_ne.mpr c33
       have H' := Aside0.mk H
       clear H
       have p180 : 0 ≤ (x9_1 : Int) := of_decide_eq_true (by (with_reducible assumption))
       have q180 : x9_1 < (l0.length : Int) := of_decide_eq_true (by (with_reducible assumption))
       obtain ⟨ad180, e180, hx180_0, hx180_1, hx180_2⟩ := at_T38 HR0.out x9_1 p180 q180
       cases e180
       replace hx180_0 := (HB.out.cell (World.block_lt_of_cell? w _ hx180_0)).trans hx180_0
       replace hx180_1 := (HB.out.cell (World.block_lt_of_cell? w _ hx180_1)).trans hx180_1
       replace hx180_2 := (HB.out.cell (World.block_lt_of_cell? w _ hx180_2)).trans hx180_2
       replace p180 := eq_true p180
       replace q180 := eq_true q180
       go_wp2_with (((with_reducible refine gate_dst (N := 5) rfl ?_); refine box_event ?hg (N := 5) ?hd (cs := #[.int .i64 0, .int .i64 0, .int .i64 0]) (t := 38) ?hr ?_; (case hd => rfl); (case hg => rfl); (case hr => (go_simp; done)); intro gb181 hg w38 hbox hb; have n0_ := Aside0.mk (blk_below (g := gb179) (o := .cells #[.int .i64 x180000_1, .int .i64 x180001_1, .int .i64 x180002_1] 38 (0, 0)) (by exact BK179.out) hb); have n1_ := Aside0.mk (below_step (by repeat (with_reducible exact HB.out)) hb); have n2_ := Aside0.mk (hbox); have n3_ := Aside0.mk ((by rw [hg]; exact (below_size (by repeat (with_reducible exact HB.out))) : w.heap.size ≤ gb181)); have n4_ := Aside0.mk ((by rw [hg]; exact (below_size (by repeat (with_reducible exact HB.out))) : w.heap.size ≤ gb181)); have n5_ := Aside0.mk ((by rw [hg]; exact Nat.ne_of_lt (blk_lt (g := gb179) (o := .cells #[.int .i64 x180000_1, .int .i64 x180001_1, .int .i64 x180002_1] 38 (0, 0)) (by exact BK179.out)) : gb179 ≠ gb181)); have n6_ := Aside0.mk ((by rw [hg]; exact Nat.ne_of_gt (blk_lt (g := gb179) (o := .cells #[.int .i64 x180000_1, .int .i64 x180001_1, .int .i64 x180002_1] 38 (0, 0)) (by exact BK179.out)) : gb181 ≠ gb179)); clear BK179; clear HB; have BK179 := n0_; have HB := n1_; have BK181 := n2_; have GW181 := n3_; have GE181 := n4_; have NB179_181 := n5_; have NB181_179 := n6_; clear n0_ n1_ n2_ n3_ n4_ n5_ n6_; clear hb hbox hg; have hnb39 := NB181_179.out; have hnc39 := NB179_181.out; obtain ⟨hcz40_0, hcz40_1, hcz40_2, hfz40_0, hfz40_1, hfz40_2⟩ := cz3 BK181.out; obtain ⟨hcz41_0, hcz41_1, hcz41_2, hfz41_0, hfz41_1, hfz41_2⟩ := cz3 BK179.out))
       go_roundg k1
       case measure => have := HK1.out; omega
       case rel => exact ⟨(wrap64 (x9_1 + 1)), ((rd_T38 l0 x9_1).f0), ((rd_T38 l0 x9_1).f1), ((rd_T38 l0 x9_1).f2), (by rfl), H', ⟨by have := HK1.out; omega⟩, ⟨by refine blk_put (cs := #[.int .i64 ((rd_T38 l0 x9_1).f0), .int .i64 ((rd_T38 l0 x9_1).f1), .int .i64 x180002_1]) ?_ 2 _ rfl; refine blk_put (cs := #[.int .i64 ((rd_T38 l0 x9_1).f0), .int .i64 x180001_1, .int .i64 x180002_1]) ?_ 1 _ rfl; refine blk_put (cs := #[.int .i64 x180000_1, .int .i64 x180001_1, .int .i64 x180002_1]) ?_ 0 _ rfl; refine blk_far ?_ NB179_181.out _; refine blk_far ?_ NB179_181.out _; refine blk_far ?_ NB179_181.out _; exact BK179.out⟩, ⟨by repeat (with_reducible first | exact HB.out | refine below_set ?_ GE179.out | refine below_set ?_ GE181.out)⟩⟩
      rw [if_neg c32] at H
      have c32b0 : (((rd_T38 l0 x9_1).f0) == (wrap64 (x180001_1 + 1))) = false := beq_eq_false_iff_ne.mpr c32
      have c32b1 : (((rd_T38 l0 x9_1).f0) != (wrap64 (x180001_1 + 1))) = true := bne_iff_ne.mpr c32
      have H' := Aside0.mk H
      clear H
      have p180 : 0 ≤ (x9_1 : Int) := of_decide_eq_true (by (with_reducible assumption))
      have q180 : x9_1 < (l0.length : Int) := of_decide_eq_true (by (with_reducible assumption))
      obtain ⟨ad180, e180, hx180_0, hx180_1, hx180_2⟩ := at_T38 HR0.out x9_1 p180 q180
      cases e180
      replace hx180_0 := (HB.out.cell (World.block_lt_of_cell? w _ hx180_0)).trans hx180_0
      replace hx180_1 := (HB.out.cell (World.block_lt_of_cell? w _ hx180_1)).trans hx180_1
      replace hx180_2 := (HB.out.cell (World.block_lt_of_cell? w _ hx180_2)).trans hx180_2
      replace p180 := eq_true p180
      replace q180 := eq_true q180
      go_wp2_with (((with_reducible refine gate_dst (N := 5) rfl ?_); refine box_event ?hg (N := 5) ?hd (cs := #[.int .i64 0, .int .i64 0, .int .i64 0]) (t := 38) ?hr ?_; (case hd => rfl); (case hg => rfl); (case hr => (go_simp; done)); intro gb181 hg w42 hbox hb; have n0_ := Aside0.mk (blk_below (g := gb179) (o := .cells #[.int .i64 x180000_1, .int .i64 x180001_1, .int .i64 x180002_1] 38 (0, 0)) (by exact BK179.out) hb); have n1_ := Aside0.mk (below_step (by repeat (with_reducible exact HB.out)) hb); have n2_ := Aside0.mk (hbox); have n3_ := Aside0.mk ((by rw [hg]; exact (below_size (by repeat (with_reducible exact HB.out))) : w.heap.size ≤ gb181)); have n4_ := Aside0.mk ((by rw [hg]; exact (below_size (by repeat (with_reducible exact HB.out))) : w.heap.size ≤ gb181)); have n5_ := Aside0.mk ((by rw [hg]; exact Nat.ne_of_lt (blk_lt (g := gb179) (o := .cells #[.int .i64 x180000_1, .int .i64 x180001_1, .int .i64 x180002_1] 38 (0, 0)) (by exact BK179.out)) : gb179 ≠ gb181)); have n6_ := Aside0.mk ((by rw [hg]; exact Nat.ne_of_gt (blk_lt (g := gb179) (o := .cells #[.int .i64 x180000_1, .int .i64 x180001_1, .int .i64 x180002_1] 38 (0, 0)) (by exact BK179.out)) : gb181 ≠ gb179)); clear BK179; clear HB; have BK179 := n0_; have HB := n1_; have BK181 := n2_; have GW181 := n3_; have GE181 := n4_; have NB179_181 := n5_; have NB181_179 := n6_; clear n0_ n1_ n2_ n3_ n4_ n5_ n6_; clear hb hbox hg; have hnb43 := NB181_179.out; have hnc43 := NB179_181.out; obtain ⟨hcz44_0, hcz44_1, hcz44_2, hfz44_0, hfz44_1, hfz44_2⟩ := cz3 BK181.out; obtain ⟨hcz45_0, hcz45_1, hcz45_2, hfz45_0, hfz45_1, hfz45_2⟩ := cz3 BK179.out))
      go_roundg k1
      case measure => have := HK1.out; omega
      case rel => exact ⟨(wrap64 (x9_1 + 1)), ((rd_T38 l0 x9_1).f0), ((rd_T38 l0 x9_1).f1), ((rd_T38 l0 x9_1).f2), (by rfl), H', ⟨by have := HK1.out; omega⟩, ⟨by refine blk_put (cs := #[.int .i64 ((rd_T38 l0 x9_1).f0), .int .i64 ((rd_T38 l0 x9_1).f1), .int .i64 x180002_1]) ?_ 2 _ rfl; refine blk_put (cs := #[.int .i64 ((rd_T38 l0 x9_1).f0), .int .i64 x180001_1, .int .i64 x180002_1]) ?_ 1 _ rfl; refine blk_put (cs := #[.int .i64 x180000_1, .int .i64 x180001_1, .int .i64 x180002_1]) ?_ 0 _ rfl; refine blk_far ?_ NB179_181.out _; refine blk_far ?_ NB179_181.out _; refine blk_far ?_ NB179_181.out _; exact BK179.out⟩, ⟨by repeat (with_reducible first | exact HB.out | refine below_set ?_ GE179.out | refine below_set ?_ GE181.out)⟩⟩
     rw [if_neg c6] at H
     exact absurd H (by simp)
    rw [if_neg c5] at H
    exact absurd H (by simp)
   rw [if_neg c4] at H
   have c4b0 : decide (x9_1 < (l0.length : Int)) = false := decide_eq_false c4
   clear c4
   obtain rfl := Option.some.inj H
   go_wp2
   go_ret
   exact ⟨by rfl, by repeat (with_reducible exact HB.out)⟩

end Go.Proofs.Ytffefaiaifhokaa.PT
