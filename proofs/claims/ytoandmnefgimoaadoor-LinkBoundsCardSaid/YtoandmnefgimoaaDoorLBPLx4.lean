import Derived.Test.YtoandmnefgimoaaDoorLBPLx0
namespace Go.Proofs.YtoandmnefgimoaaDoor.PL
open Go.RowKit Go.Proofs.YtoandmnefgimoaaDoorW.PrintWords Go.Proofs.YtoandmnefgimoaaDoorW.PrintLast Go.Proofs.YtoandmnefgimoaaDoorW.PrintMore
attribute [local go_sem] max2_int min2_int max_two min_two max_three min_three max_four min_four
set_option linter.unusedVariables false
set_option linter.unusedSimpArgs false
def span_Right.l0 : Nat → List (S110) → Int → Int → Int → Int → Int → Option (Bool)
 | 0, _, _, _, _, _, _ => none
 | k + 1, x7, x8, x9, x103000, x103001, x103002 => if x9 < x8 then (if 0 ≤ x9 then (if x9 < (x7.length : Int) then (if ((rd_T110 x7 x9).f2) < 1 then (some false) else (if ((rd_T110 x7 x9).f2) > 3 then (some false) else (if ((rd_T110 x7 x9).f0) < 1 then (some false) else (if ((rd_T110 x7 x9).f0) > ((rd_T110 x7 x9).f1) then (some false) else (if ((rd_T110 x7 x9).f1) > 1099511627776 then (some false) else (if ((rd_T110 x7 x9).f0) ≤ x103001 then (some false) else (if ((rd_T110 x7 x9).f0) = (wrap64 (x103001 + 1)) then (if ((rd_T110 x7 x9).f2) = x103002 then (some false) else (span_Right.l0 k x7 x8 (wrap64 (x9 + 1)) ((rd_T110 x7 x9).f0) ((rd_T110 x7 x9).f1) ((rd_T110 x7 x9).f2))) else (span_Right.l0 k x7 x8 (wrap64 (x9 + 1)) ((rd_T110 x7 x9).f0) ((rd_T110 x7 x9).f1) ((rd_T110 x7 x9).f2))))))))) else (none)) else (none)) else (some true)
def span_Right.f (k : Nat) (l0 : List (S110)) : Option (Bool) := span_Right.l0 k l0 (l0.length : Int) 0 0 0 0
set_option maxHeartbeats 8000000 in
set_option maxRecDepth 100000 in
theorem span_Right.calls (k : Nat) (A0 : Option Addr) (c0 : Nat) (l0 : List (S110)) (r : Bool) (w : World) (hr0 : Kd.C k110 w A0 l0.length l0) (hc0 : l0.length ≤ c0) (h : span_Right.f k l0 = some r) :
 Calls Tryd.prog 49 #[.slice A0 l0.length c0] w fun e w' => e = .returned (.bool r) ∧ Below w.heap.size w w' := by
 have hu110 := Tryd.underlying110
 have HR0 := am_ hr0
 have HC0 := am_ hc0
 clear hr0 hc0
 have HB := am_ (Below.refl w.heap.size w)
 have H : (span_Right.l0 k l0 (l0.length : Int) 0 0 0 0) = some r := h
 clear h
 have H' := am_ H
 clear H
 go_enter Tryd.func49, Tryd.ntmps49
 go_wp2_with (((with_reducible refine gd_ (N := 3) rfl ?_); refine bE 3 #[.int .i64 0, .int .i64 0, .int .i64 0] 110 ?_; intro gb102 hg w2 hbox hb; have n0_ := am_ (below_step HB.out hb); have n1_ := am_ (hbox); have n2_ := am_ ((by rw [hg]; exact (bz_ HB.out) : w.heap.size ≤ gb102)); have n3_ := am_ ((by rw [hg]; exact (bz_ HB.out) : w.heap.size ≤ gb102)); clear HB; have HB := n0_; have BK102 := n1_; have GW102 := n2_; have GE102 := n3_; clear n0_ n1_ n2_ n3_; clear hb hbox hg; obtain ⟨hcz3_0, hcz3_1, hcz3_2, hfz3_0, hfz3_1, hfz3_2⟩ := cz3 BK102.out))
 go_loopg [9] k (fun kq v9 w' => ∃ (x9_1 : Int) (x103000_1 : Int) (x103001_1 : Int) (x103002_1 : Int), v9 = .int .i64 x9_1 ∧ Aside0 (span_Right.l0 kq l0 (l0.length : Int) x9_1 x103000_1 x103001_1 x103002_1 = some r) ∧ Aside0 (kq ≤ k) ∧ Aside0 (w'.heap[gb102]? = some (.cells #[.int .i64 x103000_1, .int .i64 x103001_1, .int .i64 x103002_1] 110 (0, 0))) ∧ Aside0 (Below w.heap.size w w'))
 case atStart => exact ⟨(0), (0), (0), (0), (by rfl), H', ⟨Nat.le_refl _⟩, ⟨by refine blk_put (cs := #[.int .i64 0, .int .i64 0, .int .i64 0]) ?_ 2 _ rfl; refine blk_put (cs := #[.int .i64 0, .int .i64 0, .int .i64 0]) ?_ 1 _ rfl; refine blk_put (cs := #[.int .i64 0, .int .i64 0, .int .i64 0]) ?_ 0 _ rfl; exact BK102.out⟩, ⟨by repeat (with_reducible first | exact HB.out | refine bs_ ?_ GE102.out)⟩⟩
 case round =>
 clear H'
 try clear hcz3_0
 try clear hcz3_1
 try clear hcz3_2
 try clear hfz3_0
 try clear hfz3_1
 try clear hfz3_2
 obtain ⟨x9_1, x103000_1, x103001_1, x103002_1, rfl, HA, HK1, BK102, HB⟩ := hrel
 cases gk with
 | zero => exact absurd HA.out (by simp [span_Right.l0])
 | succ k1 =>
 have H := HA.out
 clear HA
 simp only [span_Right.l0] at H
 by_cases c4 : x9_1 < (l0.length : Int)
 ·
  rw [if_pos c4] at H
  have c4b0 : decide (x9_1 < (l0.length : Int)) = true := decide_eq_true c4
  clear c4
  by_cases c5 : 0 ≤ x9_1
  ·
   rw [if_pos c5] at H
   have c5b0 : decide (0 ≤ x9_1) = true := decide_eq_true c5
   clear c5
   by_cases c6 : x9_1 < (l0.length : Int)
   ·
    rw [if_pos c6] at H
    have c6b0 : decide (x9_1 < (l0.length : Int)) = true := decide_eq_true c6
    clear c6
    by_cases c7 : ((rd_T110 l0 x9_1).f2) < 1
    ·
     rw [if_pos c7] at H
     have c7b0 : decide (((rd_T110 l0 x9_1).f2) < 1) = true := decide_eq_true c7
     clear c7
     obtain rfl := Option.some.inj H
     have p103 : 0 ≤ (x9_1 : Int) := of_decide_eq_true (by (with_reducible assumption))
     have q103 : x9_1 < (l0.length : Int) := of_decide_eq_true (by (with_reducible assumption))
     obtain ⟨ad103, e103, hx103_0, hx103_1, hx103_2⟩ := at_T110 HR0.out x9_1 p103 q103
     cases e103
     replace hx103_0 := (HB.out.cell (World.block_lt_of_cell? w _ hx103_0)).trans hx103_0
     replace hx103_1 := (HB.out.cell (World.block_lt_of_cell? w _ hx103_1)).trans hx103_1
     replace hx103_2 := (HB.out.cell (World.block_lt_of_cell? w _ hx103_2)).trans hx103_2
     replace p103 := eq_true p103
     replace q103 := eq_true q103
     go_wp2_with (((with_reducible refine gd_ (N := 5) rfl ?_); refine bE 5 #[.int .i64 0, .int .i64 0, .int .i64 0] 110 ?_; intro gb104 hg w8 hbox hb; have n0_ := am_ (blk_below (g := gb102) (o := .cells #[.int .i64 x103000_1, .int .i64 x103001_1, .int .i64 x103002_1] 110 (0, 0)) BK102.out hb); have n1_ := am_ (below_step HB.out hb); have n2_ := am_ (hbox); have n3_ := am_ ((by rw [hg]; exact (bz_ HB.out) : w.heap.size ≤ gb104)); have n4_ := am_ ((by rw [hg]; exact (bz_ HB.out) : w.heap.size ≤ gb104)); have n5_ := am_ ((by rw [hg]; exact Nat.ne_of_lt (blk_lt (g := gb102) (o := .cells #[.int .i64 x103000_1, .int .i64 x103001_1, .int .i64 x103002_1] 110 (0, 0)) BK102.out) : gb102 ≠ gb104)); have n6_ := am_ ((by rw [hg]; exact Nat.ne_of_gt (blk_lt (g := gb102) (o := .cells #[.int .i64 x103000_1, .int .i64 x103001_1, .int .i64 x103002_1] 110 (0, 0)) BK102.out) : gb104 ≠ gb102)); clear BK102; clear HB; have BK102 := n0_; have HB := n1_; have BK104 := n2_; have GW104 := n3_; have GE104 := n4_; have NB102_104 := n5_; have NB104_102 := n6_; clear n0_ n1_ n2_ n3_ n4_ n5_ n6_; clear hb hbox hg; have hnb9 := NB104_102.out; have hnc9 := NB102_104.out; obtain ⟨hcz10_0, hcz10_1, hcz10_2, hfz10_0, hfz10_1, hfz10_2⟩ := cz3 BK104.out))
     go_ret
     exact ⟨by rfl, by repeat (with_reducible first | exact HB.out | refine bs_ ?_ GE104.out)⟩
    rw [if_neg c7] at H
    have c7b0 : decide (((rd_T110 l0 x9_1).f2) < 1) = false := decide_eq_false c7
    clear c7
    by_cases c11 : ((rd_T110 l0 x9_1).f2) > 3
    ·
     rw [if_pos c11] at H
     have c11b0 : decide (3 < ((rd_T110 l0 x9_1).f2)) = true := decide_eq_true c11
     clear c11
     obtain rfl := Option.some.inj H
     have p103 : 0 ≤ (x9_1 : Int) := of_decide_eq_true (by (with_reducible assumption))
     have q103 : x9_1 < (l0.length : Int) := of_decide_eq_true (by (with_reducible assumption))
     obtain ⟨ad103, e103, hx103_0, hx103_1, hx103_2⟩ := at_T110 HR0.out x9_1 p103 q103
     cases e103
     replace hx103_0 := (HB.out.cell (World.block_lt_of_cell? w _ hx103_0)).trans hx103_0
     replace hx103_1 := (HB.out.cell (World.block_lt_of_cell? w _ hx103_1)).trans hx103_1
     replace hx103_2 := (HB.out.cell (World.block_lt_of_cell? w _ hx103_2)).trans hx103_2
     replace p103 := eq_true p103
     replace q103 := eq_true q103
     go_wp2_with (((with_reducible refine gd_ (N := 5) rfl ?_); refine bE 5 #[.int .i64 0, .int .i64 0, .int .i64 0] 110 ?_; intro gb104 hg w12 hbox hb; have n0_ := am_ (blk_below (g := gb102) (o := .cells #[.int .i64 x103000_1, .int .i64 x103001_1, .int .i64 x103002_1] 110 (0, 0)) BK102.out hb); have n1_ := am_ (below_step HB.out hb); have n2_ := am_ (hbox); have n3_ := am_ ((by rw [hg]; exact (bz_ HB.out) : w.heap.size ≤ gb104)); have n4_ := am_ ((by rw [hg]; exact (bz_ HB.out) : w.heap.size ≤ gb104)); have n5_ := am_ ((by rw [hg]; exact Nat.ne_of_lt (blk_lt (g := gb102) (o := .cells #[.int .i64 x103000_1, .int .i64 x103001_1, .int .i64 x103002_1] 110 (0, 0)) BK102.out) : gb102 ≠ gb104)); have n6_ := am_ ((by rw [hg]; exact Nat.ne_of_gt (blk_lt (g := gb102) (o := .cells #[.int .i64 x103000_1, .int .i64 x103001_1, .int .i64 x103002_1] 110 (0, 0)) BK102.out) : gb104 ≠ gb102)); clear BK102; clear HB; have BK102 := n0_; have HB := n1_; have BK104 := n2_; have GW104 := n3_; have GE104 := n4_; have NB102_104 := n5_; have NB104_102 := n6_; clear n0_ n1_ n2_ n3_ n4_ n5_ n6_; clear hb hbox hg; have hnb13 := NB104_102.out; have hnc13 := NB102_104.out; obtain ⟨hcz14_0, hcz14_1, hcz14_2, hfz14_0, hfz14_1, hfz14_2⟩ := cz3 BK104.out))
     go_ret
     exact ⟨by rfl, by repeat (with_reducible first | exact HB.out | refine bs_ ?_ GE104.out)⟩
    rw [if_neg c11] at H
    have c11b0 : decide (3 < ((rd_T110 l0 x9_1).f2)) = false := decide_eq_false c11
    clear c11
    by_cases c15 : ((rd_T110 l0 x9_1).f0) < 1
    ·
     rw [if_pos c15] at H
     have c15b0 : decide (((rd_T110 l0 x9_1).f0) < 1) = true := decide_eq_true c15
     clear c15
     obtain rfl := Option.some.inj H
     have p103 : 0 ≤ (x9_1 : Int) := of_decide_eq_true (by (with_reducible assumption))
     have q103 : x9_1 < (l0.length : Int) := of_decide_eq_true (by (with_reducible assumption))
     obtain ⟨ad103, e103, hx103_0, hx103_1, hx103_2⟩ := at_T110 HR0.out x9_1 p103 q103
     cases e103
     replace hx103_0 := (HB.out.cell (World.block_lt_of_cell? w _ hx103_0)).trans hx103_0
     replace hx103_1 := (HB.out.cell (World.block_lt_of_cell? w _ hx103_1)).trans hx103_1
     replace hx103_2 := (HB.out.cell (World.block_lt_of_cell? w _ hx103_2)).trans hx103_2
     replace p103 := eq_true p103
     replace q103 := eq_true q103
     go_wp2_with (((with_reducible refine gd_ (N := 5) rfl ?_); refine bE 5 #[.int .i64 0, .int .i64 0, .int .i64 0] 110 ?_; intro gb104 hg w16 hbox hb; have n0_ := am_ (blk_below (g := gb102) (o := .cells #[.int .i64 x103000_1, .int .i64 x103001_1, .int .i64 x103002_1] 110 (0, 0)) BK102.out hb); have n1_ := am_ (below_step HB.out hb); have n2_ := am_ (hbox); have n3_ := am_ ((by rw [hg]; exact (bz_ HB.out) : w.heap.size ≤ gb104)); have n4_ := am_ ((by rw [hg]; exact (bz_ HB.out) : w.heap.size ≤ gb104)); have n5_ := am_ ((by rw [hg]; exact Nat.ne_of_lt (blk_lt (g := gb102) (o := .cells #[.int .i64 x103000_1, .int .i64 x103001_1, .int .i64 x103002_1] 110 (0, 0)) BK102.out) : gb102 ≠ gb104)); have n6_ := am_ ((by rw [hg]; exact Nat.ne_of_gt (blk_lt (g := gb102) (o := .cells #[.int .i64 x103000_1, .int .i64 x103001_1, .int .i64 x103002_1] 110 (0, 0)) BK102.out) : gb104 ≠ gb102)); clear BK102; clear HB; have BK102 := n0_; have HB := n1_; have BK104 := n2_; have GW104 := n3_; have GE104 := n4_; have NB102_104 := n5_; have NB104_102 := n6_; clear n0_ n1_ n2_ n3_ n4_ n5_ n6_; clear hb hbox hg; have hnb17 := NB104_102.out; have hnc17 := NB102_104.out; obtain ⟨hcz18_0, hcz18_1, hcz18_2, hfz18_0, hfz18_1, hfz18_2⟩ := cz3 BK104.out))
     go_ret
     exact ⟨by rfl, by repeat (with_reducible first | exact HB.out | refine bs_ ?_ GE104.out)⟩
    rw [if_neg c15] at H
    have c15b0 : decide (((rd_T110 l0 x9_1).f0) < 1) = false := decide_eq_false c15
    clear c15
    by_cases c19 : ((rd_T110 l0 x9_1).f0) > ((rd_T110 l0 x9_1).f1)
    ·
     rw [if_pos c19] at H
     have c19b0 : decide (((rd_T110 l0 x9_1).f1) < ((rd_T110 l0 x9_1).f0)) = true := decide_eq_true c19
     clear c19
     obtain rfl := Option.some.inj H
     have p103 : 0 ≤ (x9_1 : Int) := of_decide_eq_true (by (with_reducible assumption))
     have q103 : x9_1 < (l0.length : Int) := of_decide_eq_true (by (with_reducible assumption))
     obtain ⟨ad103, e103, hx103_0, hx103_1, hx103_2⟩ := at_T110 HR0.out x9_1 p103 q103
     cases e103
     replace hx103_0 := (HB.out.cell (World.block_lt_of_cell? w _ hx103_0)).trans hx103_0
     replace hx103_1 := (HB.out.cell (World.block_lt_of_cell? w _ hx103_1)).trans hx103_1
     replace hx103_2 := (HB.out.cell (World.block_lt_of_cell? w _ hx103_2)).trans hx103_2
     replace p103 := eq_true p103
     replace q103 := eq_true q103
     go_wp2_with (((with_reducible refine gd_ (N := 5) rfl ?_); refine bE 5 #[.int .i64 0, .int .i64 0, .int .i64 0] 110 ?_; intro gb104 hg w20 hbox hb; have n0_ := am_ (blk_below (g := gb102) (o := .cells #[.int .i64 x103000_1, .int .i64 x103001_1, .int .i64 x103002_1] 110 (0, 0)) BK102.out hb); have n1_ := am_ (below_step HB.out hb); have n2_ := am_ (hbox); have n3_ := am_ ((by rw [hg]; exact (bz_ HB.out) : w.heap.size ≤ gb104)); have n4_ := am_ ((by rw [hg]; exact (bz_ HB.out) : w.heap.size ≤ gb104)); have n5_ := am_ ((by rw [hg]; exact Nat.ne_of_lt (blk_lt (g := gb102) (o := .cells #[.int .i64 x103000_1, .int .i64 x103001_1, .int .i64 x103002_1] 110 (0, 0)) BK102.out) : gb102 ≠ gb104)); have n6_ := am_ ((by rw [hg]; exact Nat.ne_of_gt (blk_lt (g := gb102) (o := .cells #[.int .i64 x103000_1, .int .i64 x103001_1, .int .i64 x103002_1] 110 (0, 0)) BK102.out) : gb104 ≠ gb102)); clear BK102; clear HB; have BK102 := n0_; have HB := n1_; have BK104 := n2_; have GW104 := n3_; have GE104 := n4_; have NB102_104 := n5_; have NB104_102 := n6_; clear n0_ n1_ n2_ n3_ n4_ n5_ n6_; clear hb hbox hg; have hnb21 := NB104_102.out; have hnc21 := NB102_104.out; obtain ⟨hcz22_0, hcz22_1, hcz22_2, hfz22_0, hfz22_1, hfz22_2⟩ := cz3 BK104.out))
     go_ret
     exact ⟨by rfl, by repeat (with_reducible first | exact HB.out | refine bs_ ?_ GE104.out)⟩
    rw [if_neg c19] at H
    have c19b0 : decide (((rd_T110 l0 x9_1).f1) < ((rd_T110 l0 x9_1).f0)) = false := decide_eq_false c19
    clear c19
    by_cases c23 : ((rd_T110 l0 x9_1).f1) > 1099511627776
    ·
     rw [if_pos c23] at H
     have c23b0 : decide (1099511627776 < ((rd_T110 l0 x9_1).f1)) = true := decide_eq_true c23
     clear c23
     obtain rfl := Option.some.inj H
     have p103 : 0 ≤ (x9_1 : Int) := of_decide_eq_true (by (with_reducible assumption))
     have q103 : x9_1 < (l0.length : Int) := of_decide_eq_true (by (with_reducible assumption))
     obtain ⟨ad103, e103, hx103_0, hx103_1, hx103_2⟩ := at_T110 HR0.out x9_1 p103 q103
     cases e103
     replace hx103_0 := (HB.out.cell (World.block_lt_of_cell? w _ hx103_0)).trans hx103_0
     replace hx103_1 := (HB.out.cell (World.block_lt_of_cell? w _ hx103_1)).trans hx103_1
     replace hx103_2 := (HB.out.cell (World.block_lt_of_cell? w _ hx103_2)).trans hx103_2
     replace p103 := eq_true p103
     replace q103 := eq_true q103
     go_wp2_with (((with_reducible refine gd_ (N := 5) rfl ?_); refine bE 5 #[.int .i64 0, .int .i64 0, .int .i64 0] 110 ?_; intro gb104 hg w24 hbox hb; have n0_ := am_ (blk_below (g := gb102) (o := .cells #[.int .i64 x103000_1, .int .i64 x103001_1, .int .i64 x103002_1] 110 (0, 0)) BK102.out hb); have n1_ := am_ (below_step HB.out hb); have n2_ := am_ (hbox); have n3_ := am_ ((by rw [hg]; exact (bz_ HB.out) : w.heap.size ≤ gb104)); have n4_ := am_ ((by rw [hg]; exact (bz_ HB.out) : w.heap.size ≤ gb104)); have n5_ := am_ ((by rw [hg]; exact Nat.ne_of_lt (blk_lt (g := gb102) (o := .cells #[.int .i64 x103000_1, .int .i64 x103001_1, .int .i64 x103002_1] 110 (0, 0)) BK102.out) : gb102 ≠ gb104)); have n6_ := am_ ((by rw [hg]; exact Nat.ne_of_gt (blk_lt (g := gb102) (o := .cells #[.int .i64 x103000_1, .int .i64 x103001_1, .int .i64 x103002_1] 110 (0, 0)) BK102.out) : gb104 ≠ gb102)); clear BK102; clear HB; have BK102 := n0_; have HB := n1_; have BK104 := n2_; have GW104 := n3_; have GE104 := n4_; have NB102_104 := n5_; have NB104_102 := n6_; clear n0_ n1_ n2_ n3_ n4_ n5_ n6_; clear hb hbox hg; have hnb25 := NB104_102.out; have hnc25 := NB102_104.out; obtain ⟨hcz26_0, hcz26_1, hcz26_2, hfz26_0, hfz26_1, hfz26_2⟩ := cz3 BK104.out))
     go_ret
     exact ⟨by rfl, by repeat (with_reducible first | exact HB.out | refine bs_ ?_ GE104.out)⟩
    rw [if_neg c23] at H
    have c23b0 : decide (1099511627776 < ((rd_T110 l0 x9_1).f1)) = false := decide_eq_false c23
    clear c23
    by_cases c27 : ((rd_T110 l0 x9_1).f0) ≤ x103001_1
    ·
     rw [if_pos c27] at H
     have c27b0 : decide (((rd_T110 l0 x9_1).f0) ≤ x103001_1) = true := decide_eq_true c27
     clear c27
     obtain rfl := Option.some.inj H
     have p103 : 0 ≤ (x9_1 : Int) := of_decide_eq_true (by (with_reducible assumption))
     have q103 : x9_1 < (l0.length : Int) := of_decide_eq_true (by (with_reducible assumption))
     obtain ⟨ad103, e103, hx103_0, hx103_1, hx103_2⟩ := at_T110 HR0.out x9_1 p103 q103
     cases e103
     replace hx103_0 := (HB.out.cell (World.block_lt_of_cell? w _ hx103_0)).trans hx103_0
     replace hx103_1 := (HB.out.cell (World.block_lt_of_cell? w _ hx103_1)).trans hx103_1
     replace hx103_2 := (HB.out.cell (World.block_lt_of_cell? w _ hx103_2)).trans hx103_2
     replace p103 := eq_true p103
     replace q103 := eq_true q103
     go_wp2_with (((with_reducible refine gd_ (N := 5) rfl ?_); refine bE 5 #[.int .i64 0, .int .i64 0, .int .i64 0] 110 ?_; intro gb104 hg w28 hbox hb; have n0_ := am_ (blk_below (g := gb102) (o := .cells #[.int .i64 x103000_1, .int .i64 x103001_1, .int .i64 x103002_1] 110 (0, 0)) BK102.out hb); have n1_ := am_ (below_step HB.out hb); have n2_ := am_ (hbox); have n3_ := am_ ((by rw [hg]; exact (bz_ HB.out) : w.heap.size ≤ gb104)); have n4_ := am_ ((by rw [hg]; exact (bz_ HB.out) : w.heap.size ≤ gb104)); have n5_ := am_ ((by rw [hg]; exact Nat.ne_of_lt (blk_lt (g := gb102) (o := .cells #[.int .i64 x103000_1, .int .i64 x103001_1, .int .i64 x103002_1] 110 (0, 0)) BK102.out) : gb102 ≠ gb104)); have n6_ := am_ ((by rw [hg]; exact Nat.ne_of_gt (blk_lt (g := gb102) (o := .cells #[.int .i64 x103000_1, .int .i64 x103001_1, .int .i64 x103002_1] 110 (0, 0)) BK102.out) : gb104 ≠ gb102)); clear BK102; clear HB; have BK102 := n0_; have HB := n1_; have BK104 := n2_; have GW104 := n3_; have GE104 := n4_; have NB102_104 := n5_; have NB104_102 := n6_; clear n0_ n1_ n2_ n3_ n4_ n5_ n6_; clear hb hbox hg; have hnb29 := NB104_102.out; have hnc29 := NB102_104.out; obtain ⟨hcz30_0, hcz30_1, hcz30_2, hfz30_0, hfz30_1, hfz30_2⟩ := cz3 BK104.out; obtain ⟨hcz31_0, hcz31_1, hcz31_2, hfz31_0, hfz31_1, hfz31_2⟩ := cz3 BK102.out))
     go_ret
     exact ⟨by rfl, by repeat (with_reducible first | exact HB.out | refine bs_ ?_ GE104.out)⟩
    rw [if_neg c27] at H
    have c27b0 : decide (((rd_T110 l0 x9_1).f0) ≤ x103001_1) = false := decide_eq_false c27
    clear c27
    by_cases c32 : ((rd_T110 l0 x9_1).f0) = (wrap64 (x103001_1 + 1))
    ·
     rw [if_pos c32] at H
     have c32b0 : (((rd_T110 l0 x9_1).f0) == (wrap64 (x103001_1 + 1))) = true := beq_iff_eq.mpr c32
     have c32b1 : (((rd_T110 l0 x9_1).f0) != (wrap64 (x103001_1 + 1))) = false := bne_eq_false_iff_eq.mpr c32
     clear c32
     by_cases c33 : ((rd_T110 l0 x9_1).f2) = x103002_1
     ·
      rw [if_pos c33] at H
      have c33b0 : (((rd_T110 l0 x9_1).f2) == x103002_1) = true := beq_iff_eq.mpr c33
      have c33b1 : (((rd_T110 l0 x9_1).f2) != x103002_1) = false := bne_eq_false_iff_eq.mpr c33
      clear c33
      obtain rfl := Option.some.inj H
      have p103 : 0 ≤ (x9_1 : Int) := of_decide_eq_true (by (with_reducible assumption))
      have q103 : x9_1 < (l0.length : Int) := of_decide_eq_true (by (with_reducible assumption))
      obtain ⟨ad103, e103, hx103_0, hx103_1, hx103_2⟩ := at_T110 HR0.out x9_1 p103 q103
      cases e103
      replace hx103_0 := (HB.out.cell (World.block_lt_of_cell? w _ hx103_0)).trans hx103_0
      replace hx103_1 := (HB.out.cell (World.block_lt_of_cell? w _ hx103_1)).trans hx103_1
      replace hx103_2 := (HB.out.cell (World.block_lt_of_cell? w _ hx103_2)).trans hx103_2
      replace p103 := eq_true p103
      replace q103 := eq_true q103
      go_wp2_with (((with_reducible refine gd_ (N := 5) rfl ?_); refine bE 5 #[.int .i64 0, .int .i64 0, .int .i64 0] 110 ?_; intro gb104 hg w34 hbox hb; have n0_ := am_ (blk_below (g := gb102) (o := .cells #[.int .i64 x103000_1, .int .i64 x103001_1, .int .i64 x103002_1] 110 (0, 0)) BK102.out hb); have n1_ := am_ (below_step HB.out hb); have n2_ := am_ (hbox); have n3_ := am_ ((by rw [hg]; exact (bz_ HB.out) : w.heap.size ≤ gb104)); have n4_ := am_ ((by rw [hg]; exact (bz_ HB.out) : w.heap.size ≤ gb104)); have n5_ := am_ ((by rw [hg]; exact Nat.ne_of_lt (blk_lt (g := gb102) (o := .cells #[.int .i64 x103000_1, .int .i64 x103001_1, .int .i64 x103002_1] 110 (0, 0)) BK102.out) : gb102 ≠ gb104)); have n6_ := am_ ((by rw [hg]; exact Nat.ne_of_gt (blk_lt (g := gb102) (o := .cells #[.int .i64 x103000_1, .int .i64 x103001_1, .int .i64 x103002_1] 110 (0, 0)) BK102.out) : gb104 ≠ gb102)); clear BK102; clear HB; have BK102 := n0_; have HB := n1_; have BK104 := n2_; have GW104 := n3_; have GE104 := n4_; have NB102_104 := n5_; have NB104_102 := n6_; clear n0_ n1_ n2_ n3_ n4_ n5_ n6_; clear hb hbox hg; have hnb35 := NB104_102.out; have hnc35 := NB102_104.out; obtain ⟨hcz36_0, hcz36_1, hcz36_2, hfz36_0, hfz36_1, hfz36_2⟩ := cz3 BK104.out; obtain ⟨hcz37_0, hcz37_1, hcz37_2, hfz37_0, hfz37_1, hfz37_2⟩ := cz3 BK102.out))
      go_ret
      exact ⟨by rfl, by repeat (with_reducible first | exact HB.out | refine bs_ ?_ GE104.out)⟩
     rw [if_neg c33] at H
     have c33b0 : (((rd_T110 l0 x9_1).f2) == x103002_1) = false := beq_eq_false_iff_ne.mpr c33
     have c33b1 : (((rd_T110 l0 x9_1).f2) != x103002_1) = true := bne_iff_ne.mpr c33
     have H' := am_ H
     clear H
     have p103 : 0 ≤ (x9_1 : Int) := of_decide_eq_true (by (with_reducible assumption))
     have q103 : x9_1 < (l0.length : Int) := of_decide_eq_true (by (with_reducible assumption))
     obtain ⟨ad103, e103, hx103_0, hx103_1, hx103_2⟩ := at_T110 HR0.out x9_1 p103 q103
     cases e103
     replace hx103_0 := (HB.out.cell (World.block_lt_of_cell? w _ hx103_0)).trans hx103_0
     replace hx103_1 := (HB.out.cell (World.block_lt_of_cell? w _ hx103_1)).trans hx103_1
     replace hx103_2 := (HB.out.cell (World.block_lt_of_cell? w _ hx103_2)).trans hx103_2
     replace p103 := eq_true p103
     replace q103 := eq_true q103
     go_wp2_with (((with_reducible refine gd_ (N := 5) rfl ?_); refine bE 5 #[.int .i64 0, .int .i64 0, .int .i64 0] 110 ?_; intro gb104 hg w38 hbox hb; have n0_ := am_ (blk_below (g := gb102) (o := .cells #[.int .i64 x103000_1, .int .i64 x103001_1, .int .i64 x103002_1] 110 (0, 0)) BK102.out hb); have n1_ := am_ (below_step HB.out hb); have n2_ := am_ (hbox); have n3_ := am_ ((by rw [hg]; exact (bz_ HB.out) : w.heap.size ≤ gb104)); have n4_ := am_ ((by rw [hg]; exact (bz_ HB.out) : w.heap.size ≤ gb104)); have n5_ := am_ ((by rw [hg]; exact Nat.ne_of_lt (blk_lt (g := gb102) (o := .cells #[.int .i64 x103000_1, .int .i64 x103001_1, .int .i64 x103002_1] 110 (0, 0)) BK102.out) : gb102 ≠ gb104)); have n6_ := am_ ((by rw [hg]; exact Nat.ne_of_gt (blk_lt (g := gb102) (o := .cells #[.int .i64 x103000_1, .int .i64 x103001_1, .int .i64 x103002_1] 110 (0, 0)) BK102.out) : gb104 ≠ gb102)); clear BK102; clear HB; have BK102 := n0_; have HB := n1_; have BK104 := n2_; have GW104 := n3_; have GE104 := n4_; have NB102_104 := n5_; have NB104_102 := n6_; clear n0_ n1_ n2_ n3_ n4_ n5_ n6_; clear hb hbox hg; have hnb39 := NB104_102.out; have hnc39 := NB102_104.out; obtain ⟨hcz40_0, hcz40_1, hcz40_2, hfz40_0, hfz40_1, hfz40_2⟩ := cz3 BK104.out; obtain ⟨hcz41_0, hcz41_1, hcz41_2, hfz41_0, hfz41_1, hfz41_2⟩ := cz3 BK102.out))
     go_roundg k1
     case measure => have := HK1.out; omega
     case rel => exact ⟨(wrap64 (x9_1 + 1)), ((rd_T110 l0 x9_1).f0), ((rd_T110 l0 x9_1).f1), ((rd_T110 l0 x9_1).f2), (by rfl), H', ⟨by have := HK1.out; omega⟩, ⟨by refine blk_put (cs := #[.int .i64 ((rd_T110 l0 x9_1).f0), .int .i64 ((rd_T110 l0 x9_1).f1), .int .i64 x103002_1]) ?_ 2 _ rfl; refine blk_put (cs := #[.int .i64 ((rd_T110 l0 x9_1).f0), .int .i64 x103001_1, .int .i64 x103002_1]) ?_ 1 _ rfl; refine blk_put (cs := #[.int .i64 x103000_1, .int .i64 x103001_1, .int .i64 x103002_1]) ?_ 0 _ rfl; refine blk_far ?_ NB102_104.out _; refine blk_far ?_ NB102_104.out _; refine blk_far ?_ NB102_104.out _; exact BK102.out⟩, ⟨by repeat (with_reducible first | exact HB.out | refine bs_ ?_ GE102.out | refine bs_ ?_ GE104.out)⟩⟩
    rw [if_neg c32] at H
    have c32b0 : (((rd_T110 l0 x9_1).f0) == (wrap64 (x103001_1 + 1))) = false := beq_eq_false_iff_ne.mpr c32
    have c32b1 : (((rd_T110 l0 x9_1).f0) != (wrap64 (x103001_1 + 1))) = true := bne_iff_ne.mpr c32
    have H' := am_ H
    clear H
    have p103 : 0 ≤ (x9_1 : Int) := of_decide_eq_true (by (with_reducible assumption))
    have q103 : x9_1 < (l0.length : Int) := of_decide_eq_true (by (with_reducible assumption))
    obtain ⟨ad103, e103, hx103_0, hx103_1, hx103_2⟩ := at_T110 HR0.out x9_1 p103 q103
    cases e103
    replace hx103_0 := (HB.out.cell (World.block_lt_of_cell? w _ hx103_0)).trans hx103_0
    replace hx103_1 := (HB.out.cell (World.block_lt_of_cell? w _ hx103_1)).trans hx103_1
    replace hx103_2 := (HB.out.cell (World.block_lt_of_cell? w _ hx103_2)).trans hx103_2
    replace p103 := eq_true p103
    replace q103 := eq_true q103
    go_wp2_with (((with_reducible refine gd_ (N := 5) rfl ?_); refine bE 5 #[.int .i64 0, .int .i64 0, .int .i64 0] 110 ?_; intro gb104 hg w42 hbox hb; have n0_ := am_ (blk_below (g := gb102) (o := .cells #[.int .i64 x103000_1, .int .i64 x103001_1, .int .i64 x103002_1] 110 (0, 0)) BK102.out hb); have n1_ := am_ (below_step HB.out hb); have n2_ := am_ (hbox); have n3_ := am_ ((by rw [hg]; exact (bz_ HB.out) : w.heap.size ≤ gb104)); have n4_ := am_ ((by rw [hg]; exact (bz_ HB.out) : w.heap.size ≤ gb104)); have n5_ := am_ ((by rw [hg]; exact Nat.ne_of_lt (blk_lt (g := gb102) (o := .cells #[.int .i64 x103000_1, .int .i64 x103001_1, .int .i64 x103002_1] 110 (0, 0)) BK102.out) : gb102 ≠ gb104)); have n6_ := am_ ((by rw [hg]; exact Nat.ne_of_gt (blk_lt (g := gb102) (o := .cells #[.int .i64 x103000_1, .int .i64 x103001_1, .int .i64 x103002_1] 110 (0, 0)) BK102.out) : gb104 ≠ gb102)); clear BK102; clear HB; have BK102 := n0_; have HB := n1_; have BK104 := n2_; have GW104 := n3_; have GE104 := n4_; have NB102_104 := n5_; have NB104_102 := n6_; clear n0_ n1_ n2_ n3_ n4_ n5_ n6_; clear hb hbox hg; have hnb43 := NB104_102.out; have hnc43 := NB102_104.out; obtain ⟨hcz44_0, hcz44_1, hcz44_2, hfz44_0, hfz44_1, hfz44_2⟩ := cz3 BK104.out; obtain ⟨hcz45_0, hcz45_1, hcz45_2, hfz45_0, hfz45_1, hfz45_2⟩ := cz3 BK102.out))
    go_roundg k1
    case measure => have := HK1.out; omega
    case rel => exact ⟨(wrap64 (x9_1 + 1)), ((rd_T110 l0 x9_1).f0), ((rd_T110 l0 x9_1).f1), ((rd_T110 l0 x9_1).f2), (by rfl), H', ⟨by have := HK1.out; omega⟩, ⟨by refine blk_put (cs := #[.int .i64 ((rd_T110 l0 x9_1).f0), .int .i64 ((rd_T110 l0 x9_1).f1), .int .i64 x103002_1]) ?_ 2 _ rfl; refine blk_put (cs := #[.int .i64 ((rd_T110 l0 x9_1).f0), .int .i64 x103001_1, .int .i64 x103002_1]) ?_ 1 _ rfl; refine blk_put (cs := #[.int .i64 x103000_1, .int .i64 x103001_1, .int .i64 x103002_1]) ?_ 0 _ rfl; refine blk_far ?_ NB102_104.out _; refine blk_far ?_ NB102_104.out _; refine blk_far ?_ NB102_104.out _; exact BK102.out⟩, ⟨by repeat (with_reducible first | exact HB.out | refine bs_ ?_ GE102.out | refine bs_ ?_ GE104.out)⟩⟩
   rw [if_neg c6] at H
   exact absurd H (by simp)
  rw [if_neg c5] at H
  exact absurd H (by simp)
 rw [if_neg c4] at H
 have c4b0 : decide (x9_1 < (l0.length : Int)) = false := decide_eq_false c4
 clear c4
 obtain rfl := Option.some.inj H
 go_wp2
 go_ret
 exact ⟨by rfl, by repeat (with_reducible exact HB.out)⟩
def span_At.l0 : Nat → Int → List (S110) → Int → Int → Option (Int)
 | 0, _, _, _, _ => none
 | k + 1, x1, x7, x8, x9 => if x9 < x8 then (if 0 ≤ x9 then (if x9 < (x7.length : Int) then (if x1 ≥ ((rd_T110 x7 x9).f0) then (if x1 ≤ ((rd_T110 x7 x9).f1) then (some ((rd_T110 x7 x9).f2)) else (span_At.l0 k x1 x7 x8 (wrap64 (x9 + 1)))) else (span_At.l0 k x1 x7 x8 (wrap64 (x9 + 1)))) else (none)) else (none)) else (some 0)
def span_At.f (k : Nat) (l0 : List (S110)) (a1 : Int) : Option (Int) := span_At.l0 k a1 l0 (l0.length : Int) 0
set_option maxHeartbeats 8000000 in
set_option maxRecDepth 100000 in
theorem span_At.calls (k : Nat) (A0 : Option Addr) (c0 : Nat) (l0 : List (S110)) (a1 : Int) (r : Int) (w : World) (hr0 : Kd.C k110 w A0 l0.length l0) (hc0 : l0.length ≤ c0) (h : span_At.f k l0 a1 = some r) :
 Calls Tryd.prog 50 #[.slice A0 l0.length c0, .int .i64 a1] w fun e w' => e = .returned (.int .i64 r) ∧ Below w.heap.size w w' := by
 have hu110 := Tryd.underlying110
 have HR0 := am_ hr0
 have HC0 := am_ hc0
 clear hr0 hc0
 have HB := am_ (Below.refl w.heap.size w)
 have H : (span_At.l0 k a1 l0 (l0.length : Int) 0) = some r := h
 clear h
 have H' := am_ H
 clear H
 go_enter Tryd.func50, Tryd.ntmps50
 go_wp2
 go_loopg [9] k (fun kq v9 w' => ∃ (x9_1 : Int), v9 = .int .i64 x9_1 ∧ Aside0 (span_At.l0 kq a1 l0 (l0.length : Int) x9_1 = some r) ∧ Aside0 (kq ≤ k) ∧ Aside0 (Below w.heap.size w w'))
 case atStart => exact ⟨(0), (by rfl), H', ⟨Nat.le_refl _⟩, ⟨by repeat (with_reducible exact HB.out)⟩⟩
 case round =>
 clear H'
 obtain ⟨x9_1, rfl, HA, HK1, HB⟩ := hrel
 cases gk with
 | zero => exact absurd HA.out (by simp [span_At.l0])
 | succ k1 =>
 have H := HA.out
 clear HA
 simp only [span_At.l0] at H
 by_cases c3 : x9_1 < (l0.length : Int)
 ·
  rw [if_pos c3] at H
  have c3b0 : decide (x9_1 < (l0.length : Int)) = true := decide_eq_true c3
  clear c3
  by_cases c4 : 0 ≤ x9_1
  ·
   rw [if_pos c4] at H
   have c4b0 : decide (0 ≤ x9_1) = true := decide_eq_true c4
   clear c4
   by_cases c5 : x9_1 < (l0.length : Int)
   ·
    rw [if_pos c5] at H
    have c5b0 : decide (x9_1 < (l0.length : Int)) = true := decide_eq_true c5
    clear c5
    by_cases c6 : a1 ≥ ((rd_T110 l0 x9_1).f0)
    ·
     rw [if_pos c6] at H
     have c6b0 : decide (((rd_T110 l0 x9_1).f0) ≤ a1) = true := decide_eq_true c6
     clear c6
     by_cases c7 : a1 ≤ ((rd_T110 l0 x9_1).f1)
     ·
      rw [if_pos c7] at H
      have c7b0 : decide (a1 ≤ ((rd_T110 l0 x9_1).f1)) = true := decide_eq_true c7
      clear c7
      obtain rfl := Option.some.inj H
      have p105 : 0 ≤ (x9_1 : Int) := of_decide_eq_true (by (with_reducible assumption))
      have q105 : x9_1 < (l0.length : Int) := of_decide_eq_true (by (with_reducible assumption))
      obtain ⟨ad105, e105, hx105_0, hx105_1, hx105_2⟩ := at_T110 HR0.out x9_1 p105 q105
      cases e105
      replace hx105_0 := (HB.out.cell (World.block_lt_of_cell? w _ hx105_0)).trans hx105_0
      replace hx105_1 := (HB.out.cell (World.block_lt_of_cell? w _ hx105_1)).trans hx105_1
      replace hx105_2 := (HB.out.cell (World.block_lt_of_cell? w _ hx105_2)).trans hx105_2
      replace p105 := eq_true p105
      replace q105 := eq_true q105
      go_wp2_with (((with_reducible refine gd_ (N := 6) rfl ?_); refine bE 6 #[.int .i64 0, .int .i64 0, .int .i64 0] 110 ?_; intro gb106 hg w8 hbox hb; have n0_ := am_ (below_step HB.out hb); have n1_ := am_ (hbox); have n2_ := am_ ((by rw [hg]; exact (bz_ HB.out) : w.heap.size ≤ gb106)); have n3_ := am_ ((by rw [hg]; exact (bz_ HB.out) : w.heap.size ≤ gb106)); clear HB; have HB := n0_; have BK106 := n1_; have GW106 := n2_; have GE106 := n3_; clear n0_ n1_ n2_ n3_; clear hb hbox hg; obtain ⟨hcz9_0, hcz9_1, hcz9_2, hfz9_0, hfz9_1, hfz9_2⟩ := cz3 BK106.out))
      go_ret
      exact ⟨by rfl, by repeat (with_reducible first | exact HB.out | refine bs_ ?_ GE106.out)⟩
     rw [if_neg c7] at H
     have c7b0 : decide (a1 ≤ ((rd_T110 l0 x9_1).f1)) = false := decide_eq_false c7
     clear c7
     have H' := am_ H
     clear H
     have p105 : 0 ≤ (x9_1 : Int) := of_decide_eq_true (by (with_reducible assumption))
     have q105 : x9_1 < (l0.length : Int) := of_decide_eq_true (by (with_reducible assumption))
     obtain ⟨ad105, e105, hx105_0, hx105_1, hx105_2⟩ := at_T110 HR0.out x9_1 p105 q105
     cases e105
     replace hx105_0 := (HB.out.cell (World.block_lt_of_cell? w _ hx105_0)).trans hx105_0
     replace hx105_1 := (HB.out.cell (World.block_lt_of_cell? w _ hx105_1)).trans hx105_1
     replace hx105_2 := (HB.out.cell (World.block_lt_of_cell? w _ hx105_2)).trans hx105_2
     replace p105 := eq_true p105
     replace q105 := eq_true q105
     go_wp2_with (((with_reducible refine gd_ (N := 6) rfl ?_); refine bE 6 #[.int .i64 0, .int .i64 0, .int .i64 0] 110 ?_; intro gb106 hg w10 hbox hb; have n0_ := am_ (below_step HB.out hb); have n1_ := am_ (hbox); have n2_ := am_ ((by rw [hg]; exact (bz_ HB.out) : w.heap.size ≤ gb106)); have n3_ := am_ ((by rw [hg]; exact (bz_ HB.out) : w.heap.size ≤ gb106)); clear HB; have HB := n0_; have BK106 := n1_; have GW106 := n2_; have GE106 := n3_; clear n0_ n1_ n2_ n3_; clear hb hbox hg; obtain ⟨hcz11_0, hcz11_1, hcz11_2, hfz11_0, hfz11_1, hfz11_2⟩ := cz3 BK106.out))
     go_roundg k1
     case measure => have := HK1.out; omega
     case rel => exact ⟨(wrap64 (x9_1 + 1)), (by rfl), H', ⟨by have := HK1.out; omega⟩, ⟨by repeat (with_reducible first | exact HB.out | refine bs_ ?_ GE106.out)⟩⟩
    rw [if_neg c6] at H
    have c6b0 : decide (((rd_T110 l0 x9_1).f0) ≤ a1) = false := decide_eq_false c6
    clear c6
    have H' := am_ H
    clear H
    have p105 : 0 ≤ (x9_1 : Int) := of_decide_eq_true (by (with_reducible assumption))
    have q105 : x9_1 < (l0.length : Int) := of_decide_eq_true (by (with_reducible assumption))
    obtain ⟨ad105, e105, hx105_0, hx105_1, hx105_2⟩ := at_T110 HR0.out x9_1 p105 q105
    cases e105
    replace hx105_0 := (HB.out.cell (World.block_lt_of_cell? w _ hx105_0)).trans hx105_0
    replace hx105_1 := (HB.out.cell (World.block_lt_of_cell? w _ hx105_1)).trans hx105_1
    replace hx105_2 := (HB.out.cell (World.block_lt_of_cell? w _ hx105_2)).trans hx105_2
    replace p105 := eq_true p105
    replace q105 := eq_true q105
    go_wp2_with (((with_reducible refine gd_ (N := 6) rfl ?_); refine bE 6 #[.int .i64 0, .int .i64 0, .int .i64 0] 110 ?_; intro gb106 hg w12 hbox hb; have n0_ := am_ (below_step HB.out hb); have n1_ := am_ (hbox); have n2_ := am_ ((by rw [hg]; exact (bz_ HB.out) : w.heap.size ≤ gb106)); have n3_ := am_ ((by rw [hg]; exact (bz_ HB.out) : w.heap.size ≤ gb106)); clear HB; have HB := n0_; have BK106 := n1_; have GW106 := n2_; have GE106 := n3_; clear n0_ n1_ n2_ n3_; clear hb hbox hg; obtain ⟨hcz13_0, hcz13_1, hcz13_2, hfz13_0, hfz13_1, hfz13_2⟩ := cz3 BK106.out))
    go_roundg k1
    case measure => have := HK1.out; omega
    case rel => exact ⟨(wrap64 (x9_1 + 1)), (by rfl), H', ⟨by have := HK1.out; omega⟩, ⟨by repeat (with_reducible first | exact HB.out | refine bs_ ?_ GE106.out)⟩⟩
   rw [if_neg c5] at H
   exact absurd H (by simp)
  rw [if_neg c4] at H
  exact absurd H (by simp)
 rw [if_neg c3] at H
 have c3b0 : decide (x9_1 < (l0.length : Int)) = false := decide_eq_false c3
 clear c3
 obtain rfl := Option.some.inj H
 go_wp2
 go_ret
 exact ⟨by rfl, by repeat (with_reducible exact HB.out)⟩
end Go.Proofs.YtoandmnefgimoaaDoor.PL
