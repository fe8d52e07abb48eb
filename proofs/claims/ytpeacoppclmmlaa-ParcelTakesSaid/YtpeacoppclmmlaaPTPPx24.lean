-- PRINTED by gprint.py (a session's own driver over the kit's print): not trusted; Lean checks it.
import Derived.Test.YtpeacoppclmmlaaPTPPx0
import Derived.Test.YtpeacoppclmmlaaPTPPx7
import Derived.Test.YtpeacoppclmmlaaPTPPx8
import Derived.Test.YtpeacoppclmmlaaPTPPx22
import Derived.Test.YtpeacoppclmmlaaPTPPx23
namespace Go.Proofs.Ytpeacoppclmmlaa.PP
open Go.RowKit Go.Proofs.YtpeacoppclmmlaaW.PrintWords Go.Proofs.YtpeacoppclmmlaaW.PrintLast Go.Proofs.YtpeacoppclmmlaaW.PrintMore
attribute [local go_sem] max2_int min2_int max_two min_two max_three min_three max_four min_four   -- for this text's walks alone
set_option linter.unusedVariables false
set_option linter.unusedSimpArgs false
/-! ### grapevineref13_Take: function 55 -/
mutual
def grapevineref13_Take.j0 : Nat → List Int → Bool → Int → Int → Int → Int → Int → Int → Option (Int × Int × Int × Int × Int × Int × (List (S43)) × (List (S62)) × Int)
 | 0, _, _, _, _, _, _, _, _ => none
 | k + 1, x0, x41, x423000, x423001, x423002, x423003, x423004, x423005 => if x41 = true then (some (0, 0, 0, 0, 0, 0, ([] : List (S43)), ([] : List (S62)), 12)) else ((grapevineref13_named.f x423000).bind fun t425 => (if t425 = true then ((grapevineref13_from.f x423000).bind fun t426 => (grapevineref13_Take.j1 k x0 2 t426 x423000 x423001 x423002 x423003 x423004 x423005)) else (grapevineref13_Take.j1 k x0 2 false x423000 x423001 x423002 x423003 x423004 x423005)))
def grapevineref13_Take.j1 : Nat → List Int → Int → Bool → Int → Int → Int → Int → Int → Int → Option (Int × Int × Int × Int × Int × Int × (List (S43)) × (List (S62)) × Int)
 | 0, _, _, _, _, _, _, _, _, _ => none
 | k + 1, x0, x5, x50, x423000, x423001, x423002, x423003, x423004, x423005 => if x50 = true then (grapevineref13_Take.j2 k x0 3 x423000 x423001 x423002 x423003 x423004 x423005) else (grapevineref13_Take.j2 k x0 x5 x423000 x423001 x423002 x423003 x423004 x423005)
def grapevineref13_Take.j2 : Nat → List Int → Int → Int → Int → Int → Int → Int → Int → Option (Int × Int × Int × Int × Int × Int × (List (S43)) × (List (S62)) × Int)
 | 0, _, _, _, _, _, _, _, _ => none
 | k + 1, x0, x5, x423000, x423001, x423002, x423003, x423004, x423005 => grapevineref13_Take.l0 k x0 x5 (([] : List Int)) 1 0 x423000 x423001 x423002 x423003 x423004 x423005
def grapevineref13_Take.l0 : Nat → List Int → Int → List Int → Int → Int → Int → Int → Int → Int → Int → Int → Option (Int × Int × Int × Int × Int × Int × (List (S43)) × (List (S62)) × Int)
 | 0, _, _, _, _, _, _, _, _, _, _, _ => none
 | k + 1, x0, x5, x6, x7, x8, x423000, x423001, x423002, x423003, x423004, x423005 => if x8 < (wrap64 (x5 + 1)) then ((grapevineref13_upto.f k x0 x7 1099511627776).bind fun bt430 => (if bt430.2.2 = 0 then (if x6.length < 17592186044416 then (grapevineref13_Take.l0 k x0 x5 (x6 ++ [bt430.1]) bt430.2.1 (wrap64 (x8 + 1)) x423000 x423001 x423002 x423003 x423004 x423005) else (none)) else (some (0, 0, 0, 0, 0, 0, ([] : List (S43)), ([] : List (S62)), bt430.2.2)))) else (if 0 < (x6.length : Int) then ((grapevineref13_ranged.f x423000).bind fun t437 => (if t437 = true then (if 1 < (x6.length : Int) then (if 2 < (x6.length : Int) then (grapevineref13_Take.j4 k x0 x5 x6 x7 x423000 (rd x6 0) x423002 x423003 (rd x6 1) (rd x6 2)) else (none)) else (none)) else (if 1 < (x6.length : Int) then (if 2 < (x6.length : Int) then (grapevineref13_Take.j4 k x0 x5 x6 x7 x423000 (rd x6 0) (rd x6 1) (rd x6 2) x423004 x423005) else (none)) else (none)))) else (none))
def grapevineref13_Take.j4 : Nat → List Int → Int → List Int → Int → Int → Int → Int → Int → Int → Int → Option (Int × Int × Int × Int × Int × Int × (List (S43)) × (List (S62)) × Int)
 | 0, _, _, _, _, _, _, _, _, _, _ => none
 | k + 1, x0, x5, x6, x7, x423000, x423001, x423002, x423003, x423004, x423005 => if x5 = 3 then (if 3 < (x6.length : Int) then (grapevineref13_Take.j5 k x0 x7 x423000 x423001 x423002 x423003 (rd x6 3) x423005) else (none)) else (grapevineref13_Take.j5 k x0 x7 x423000 x423001 x423002 x423003 x423004 x423005)
def grapevineref13_Take.j5 : Nat → List Int → Int → Int → Int → Int → Int → Int → Int → Option (Int × Int × Int × Int × Int × Int × (List (S43)) × (List (S62)) × Int)
 | 0, _, _, _, _, _, _, _, _ => none
 | k + 1, x0, x7, x423000, x423001, x423002, x423003, x423004, x423005 => if x423000 = 1 then ((grapevineref08_Take.f k x0 x7).bind fun bt443 => (if bt443.2.2 = 0 then ((grapevineref13_upto.f k x0 bt443.2.1 8).bind fun bt448 => (if bt448.2.2 = 0 then (grapevineref13_Take.l1 k x0 bt448.2.1 bt448.1 0 x423000 x423001 x423002 x423003 x423004 x423005 bt443.1 ([] : List (S62))) else (some (0, 0, 0, 0, 0, 0, ([] : List (S43)), ([] : List (S62)), bt448.2.2)))) else (some (0, 0, 0, 0, 0, 0, ([] : List (S43)), ([] : List (S62)), bt443.2.2)))) else (grapevineref13_Take.j7 k x0 x7 x423000 x423001 x423002 x423003 x423004 x423005 ([] : List (S43)) ([] : List (S62)))
def grapevineref13_Take.j7 : Nat → List Int → Int → Int → Int → Int → Int → Int → Int → List (S43) → List (S62) → Option (Int × Int × Int × Int × Int × Int × (List (S43)) × (List (S62)) × Int)
 | 0, _, _, _, _, _, _, _, _, _, _ => none
 | k + 1, x0, x7, x423000, x423001, x423002, x423003, x423004, x423005, x423006, x423007 => if x7 = (x0.length : Int) then ((grapevineref13_Check.f k x423000 x423001 x423002 x423003 x423004 x423005 x423006 x423007).bind fun t462 => (if t462 = 0 then (some (x423000, x423001, x423002, x423003, x423004, x423005, x423006, x423007, 0)) else (some (0, 0, 0, 0, 0, 0, ([] : List (S43)), ([] : List (S62)), t462)))) else (some (0, 0, 0, 0, 0, 0, ([] : List (S43)), ([] : List (S62)), 4))
def grapevineref13_Take.l1 : Nat → List Int → Int → Int → Int → Int → Int → Int → Int → Int → Int → List (S43) → List (S62) → Option (Int × Int × Int × Int × Int × Int × (List (S43)) × (List (S62)) × Int)
 | 0, _, _, _, _, _, _, _, _, _, _, _, _ => none
 | k + 1, x0, x7, x15, x18, x423000, x423001, x423002, x423003, x423004, x423005, x423006, x423007 => if x18 < x15 then ((grapevineref13_item.f k x0 x7).bind fun bt451 => (if bt451.2.2.2.2 = 0 then (if x423007.length < 3518437208883 then (grapevineref13_Take.l1 k x0 bt451.2.2.2.1 x15 (wrap64 (x18 + 1)) x423000 x423001 x423002 x423003 x423004 x423005 x423006 (x423007 ++ [(⟨bt451.1, bt451.2.1, bt451.2.2.1⟩ : S62)])) else (none)) else (some (0, 0, 0, 0, 0, 0, ([] : List (S43)), ([] : List (S62)), bt451.2.2.2.2)))) else (grapevineref13_Take.j7 k x0 x7 x423000 x423001 x423002 x423003 x423004 x423005 x423006 x423007)
end
def grapevineref13_Take.f (k : Nat) (l0 : List Int) : Option (Int × Int × Int × Int × Int × Int × (List (S43)) × (List (S62)) × Int) := if (l0.length : Int) = 0 then (some (0, 0, 0, 0, 0, 0, ([] : List (S43)), ([] : List (S62)), 3)) else (if 0 < (l0.length : Int) then ((grapevineref13_ranged.f (wrap64 (rd l0 0))).bind fun t423 => (if t423 = true then (grapevineref13_Take.j0 k l0 false (wrap64 (rd l0 0)) 0 0 0 0 0) else ((grapevineref13_named.f (wrap64 (rd l0 0))).bind fun t424 => (grapevineref13_Take.j0 k l0 (!t424) (wrap64 (rd l0 0)) 0 0 0 0 0)))) else (none))
set_option maxHeartbeats 100000000 in
set_option maxRecDepth 100000 in
theorem grapevineref13_Take.calls (k : Nat) (A0 : Option Addr) (c0 : Nat) (l0 : List Int) (r1 : Int) (r2 : Int) (r3 : Int) (r4 : Int) (r5 : Int) (r6 : Int) (r7 : List (S43)) (r8 : List (S62)) (r9 : Int) (w : World) (hr0 : Kd.C (Kd.int .u8) w A0 l0.length l0) (hc0 : l0.length ≤ c0) (h : grapevineref13_Take.f k l0 = some (r1, r2, r3, r4, r5, r6, r7, r8, r9)) :
 Calls Try.prog 55 #[.slice A0 l0.length c0] w fun e w' => ∃ v6_ v7_ : Value, e = .returned (.tuple #[.agg #[.int .i64 r1, .int .i64 r2, .int .i64 r3, .int .i64 r4, .int .i64 r5, .int .i64 r6, v6_, v7_], .int .i64 r9]) ∧ Kd.R k43 43 w' w.heap.size (fun _ => True) v6_ r7 ∧ Kd.S k62 62 w' w.heap.size (fun _ => True) v7_ r8 ∧ Below w.heap.size w w' := by
 have hu51 := Try.underlying51
 have hu62 := Try.underlying62
 have HR0 := Aside0.mk hr0
 have HC0 := Aside0.mk hc0
 clear hr0 hc0
 have HB := Aside0.mk (Below.refl w.heap.size w)
 have H : (if (l0.length : Int) = 0 then (some (0, 0, 0, 0, 0, 0, ([] : List (S43)), ([] : List (S62)), 3)) else (if 0 < (l0.length : Int) then ((grapevineref13_ranged.f (wrap64 (rd l0 0))).bind fun t423 => (if t423 = true then (grapevineref13_Take.j0 k l0 false (wrap64 (rd l0 0)) 0 0 0 0 0) else ((grapevineref13_named.f (wrap64 (rd l0 0))).bind fun t424 => (grapevineref13_Take.j0 k l0 (!t424) (wrap64 (rd l0 0)) 0 0 0 0 0)))) else (none))) = some (r1, r2, r3, r4, r5, r6, r7, r8, r9) := h
 clear h
 by_cases c2 : (l0.length : Int) = 0
 ·
  rw [if_pos c2] at H
  have c2b0 : ((l0.length : Int) == 0) = true := beq_iff_eq.mpr c2
  have c2b1 : ((l0.length : Int) != 0) = false := bne_eq_false_iff_eq.mpr c2
  clear c2
  simp only [Option.some.injEq, Prod.mk.injEq] at H
  obtain ⟨rfl, rfl, rfl, rfl, rfl, rfl, rfl, rfl, rfl⟩ := H
  go_enter Try.func55, Try.ntmps55
  go_wp2_with (((with_reducible refine gate_dst (N := 2) rfl ?_); refine box_event ?hg (N := 2) ?hd (cs := #[.int .i64 0, .int .i64 0, .int .i64 0, .int .i64 0, .int .i64 0, .int .i64 0, .slice none 0 0, .slice none 0 0]) (t := 51) ?hr ?_; (case hd => rfl); (case hg => rfl); (case hr => (go_simp; done)); intro gb420 hg w3 hbox hb; have n0_ := Aside0.mk (below_step (by repeat (with_reducible exact HB.out)) hb); have n1_ := Aside0.mk (hbox); have n2_ := Aside0.mk ((by rw [hg]; exact (below_size (by repeat (with_reducible exact HB.out))) : w.heap.size ≤ gb420)); have n3_ := Aside0.mk ((by rw [hg]; exact (below_size (by repeat (with_reducible exact HB.out))) : w.heap.size ≤ gb420)); clear HB; have HB := n0_; have BK420 := n1_; have GW420 := n2_; have GE420 := n3_; clear n0_ n1_ n2_ n3_; clear hb hbox hg; obtain ⟨hcz4_0, hcz4_1, hcz4_2, hcz4_3, hcz4_4, hcz4_5, hcz4_6, hcz4_7, hfz4_0, hfz4_1, hfz4_2, hfz4_3, hfz4_4, hfz4_5, hfz4_6, hfz4_7⟩ := cz8 BK420.out))
  refine bodyPost_ret (results_ct rfl _ _ gb420 51 #[.int .i64 0, .int .i64 0, .int .i64 0, .int .i64 0, .int .i64 0, .int .i64 0, .slice none 0 0, .slice none 0 0] (0, 0) _ rfl (by refine blk_put (cs := #[.int .i64 0, .int .i64 0, .int .i64 0, .int .i64 0, .int .i64 0, .int .i64 0, .slice none 0 0, .slice none 0 0]) ?_ 7 _ rfl; refine blk_put (cs := #[.int .i64 0, .int .i64 0, .int .i64 0, .int .i64 0, .int .i64 0, .int .i64 0, .slice none 0 0, .slice none 0 0]) ?_ 6 _ rfl; refine blk_put (cs := #[.int .i64 0, .int .i64 0, .int .i64 0, .int .i64 0, .int .i64 0, .int .i64 0, .slice none 0 0, .slice none 0 0]) ?_ 5 _ rfl; refine blk_put (cs := #[.int .i64 0, .int .i64 0, .int .i64 0, .int .i64 0, .int .i64 0, .int .i64 0, .slice none 0 0, .slice none 0 0]) ?_ 4 _ rfl; refine blk_put (cs := #[.int .i64 0, .int .i64 0, .int .i64 0, .int .i64 0, .int .i64 0, .int .i64 0, .slice none 0 0, .slice none 0 0]) ?_ 3 _ rfl; refine blk_put (cs := #[.int .i64 0, .int .i64 0, .int .i64 0, .int .i64 0, .int .i64 0, .int .i64 0, .slice none 0 0, .slice none 0 0]) ?_ 2 _ rfl; refine blk_put (cs := #[.int .i64 0, .int .i64 0, .int .i64 0, .int .i64 0, .int .i64 0, .int .i64 0, .slice none 0 0, .slice none 0 0]) ?_ 1 _ rfl; refine blk_put (cs := #[.int .i64 0, .int .i64 0, .int .i64 0, .int .i64 0, .int .i64 0, .int .i64 0, .slice none 0 0, .slice none 0 0]) ?_ 0 _ rfl; exact BK420.out) Try.underlying51 rfl (by kernel_rfl)) rfl ?_
  exact ⟨_, _, by rfl, by exact Kd.R_nil _ _ _ _ _, by exact Kd.S_nil _ _ _ _ _, by repeat (with_reducible first | exact HB.out | refine below_set ?_ GE420.out)⟩
 rw [if_neg c2] at H
 have c2b0 : ((l0.length : Int) == 0) = false := beq_eq_false_iff_ne.mpr c2
 have c2b1 : ((l0.length : Int) != 0) = true := bne_iff_ne.mpr c2
 have c2b2 : ¬ (l0 = []) := fun h_ => c2 (by rw [h_]; rfl)
 by_cases c5 : 0 < (l0.length : Int)
 ·
  rw [if_pos c5] at H
  have c5b0 : decide (0 < (l0.length : Int)) = true := decide_eq_true c5
  have c5b1 : decide (0 < l0.length) = true := decide_eq_true (by omega)
  clear c5
  have HC6 := Aside0.mk H
  clear H
  go_enter Try.func55, Try.ntmps55
  go_upto_region 4 with (first | ((with_reducible refine gate_dst (N := 2) rfl ?_); refine box_event ?hg (N := 2) ?hd (cs := #[.int .i64 0, .int .i64 0, .int .i64 0, .int .i64 0, .int .i64 0, .int .i64 0, .slice none 0 0, .slice none 0 0]) (t := 51) ?hr ?_; (case hd => rfl); (case hg => rfl); (case hr => (go_simp; done)); intro gb420 hg w7 hbox hb; have n0_ := Aside0.mk (below_step (by repeat (with_reducible exact HB.out)) hb); have n1_ := Aside0.mk (hbox); have n2_ := Aside0.mk ((by rw [hg]; exact (below_size (by repeat (with_reducible exact HB.out))) : w.heap.size ≤ gb420)); have n3_ := Aside0.mk ((by rw [hg]; exact (below_size (by repeat (with_reducible exact HB.out))) : w.heap.size ≤ gb420)); clear HB; have HB := n0_; have BK420 := n1_; have GW420 := n2_; have GE420 := n3_; clear n0_ n1_ n2_ n3_; clear hb hbox hg; have p421 : 0 ≤ (0 : Int) := (by omega); have q421 : 0 < (l0.length : Int) := of_decide_eq_true (by (with_reducible assumption)); obtain ⟨ad421, e421, hx421_0⟩ := Kd.at_int HR0.out 0 p421 q421; cases e421; have qi421 : (0 < l0.length) = True := eq_true (by omega); (try rw [show (0 : Int).toNat = 0 from rfl] at hx421_0); (try rw [Addr.add_zero'] at hx421_0); replace hx421_0 := (HB.out.cell (World.block_lt_of_cell? w _ hx421_0)).trans hx421_0; replace p421 := eq_true p421; replace q421 := eq_true q421) | ((with_reducible refine gate_dst (N := 4) rfl ?_); refine box_event ?hg (N := 4) ?hd (cs := #[.int .i64 0, .int .i64 0, .int .i64 0, .int .i64 0, .int .i64 0, .int .i64 0, .slice none 0 0, .slice none 0 0]) (t := 51) ?hr ?_; (case hd => rfl); (case hg => rfl); (case hr => (go_simp; done)); intro gb422 hg w8 hbox hb; have n0_ := Aside0.mk (blk_below (g := gb420) (o := .cells #[.int .i64 0, .int .i64 0, .int .i64 0, .int .i64 0, .int .i64 0, .int .i64 0, .slice none 0 0, .slice none 0 0] 51 (0, 0)) (by exact BK420.out) hb); have n1_ := Aside0.mk (below_step (by repeat (with_reducible exact HB.out)) hb); have n2_ := Aside0.mk (hbox); have n3_ := Aside0.mk ((by rw [hg]; exact (below_size (by repeat (with_reducible exact HB.out))) : w.heap.size ≤ gb422)); have n4_ := Aside0.mk ((by rw [hg]; exact (below_size (by repeat (with_reducible exact HB.out))) : w.heap.size ≤ gb422)); have n5_ := Aside0.mk ((by rw [hg]; exact Nat.ne_of_lt (blk_lt (g := gb420) (o := .cells #[.int .i64 0, .int .i64 0, .int .i64 0, .int .i64 0, .int .i64 0, .int .i64 0, .slice none 0 0, .slice none 0 0] 51 (0, 0)) (by exact BK420.out)) : gb420 ≠ gb422)); have n6_ := Aside0.mk ((by rw [hg]; exact Nat.ne_of_gt (blk_lt (g := gb420) (o := .cells #[.int .i64 0, .int .i64 0, .int .i64 0, .int .i64 0, .int .i64 0, .int .i64 0, .slice none 0 0, .slice none 0 0] 51 (0, 0)) (by exact BK420.out)) : gb422 ≠ gb420)); clear BK420; clear HB; have BK420 := n0_; have HB := n1_; have BK422 := n2_; have GW422 := n3_; have GE422 := n4_; have NB420_422 := n5_; have NB422_420 := n6_; clear n0_ n1_ n2_ n3_ n4_ n5_ n6_; clear hb hbox hg; have hnb9 := NB422_420.out; have hnc9 := NB420_422.out; obtain ⟨hcz10_0, hcz10_1, hcz10_2, hcz10_3, hcz10_4, hcz10_5, hcz10_6, hcz10_7, hfz10_0, hfz10_1, hfz10_2, hfz10_3, hfz10_4, hfz10_5, hfz10_6, hfz10_7⟩ := cz8 BK422.out))
  (try simp only [Act.put, List.setIfInBounds_toArray, List.set_cons_zero, List.set_cons_succ])
  go_cut [41] (fun v41 wc => ∃ (kq : Nat) (x41_5 : Bool), v41 = .bool x41_5 ∧ Aside0 (grapevineref13_Take.j0 kq l0 x41_5 (wrap64 (rd l0 0)) 0 0 0 0 0 = some (r1, r2, r3, r4, r5, r6, r7, r8, r9)) ∧ Aside0 (kq ≤ k) ∧ Aside0 (wc.heap[gb420]? = some (.cells #[.int .i64 0, .int .i64 0, .int .i64 0, .int .i64 0, .int .i64 0, .int .i64 0, (.slice none 0 0), (.slice none 0 0)] 51 (0, 0))) ∧ Aside0 (wc.heap[gb422]? = some (.cells #[.int .i64 (wrap64 (rd l0 0)), .int .i64 0, .int .i64 0, .int .i64 0, .int .i64 0, .int .i64 0, (.slice none 0 0), (.slice none 0 0)] 51 (0, 0))) ∧ Aside0 (Below w.heap.size w wc))
  case first =>
   have H := HC6.out
   clear HC6
   replace H := Option.bind_eq_some_iff.mp H
   obtain ⟨t423, A110, H⟩ := H
   replace H : (if t423 = true then (grapevineref13_Take.j0 k l0 false (wrap64 (rd l0 0)) 0 0 0 0 0) else ((grapevineref13_named.f (wrap64 (rd l0 0))).bind fun t424 => (grapevineref13_Take.j0 k l0 (!t424) (wrap64 (rd l0 0)) 0 0 0 0 0))) = some (r1, r2, r3, r4, r5, r6, r7, r8, r9) := H
   have A11 := Aside0.mk A110
   clear A110
   by_cases c12 : t423 = true
   ·
    subst c12
    have H1 : (grapevineref13_Take.j0 k l0 false (wrap64 (rd l0 0)) 0 0 0 0 0) = some (r1, r2, r3, r4, r5, r6, r7, r8, r9) := by rw [if_pos rfl] at H; exact H
    clear H
    have H := H1
    clear H1
    have H' := Aside0.mk H
    clear H
    have hnb13 := NB422_420.out
    have hnc13 := NB420_422.out
    obtain ⟨hcz14_0, hcz14_1, hcz14_2, hcz14_3, hcz14_4, hcz14_5, hcz14_6, hcz14_7, hfz14_0, hfz14_1, hfz14_2, hfz14_3, hfz14_4, hfz14_5, hfz14_6, hfz14_7⟩ := cz8 BK422.out
    go_wp2_with (((with_reducible refine gate_callee (f := 68) rfl ?_); refine goesL_ (some 34) rfl rfl Try.func68 (by kernel_rfl) rfl #[.int .i64 (wrap64 (rd l0 0))] rfl (by (try simp only [List.map_toArray, List.map_cons, List.map_nil]); rfl) ?_; (with_reducible refine (grapevineref13_ranged.calls (wrap64 (rd l0 0)) true _ A11.out).mono ?_); rintro e w' ⟨rfl, ⟨nd, rfl⟩⟩; refine ⟨_, rfl, ?_⟩))
    go_meet
    case rel => exact ⟨_, (false), (by rfl), H', ⟨by omega⟩, ⟨by (with_reducible repeat (refine blk_drewN ?_ _)); refine blk_far ?_ NB420_422.out _; refine blk_far ?_ NB420_422.out _; refine blk_far ?_ NB420_422.out _; refine blk_far ?_ NB420_422.out _; refine blk_far ?_ NB420_422.out _; refine blk_far ?_ NB420_422.out _; refine blk_far ?_ NB420_422.out _; refine blk_far ?_ NB420_422.out _; exact BK420.out⟩, ⟨by (with_reducible repeat (refine blk_drewN ?_ _)); refine blk_put (cs := #[.int .i64 (wrap64 (rd l0 0)), .int .i64 0, .int .i64 0, .int .i64 0, .int .i64 0, .int .i64 0, .slice none 0 0, .slice none 0 0]) ?_ 7 _ rfl; refine blk_put (cs := #[.int .i64 (wrap64 (rd l0 0)), .int .i64 0, .int .i64 0, .int .i64 0, .int .i64 0, .int .i64 0, .slice none 0 0, .slice none 0 0]) ?_ 6 _ rfl; refine blk_put (cs := #[.int .i64 (wrap64 (rd l0 0)), .int .i64 0, .int .i64 0, .int .i64 0, .int .i64 0, .int .i64 0, .slice none 0 0, .slice none 0 0]) ?_ 5 _ rfl; refine blk_put (cs := #[.int .i64 (wrap64 (rd l0 0)), .int .i64 0, .int .i64 0, .int .i64 0, .int .i64 0, .int .i64 0, .slice none 0 0, .slice none 0 0]) ?_ 4 _ rfl; refine blk_put (cs := #[.int .i64 (wrap64 (rd l0 0)), .int .i64 0, .int .i64 0, .int .i64 0, .int .i64 0, .int .i64 0, .slice none 0 0, .slice none 0 0]) ?_ 3 _ rfl; refine blk_put (cs := #[.int .i64 (wrap64 (rd l0 0)), .int .i64 0, .int .i64 0, .int .i64 0, .int .i64 0, .int .i64 0, .slice none 0 0, .slice none 0 0]) ?_ 2 _ rfl; refine blk_put (cs := #[.int .i64 (wrap64 (rd l0 0)), .int .i64 0, .int .i64 0, .int .i64 0, .int .i64 0, .int .i64 0, .slice none 0 0, .slice none 0 0]) ?_ 1 _ rfl; refine blk_put (cs := #[.int .i64 0, .int .i64 0, .int .i64 0, .int .i64 0, .int .i64 0, .int .i64 0, .slice none 0 0, .slice none 0 0]) ?_ 0 _ rfl; exact BK422.out⟩, ⟨by repeat (with_reducible first | exact HB.out | apply pw_below_drewN | refine below_set ?_ GE422.out)⟩⟩
   replace c12 := Bool.eq_false_iff.mpr c12
   subst c12
   have H1 : ((grapevineref13_named.f (wrap64 (rd l0 0))).bind fun t424 => (grapevineref13_Take.j0 k l0 (!t424) (wrap64 (rd l0 0)) 0 0 0 0 0)) = some (r1, r2, r3, r4, r5, r6, r7, r8, r9) := by rw [if_neg (show ¬ (false = true) by decide)] at H; exact H
   clear H
   have H := H1
   clear H1
   replace H := Option.bind_eq_some_iff.mp H
   obtain ⟨t424, A150, H⟩ := H
   replace H : (grapevineref13_Take.j0 k l0 (!t424) (wrap64 (rd l0 0)) 0 0 0 0 0) = some (r1, r2, r3, r4, r5, r6, r7, r8, r9) := H
   have A15 := Aside0.mk A150
   clear A150
   have H' := Aside0.mk H
   clear H
   have hnb16 := NB422_420.out
   have hnc16 := NB420_422.out
   obtain ⟨hcz17_0, hcz17_1, hcz17_2, hcz17_3, hcz17_4, hcz17_5, hcz17_6, hcz17_7, hfz17_0, hfz17_1, hfz17_2, hfz17_3, hfz17_4, hfz17_5, hfz17_6, hfz17_7⟩ := cz8 BK422.out
   go_wp2_with (first | ((with_reducible refine gate_callee (f := 68) rfl ?_); refine goesL_ (some 34) rfl rfl Try.func68 (by kernel_rfl) rfl #[.int .i64 (wrap64 (rd l0 0))] rfl (by (try simp only [List.map_toArray, List.map_cons, List.map_nil]); rfl) ?_; (with_reducible refine (grapevineref13_ranged.calls (wrap64 (rd l0 0)) false _ A11.out).mono ?_); rintro e w' ⟨rfl, ⟨nd, rfl⟩⟩; refine ⟨_, rfl, ?_⟩) | (go_at_call 69; (with_reducible refine (grapevineref13_named.calls (wrap64 (rd l0 0)) t424 _ A15.out).mono ?_); rintro e w' ⟨rfl, ⟨nd, rfl⟩⟩))
   go_meet
   case rel => exact ⟨_, (!t424), (by rfl), H', ⟨by omega⟩, ⟨by (with_reducible repeat (refine blk_drewN ?_ _)); refine blk_far ?_ NB420_422.out _; refine blk_far ?_ NB420_422.out _; refine blk_far ?_ NB420_422.out _; refine blk_far ?_ NB420_422.out _; refine blk_far ?_ NB420_422.out _; refine blk_far ?_ NB420_422.out _; refine blk_far ?_ NB420_422.out _; refine blk_far ?_ NB420_422.out _; exact BK420.out⟩, ⟨by (with_reducible repeat (refine blk_drewN ?_ _)); refine blk_put (cs := #[.int .i64 (wrap64 (rd l0 0)), .int .i64 0, .int .i64 0, .int .i64 0, .int .i64 0, .int .i64 0, .slice none 0 0, .slice none 0 0]) ?_ 7 _ rfl; refine blk_put (cs := #[.int .i64 (wrap64 (rd l0 0)), .int .i64 0, .int .i64 0, .int .i64 0, .int .i64 0, .int .i64 0, .slice none 0 0, .slice none 0 0]) ?_ 6 _ rfl; refine blk_put (cs := #[.int .i64 (wrap64 (rd l0 0)), .int .i64 0, .int .i64 0, .int .i64 0, .int .i64 0, .int .i64 0, .slice none 0 0, .slice none 0 0]) ?_ 5 _ rfl; refine blk_put (cs := #[.int .i64 (wrap64 (rd l0 0)), .int .i64 0, .int .i64 0, .int .i64 0, .int .i64 0, .int .i64 0, .slice none 0 0, .slice none 0 0]) ?_ 4 _ rfl; refine blk_put (cs := #[.int .i64 (wrap64 (rd l0 0)), .int .i64 0, .int .i64 0, .int .i64 0, .int .i64 0, .int .i64 0, .slice none 0 0, .slice none 0 0]) ?_ 3 _ rfl; refine blk_put (cs := #[.int .i64 (wrap64 (rd l0 0)), .int .i64 0, .int .i64 0, .int .i64 0, .int .i64 0, .int .i64 0, .slice none 0 0, .slice none 0 0]) ?_ 2 _ rfl; refine blk_put (cs := #[.int .i64 (wrap64 (rd l0 0)), .int .i64 0, .int .i64 0, .int .i64 0, .int .i64 0, .int .i64 0, .slice none 0 0, .slice none 0 0]) ?_ 1 _ rfl; refine blk_put (cs := #[.int .i64 0, .int .i64 0, .int .i64 0, .int .i64 0, .int .i64 0, .int .i64 0, .slice none 0 0, .slice none 0 0]) ?_ 0 _ rfl; exact BK422.out⟩, ⟨by repeat (with_reducible first | exact HB.out | apply pw_below_drewN | refine below_set ?_ GE422.out)⟩⟩
  case rest =>
  clear HC6
  skip
  try clear c2
  try clear c2b0
  try clear c2b1
  try clear c2b2
  skip
  skip
  skip
  skip
  skip
  skip
  try clear c5b0
  try clear c5b1
  skip
  skip
  skip
  skip
  skip
  skip
  try clear hcz10_0
  try clear hcz10_1
  try clear hcz10_2
  try clear hcz10_3
  try clear hcz10_4
  try clear hcz10_5
  try clear hcz10_6
  try clear hcz10_7
  skip
  skip
  skip
  skip
  skip
  skip
  skip
  skip
  skip
  skip
  skip
  skip
  skip
  skip
  skip
  skip
  skip
  skip
  skip
  skip
  skip
  skip
  skip
  skip
  try clear hfz10_0
  try clear hfz10_1
  try clear hfz10_2
  try clear hfz10_3
  try clear hfz10_4
  try clear hfz10_5
  try clear hfz10_6
  try clear hfz10_7
  skip
  skip
  skip
  skip
  skip
  skip
  skip
  skip
  skip
  skip
  skip
  skip
  skip
  skip
  skip
  skip
  skip
  skip
  skip
  skip
  skip
  skip
  skip
  skip
  try clear hx421_0
  try clear p421
  try clear q421
  obtain ⟨kq, x41_5, rfl, HA, HJ5, BK420, BK422, HB⟩ := hcut
  cases kq with
  | zero => exact absurd HA.out (by simp [grapevineref13_Take.j0])
  | succ kj5 =>
  have H := HA.out
  clear HA
  simp only [grapevineref13_Take.j0] at H
  by_cases c18 : x41_5 = true
  ·
   subst c18
   have H1 : (some (0, 0, 0, 0, 0, 0, ([] : List (S43)), ([] : List (S62)), 12)) = some (r1, r2, r3, r4, r5, r6, r7, r8, r9) := by rw [if_pos rfl] at H; exact H
   clear H
   have H := H1
   clear H1
   simp only [Option.some.injEq, Prod.mk.injEq] at H
   obtain ⟨rfl, rfl, rfl, rfl, rfl, rfl, rfl, rfl, rfl⟩ := H
   have hnb19 := NB420_422.out
   have hnc19 := NB422_420.out
   obtain ⟨hcz20_0, hcz20_1, hcz20_2, hcz20_3, hcz20_4, hcz20_5, hcz20_6, hcz20_7, hfz20_0, hfz20_1, hfz20_2, hfz20_3, hfz20_4, hfz20_5, hfz20_6, hfz20_7⟩ := cz8 BK420.out
   go_wp2
   refine bodyPost_ret (results_ct rfl _ _ gb420 51 #[.int .i64 0, .int .i64 0, .int .i64 0, .int .i64 0, .int .i64 0, .int .i64 0, .slice none 0 0, .slice none 0 0] (0, 0) _ rfl (by refine blk_put (cs := #[.int .i64 0, .int .i64 0, .int .i64 0, .int .i64 0, .int .i64 0, .int .i64 0, .slice none 0 0, .slice none 0 0]) ?_ 7 _ rfl; refine blk_put (cs := #[.int .i64 0, .int .i64 0, .int .i64 0, .int .i64 0, .int .i64 0, .int .i64 0, .slice none 0 0, .slice none 0 0]) ?_ 6 _ rfl; refine blk_put (cs := #[.int .i64 0, .int .i64 0, .int .i64 0, .int .i64 0, .int .i64 0, .int .i64 0, .slice none 0 0, .slice none 0 0]) ?_ 5 _ rfl; refine blk_put (cs := #[.int .i64 0, .int .i64 0, .int .i64 0, .int .i64 0, .int .i64 0, .int .i64 0, .slice none 0 0, .slice none 0 0]) ?_ 4 _ rfl; refine blk_put (cs := #[.int .i64 0, .int .i64 0, .int .i64 0, .int .i64 0, .int .i64 0, .int .i64 0, .slice none 0 0, .slice none 0 0]) ?_ 3 _ rfl; refine blk_put (cs := #[.int .i64 0, .int .i64 0, .int .i64 0, .int .i64 0, .int .i64 0, .int .i64 0, .slice none 0 0, .slice none 0 0]) ?_ 2 _ rfl; refine blk_put (cs := #[.int .i64 0, .int .i64 0, .int .i64 0, .int .i64 0, .int .i64 0, .int .i64 0, .slice none 0 0, .slice none 0 0]) ?_ 1 _ rfl; refine blk_put (cs := #[.int .i64 0, .int .i64 0, .int .i64 0, .int .i64 0, .int .i64 0, .int .i64 0, .slice none 0 0, .slice none 0 0]) ?_ 0 _ rfl; exact BK420.out) Try.underlying51 rfl (by kernel_rfl)) rfl ?_
   exact ⟨_, _, by rfl, by exact Kd.R_nil _ _ _ _ _, by exact Kd.S_nil _ _ _ _ _, by repeat (with_reducible first | exact HB.out | apply pw_below_drewN | refine below_set ?_ GE420.out | refine below_set ?_ GE422.out)⟩
  replace c18 := Bool.eq_false_iff.mpr c18
  subst c18
  have H1 : ((grapevineref13_named.f (wrap64 (rd l0 0))).bind fun t425 => (if t425 = true then ((grapevineref13_from.f (wrap64 (rd l0 0))).bind fun t426 => (grapevineref13_Take.j1 kj5 l0 2 t426 (wrap64 (rd l0 0)) 0 0 0 0 0)) else (grapevineref13_Take.j1 kj5 l0 2 false (wrap64 (rd l0 0)) 0 0 0 0 0))) = some (r1, r2, r3, r4, r5, r6, r7, r8, r9) := by rw [if_neg (show ¬ (false = true) by decide)] at H; exact H
  clear H
  have H := H1
  clear H1
  have HC21 := Aside0.mk H
  clear H
  go_upto_region 7 with (fail)
  go_cut [50] (fun v50 wc => ∃ (kq : Nat) (x50_20 : Bool), v50 = .bool x50_20 ∧ Aside0 (grapevineref13_Take.j1 kq l0 2 x50_20 (wrap64 (rd l0 0)) 0 0 0 0 0 = some (r1, r2, r3, r4, r5, r6, r7, r8, r9)) ∧ Aside0 (kq ≤ kj5) ∧ Aside0 (wc.heap[gb420]? = some (.cells #[.int .i64 0, .int .i64 0, .int .i64 0, .int .i64 0, .int .i64 0, .int .i64 0, (.slice none 0 0), (.slice none 0 0)] 51 (0, 0))) ∧ Aside0 (wc.heap[gb422]? = some (.cells #[.int .i64 (wrap64 (rd l0 0)), .int .i64 0, .int .i64 0, .int .i64 0, .int .i64 0, .int .i64 0, (.slice none 0 0), (.slice none 0 0)] 51 (0, 0))) ∧ Aside0 (Below w.heap.size w wc))
  case first =>
   have H := HC21.out
   clear HC21
   replace H := Option.bind_eq_some_iff.mp H
   obtain ⟨t425, A220, H⟩ := H
   replace H : (if t425 = true then ((grapevineref13_from.f (wrap64 (rd l0 0))).bind fun t426 => (grapevineref13_Take.j1 kj5 l0 2 t426 (wrap64 (rd l0 0)) 0 0 0 0 0)) else (grapevineref13_Take.j1 kj5 l0 2 false (wrap64 (rd l0 0)) 0 0 0 0 0)) = some (r1, r2, r3, r4, r5, r6, r7, r8, r9) := H
   have A22 := Aside0.mk A220
   clear A220
   by_cases c23 : t425 = true
   ·
    subst c23
    have H1 : ((grapevineref13_from.f (wrap64 (rd l0 0))).bind fun t426 => (grapevineref13_Take.j1 kj5 l0 2 t426 (wrap64 (rd l0 0)) 0 0 0 0 0)) = some (r1, r2, r3, r4, r5, r6, r7, r8, r9) := by rw [if_pos rfl] at H; exact H
    clear H
    have H := H1
    clear H1
    replace H := Option.bind_eq_some_iff.mp H
    obtain ⟨t426, A240, H⟩ := H
    replace H : (grapevineref13_Take.j1 kj5 l0 2 t426 (wrap64 (rd l0 0)) 0 0 0 0 0) = some (r1, r2, r3, r4, r5, r6, r7, r8, r9) := H
    have A24 := Aside0.mk A240
    clear A240
    have H' := Aside0.mk H
    clear H
    have hnb25 := NB422_420.out
    have hnc25 := NB420_422.out
    obtain ⟨hcz26_0, hcz26_1, hcz26_2, hcz26_3, hcz26_4, hcz26_5, hcz26_6, hcz26_7, hfz26_0, hfz26_1, hfz26_2, hfz26_3, hfz26_4, hfz26_5, hfz26_6, hfz26_7⟩ := cz8 BK422.out
    go_wp2_with (first | ((with_reducible refine gate_callee (f := 69) rfl ?_); refine goesL_ (some 45) rfl rfl Try.func69 (by kernel_rfl) rfl #[.int .i64 (wrap64 (rd l0 0))] rfl (by (try simp only [List.map_toArray, List.map_cons, List.map_nil]); rfl) ?_; (with_reducible refine (grapevineref13_named.calls (wrap64 (rd l0 0)) true _ A22.out).mono ?_); rintro e w' ⟨rfl, ⟨nd, rfl⟩⟩; refine ⟨_, rfl, ?_⟩) | (go_at_call 70; (with_reducible refine (grapevineref13_from.calls (wrap64 (rd l0 0)) t426 _ A24.out).mono ?_); rintro e w' ⟨rfl, ⟨nd, rfl⟩⟩))
    go_meet
    case rel => exact ⟨_, (t426), (by rfl), H', ⟨by have := HJ5.out; omega⟩, ⟨by (with_reducible repeat (refine blk_drewN ?_ _)); exact BK420.out⟩, ⟨by (with_reducible repeat (refine blk_drewN ?_ _)); exact BK422.out⟩, ⟨by repeat (with_reducible first | exact HB.out | apply pw_below_drewN)⟩⟩
   replace c23 := Bool.eq_false_iff.mpr c23
   subst c23
   have H1 : (grapevineref13_Take.j1 kj5 l0 2 false (wrap64 (rd l0 0)) 0 0 0 0 0) = some (r1, r2, r3, r4, r5, r6, r7, r8, r9) := by rw [if_neg (show ¬ (false = true) by decide)] at H; exact H
   clear H
   have H := H1
   clear H1
   have H' := Aside0.mk H
   clear H
   have hnb27 := NB422_420.out
   have hnc27 := NB420_422.out
   obtain ⟨hcz28_0, hcz28_1, hcz28_2, hcz28_3, hcz28_4, hcz28_5, hcz28_6, hcz28_7, hfz28_0, hfz28_1, hfz28_2, hfz28_3, hfz28_4, hfz28_5, hfz28_6, hfz28_7⟩ := cz8 BK422.out
   go_wp2_with (((with_reducible refine gate_callee (f := 69) rfl ?_); refine goesL_ (some 45) rfl rfl Try.func69 (by kernel_rfl) rfl #[.int .i64 (wrap64 (rd l0 0))] rfl (by (try simp only [List.map_toArray, List.map_cons, List.map_nil]); rfl) ?_; (with_reducible refine (grapevineref13_named.calls (wrap64 (rd l0 0)) false _ A22.out).mono ?_); rintro e w' ⟨rfl, ⟨nd, rfl⟩⟩; refine ⟨_, rfl, ?_⟩))
   go_meet
   case rel => exact ⟨_, (false), (by rfl), H', ⟨by have := HJ5.out; omega⟩, ⟨by (with_reducible repeat (refine blk_drewN ?_ _)); exact BK420.out⟩, ⟨by (with_reducible repeat (refine blk_drewN ?_ _)); exact BK422.out⟩, ⟨by repeat (with_reducible first | exact HB.out | apply pw_below_drewN)⟩⟩
  case rest =>
  clear HC21
  skip
  try clear c2
  try clear c2b0
  try clear c2b1
  try clear c2b2
  skip
  skip
  skip
  skip
  skip
  skip
  try clear c5b0
  try clear c5b1
  skip
  skip
  skip
  skip
  skip
  skip
  skip
  skip
  skip
  skip
  skip
  try clear hcz10_0
  try clear hcz10_1
  try clear hcz10_2
  try clear hcz10_3
  try clear hcz10_4
  try clear hcz10_5
  try clear hcz10_6
  try clear hcz10_7
  skip
  skip
  skip
  skip
  skip
  skip
  skip
  skip
  skip
  skip
  skip
  skip
  skip
  skip
  skip
  skip
  skip
  skip
  skip
  skip
  skip
  skip
  skip
  skip
  skip
  skip
  skip
  skip
  skip
  skip
  skip
  skip
  skip
  skip
  skip
  skip
  skip
  skip
  skip
  skip
  skip
  skip
  skip
  skip
  skip
  skip
  skip
  skip
  try clear hfz10_0
  try clear hfz10_1
  try clear hfz10_2
  try clear hfz10_3
  try clear hfz10_4
  try clear hfz10_5
  try clear hfz10_6
  try clear hfz10_7
  skip
  skip
  skip
  skip
  skip
  skip
  skip
  skip
  skip
  skip
  skip
  skip
  skip
  skip
  skip
  skip
  skip
  skip
  skip
  skip
  skip
  skip
  skip
  skip
  skip
  skip
  skip
  skip
  skip
  skip
  skip
  skip
  skip
  skip
  skip
  skip
  skip
  skip
  skip
  skip
  skip
  skip
  skip
  skip
  skip
  skip
  skip
  skip
  try clear hx421_0
  skip
  skip
  try clear p421
  skip
  skip
  try clear q421
  obtain ⟨kq, x50_20, rfl, HA, HJ20, BK420, BK422, HB⟩ := hcut
  cases kq with
  | zero => exact absurd HA.out (by simp [grapevineref13_Take.j1])
  | succ kj20 =>
  have H := HA.out
  clear HA
  simp only [grapevineref13_Take.j1] at H
  have HC29 := Aside0.mk H
  clear H
  go_upto_if 50 with (fail)
  go_cut [5] (fun v5 wc => ∃ (kq : Nat) (x5_28 : Int), v5 = .int .i64 x5_28 ∧ Aside0 (grapevineref13_Take.j2 kq l0 x5_28 (wrap64 (rd l0 0)) 0 0 0 0 0 = some (r1, r2, r3, r4, r5, r6, r7, r8, r9)) ∧ Aside0 (kq ≤ kj20) ∧ Aside0 (wc.heap[gb420]? = some (.cells #[.int .i64 0, .int .i64 0, .int .i64 0, .int .i64 0, .int .i64 0, .int .i64 0, (.slice none 0 0), (.slice none 0 0)] 51 (0, 0))) ∧ Aside0 (wc.heap[gb422]? = some (.cells #[.int .i64 (wrap64 (rd l0 0)), .int .i64 0, .int .i64 0, .int .i64 0, .int .i64 0, .int .i64 0, (.slice none 0 0), (.slice none 0 0)] 51 (0, 0))) ∧ Aside0 (Below w.heap.size w wc))
  case first =>
   have H := HC29.out
   clear HC29
   by_cases c30 : x50_20 = true
   ·
    subst c30
    have H1 : (grapevineref13_Take.j2 kj20 l0 3 (wrap64 (rd l0 0)) 0 0 0 0 0) = some (r1, r2, r3, r4, r5, r6, r7, r8, r9) := by rw [if_pos rfl] at H; exact H
    clear H
    have H := H1
    clear H1
    have H' := Aside0.mk H
    clear H
    go_wp2
    go_meet
    case rel => exact ⟨_, (3), (by rfl), H', ⟨by have := HJ5.out; have := HJ20.out; omega⟩, ⟨by exact BK420.out⟩, ⟨by exact BK422.out⟩, ⟨by repeat (with_reducible exact HB.out)⟩⟩
   replace c30 := Bool.eq_false_iff.mpr c30
   subst c30
   have H1 : (grapevineref13_Take.j2 kj20 l0 2 (wrap64 (rd l0 0)) 0 0 0 0 0) = some (r1, r2, r3, r4, r5, r6, r7, r8, r9) := by rw [if_neg (show ¬ (false = true) by decide)] at H; exact H
   clear H
   have H := H1
   clear H1
   have H' := Aside0.mk H
   clear H
   go_wp2
   go_meet
   case rel => exact ⟨_, (2), (by rfl), H', ⟨by have := HJ5.out; have := HJ20.out; omega⟩, ⟨by exact BK420.out⟩, ⟨by exact BK422.out⟩, ⟨by repeat (with_reducible exact HB.out)⟩⟩
  case rest =>
  clear HC29
  skip
  try clear c2
  try clear c2b0
  try clear c2b1
  try clear c2b2
  skip
  skip
  skip
  skip
  skip
  skip
  skip
  try clear c5b0
  try clear c5b1
  skip
  skip
  skip
  skip
  skip
  skip
  skip
  skip
  skip
  skip
  skip
  skip
  try clear hcz10_0
  try clear hcz10_1
  try clear hcz10_2
  try clear hcz10_3
  try clear hcz10_4
  try clear hcz10_5
  try clear hcz10_6
  try clear hcz10_7
  skip
  skip
  skip
  skip
  skip
  skip
  skip
  skip
  skip
  skip
  skip
  skip
  skip
  skip
  skip
  skip
  skip
  skip
  skip
  skip
  skip
  skip
  skip
  skip
  skip
  skip
  skip
  skip
  skip
  skip
  skip
  skip
  skip
  skip
  skip
  skip
  skip
  skip
  skip
  skip
  skip
  skip
  skip
  skip
  skip
  skip
  skip
  skip
  try clear hfz10_0
  try clear hfz10_1
  try clear hfz10_2
  try clear hfz10_3
  try clear hfz10_4
  try clear hfz10_5
  try clear hfz10_6
  try clear hfz10_7
  skip
  skip
  skip
  skip
  skip
  skip
  skip
  skip
  skip
  skip
  skip
  skip
  skip
  skip
  skip
  skip
  skip
  skip
  skip
  skip
  skip
  skip
  skip
  skip
  skip
  skip
  skip
  skip
  skip
  skip
  skip
  skip
  skip
  skip
  skip
  skip
  skip
  skip
  skip
  skip
  skip
  skip
  skip
  skip
  skip
  skip
  skip
  skip
  try clear hx421_0
  skip
  skip
  try clear p421
  skip
  skip
  try clear q421
  obtain ⟨kq, x5_28, rfl, HA, HJ28, BK420, BK422, HB⟩ := hcut
  cases kq with
  | zero => exact absurd HA.out (by simp [grapevineref13_Take.j2])
  | succ kj28 =>
  have H := HA.out
  clear HA
  simp only [grapevineref13_Take.j2] at H
  obtain ⟨y427, hy427⟩ : ∃ y_ : List Int, y_ = (([] : List Int)) := ⟨_, rfl⟩
  replace H : (grapevineref13_Take.l0 kj28 l0 x5_28 y427 1 0 (wrap64 (rd l0 0)) 0 0 0 0 0) = some (r1, r2, r3, r4, r5, r6, r7, r8, r9) := by (rw [hy427]; with_reducible exact H)
  have Ny427 := Aside0.mk hy427
  clear hy427
  have H' := Aside0.mk H
  clear H
  go_wp2_with (((with_reducible refine gate_dst (N := 51) rfl ?_); refine Kd.R_lit (Kd.int .i64) _ 3 ?hg (N := 51) ?hd (xs := ([] : List Int)) (inner := []) (ok := fun _ => True) (okp := fun _ => True) ?hr ?hp (fun _ hk => hk) trivial (Below.refl _ _) (Nat.le_refl _) (by simp) ?_; (case hd => rfl); (case hg => rfl); (case hr => (go_simp; done)); (case hp => exact (Reps.none _ _)); intro v428 w31 ho32 hb hg_ hnew_; clear hg_ hnew_; (rw [← Ny427.out] at ho32); have n0_ := Aside0.mk (Kd.R_lower ho32 (below_size (by repeat (with_reducible exact HB.out)))); have n1_ := Aside0.mk (blk_below (g := gb420) (o := .cells #[.int .i64 0, .int .i64 0, .int .i64 0, .int .i64 0, .int .i64 0, .int .i64 0, .slice none 0 0, .slice none 0 0] 51 (0, 0)) (by exact BK420.out) hb); have n2_ := Aside0.mk (blk_below (g := gb422) (o := .cells #[.int .i64 (wrap64 (rd l0 0)), .int .i64 0, .int .i64 0, .int .i64 0, .int .i64 0, .int .i64 0, .slice none 0 0, .slice none 0 0] 51 (0, 0)) (by exact BK422.out) hb); have n3_ := Aside0.mk (below_step (by repeat (with_reducible exact HB.out)) hb); clear BK420; clear BK422; clear HB; have HO429 := n0_; have BK420 := n1_; have BK422 := n2_; have HB := n3_; clear n0_ n1_ n2_ n3_; clear hb ho32))
  go_loopg [6, 7, 8] kj28 (fun kq v6 v7 v8 w' => ∃ (x6_4 : List Int) (x7_4 : Int) (x8_4 : Int) (x421000_4 : Int) (x421001_4 : Int) (x421002_4 : Int) (x421003_4 : Int) (x421004_4 : Int) (x421005_4 : Int), v7 = .int .i64 x7_4 ∧ v8 = .int .i64 x8_4 ∧ Aside0 (grapevineref13_Take.l0 kq l0 x5_28 x6_4 x7_4 x8_4 (wrap64 (rd l0 0)) 0 0 0 0 0 = some (r1, r2, r3, r4, r5, r6, r7, r8, r9)) ∧ Aside0 (kq ≤ kj28) ∧ Aside0 (Kd.R (Kd.int .i64) 3 w' w.heap.size (fun _ => True) v6 x6_4) ∧ Aside0 (w'.heap[gb420]? = some (.cells #[.int .i64 x421000_4, .int .i64 x421001_4, .int .i64 x421002_4, .int .i64 x421003_4, .int .i64 x421004_4, .int .i64 x421005_4, (.slice none 0 0), (.slice none 0 0)] 51 (0, 0))) ∧ Aside0 (w'.heap[gb422]? = some (.cells #[.int .i64 (wrap64 (rd l0 0)), .int .i64 0, .int .i64 0, .int .i64 0, .int .i64 0, .int .i64 0, (.slice none 0 0), (.slice none 0 0)] 51 (0, 0))) ∧ Aside0 (Below w.heap.size w w'))
  case atStart => exact ⟨(y427), (1), (0), (0), (0), (0), (0), (0), (0), (by rfl), (by rfl), H', ⟨Nat.le_refl _⟩, ⟨by exact HO429.out⟩, ⟨by exact BK420.out⟩, ⟨by exact BK422.out⟩, ⟨by repeat (with_reducible exact HB.out)⟩⟩
  case round =>
  clear H'
  skip
  try clear c2
  try clear c2b0
  try clear c2b1
  try clear c2b2
  skip
  skip
  skip
  skip
  skip
  skip
  skip
  try clear c5b0
  try clear c5b1
  skip
  skip
  skip
  skip
  skip
  skip
  skip
  skip
  skip
  skip
  skip
  skip
  try clear hcz10_0
  try clear hcz10_1
  try clear hcz10_2
  try clear hcz10_3
  try clear hcz10_4
  try clear hcz10_5
  try clear hcz10_6
  try clear hcz10_7
  skip
  skip
  skip
  skip
  skip
  skip
  skip
  skip
  skip
  skip
  skip
  skip
  skip
  skip
  skip
  skip
  skip
  skip
  skip
  skip
  skip
  skip
  skip
  skip
  skip
  skip
  skip
  skip
  skip
  skip
  skip
  skip
  skip
  skip
  skip
  skip
  skip
  skip
  skip
  skip
  skip
  skip
  skip
  skip
  skip
  skip
  skip
  skip
  try clear hfz10_0
  try clear hfz10_1
  try clear hfz10_2
  try clear hfz10_3
  try clear hfz10_4
  try clear hfz10_5
  try clear hfz10_6
  try clear hfz10_7
  skip
  skip
  skip
  skip
  skip
  skip
  skip
  skip
  skip
  skip
  skip
  skip
  skip
  skip
  skip
  skip
  skip
  skip
  skip
  skip
  skip
  skip
  skip
  skip
  skip
  skip
  skip
  skip
  skip
  skip
  skip
  skip
  skip
  skip
  skip
  skip
  skip
  skip
  skip
  skip
  skip
  skip
  skip
  skip
  skip
  skip
  skip
  skip
  try clear hx421_0
  skip
  skip
  try clear p421
  skip
  skip
  try clear q421
  obtain ⟨x6_4, x7_4, x8_4, x421000_4, x421001_4, x421002_4, x421003_4, x421004_4, x421005_4, rfl, rfl, HA, HK4, HO_6, BK420, BK422, HB⟩ := hrel
  cases gk with
  | zero => exact absurd HA.out (by simp [grapevineref13_Take.l0])
  | succ k4 =>
  have H := HA.out
  clear HA
  simp only [grapevineref13_Take.l0] at H
  by_cases c33 : x8_4 < (wrap64 (x5_28 + 1))
  ·
   rw [if_pos c33] at H
   have c33b0 : decide (x8_4 < (wrap64 (x5_28 + 1))) = true := decide_eq_true c33
   clear c33
   replace H := Option.bind_eq_some_iff.mp H
   obtain ⟨⟨t430, t431, t432⟩, A340, H⟩ := H
   replace H : (if t432 = 0 then (if x6_4.length < 17592186044416 then (grapevineref13_Take.l0 k4 l0 x5_28 (x6_4 ++ [t430]) t431 (wrap64 (x8_4 + 1)) (wrap64 (rd l0 0)) 0 0 0 0 0) else (none)) else (some (0, 0, 0, 0, 0, 0, ([] : List (S43)), ([] : List (S62)), t432))) = some (r1, r2, r3, r4, r5, r6, r7, r8, r9) := H
   have A34 := Aside0.mk A340
   clear A340
   by_cases c35 : t432 = 0
   ·
    rw [if_pos c35] at H
    have c35b0 : (t432 == 0) = true := beq_iff_eq.mpr c35
    have c35b1 : (t432 != 0) = false := bne_eq_false_iff_eq.mpr c35
    clear c35
    by_cases c36 : x6_4.length < 17592186044416
    ·
     rw [if_pos c36] at H
     have LMc36 := Aside0.mk c36
     clear c36
     obtain ⟨y433, hy433⟩ : ∃ y_ : List Int, y_ = (x6_4 ++ [t430]) := ⟨_, rfl⟩
     replace H : (grapevineref13_Take.l0 k4 l0 x5_28 y433 t431 (wrap64 (x8_4 + 1)) (wrap64 (rd l0 0)) 0 0 0 0 0) = some (r1, r2, r3, r4, r5, r6, r7, r8, r9) := by (rw [hy433]; with_reducible exact H)
     have Ny433 := Aside0.mk hy433
     clear hy433
     have H' := Aside0.mk H
     clear H
     go_wp2_with (first | ((with_reducible refine gate_callee (f := 82) rfl ?_); refine goesL_ (some 61) rfl rfl Try.func82 (by kernel_rfl) rfl #[.slice (some ad421) l0.length c0, .int .i64 x7_4, .int .u64 1099511627776] rfl (by (try simp only [List.map_toArray, List.map_cons, List.map_nil]); rfl) ?_; (with_reducible refine (grapevineref13_upto.calls k4 _ _ l0 x7_4 1099511627776 t430 t431 t432 _ ?side1 ?side2 A34.out).mono ?_); (case side1 => repeat (exact (Kd.C_below HR0.out HB.out))); (case side2 => exact HC0.out); rintro e w' ⟨rfl, ⟨nd, rfl⟩⟩; refine ⟨_, rfl, ?_⟩) | ((with_reducible refine gate_builtin (b := .append) (xs := #[.tmp 69, .tmp 71]) rfl ?_); at_builtin; refine Kd.R_append (Kd.int .i64) (w0 := w) w.heap.size rfl (.tmp 69) (.tmp 71) 98 3 (.int .i64 0) 8 rfl Try.underlying98 info3 rfl (by decide) (by omega) u6 x6_4 t430 [.int .i64 t430] (fun _ => True) (fun _ => False) rfl rfl ?aP (fun _ hk => hk.elim) ?aF ?aO ?aB ?aS ?aL ?_; (case aP => exact rfl); (case aB => exact (by repeat (with_reducible first | exact HB.out | apply pw_below_drewN))); (case aF => exact (fun _ _ => trivial)); (case aO => exact (by (with_reducible repeat (apply Kd.R_drewN)); exact HO_6.out)); (case aS => exact (below_size (by repeat (with_reducible first | exact HB.out | apply pw_below_drewN)))); (case aL => have := LMc36.out; omega); intro v434 w37 ho hb hg hat; rw [← Ny433.out] at ho; have n0_ := Aside0.mk (blk_grown (g := gb420) (o := .cells #[.int .i64 x421000_4, .int .i64 x421001_4, .int .i64 x421002_4, .int .i64 x421003_4, .int .i64 x421004_4, .int .i64 x421005_4, .slice none 0 0, .slice none 0 0] 51 (0, 0)) (by (with_reducible repeat (refine blk_drewN ?_ _)); exact BK420.out) hg (Kd.R_ne HO_6.out BK420.out (by decide))); have n1_ := Aside0.mk (blk_grown (g := gb422) (o := .cells #[.int .i64 (wrap64 (rd l0 0)), .int .i64 0, .int .i64 0, .int .i64 0, .int .i64 0, .int .i64 0, .slice none 0 0, .slice none 0 0] 51 (0, 0)) (by (with_reducible repeat (refine blk_drewN ?_ _)); exact BK422.out) hg (Kd.R_ne HO_6.out BK422.out (by decide))); have n2_ := Aside0.mk (hb); have n3_ := Aside0.mk (ho); clear BK420; clear BK422; clear HB; clear HO_6; have BK420 := n0_; have BK422 := n1_; have HB := n2_; have HO435 := n3_; clear n0_ n1_ n2_ n3_; clear ho hb hg hat))
     go_roundg k4
     case measure => have := HJ5.out; have := HJ20.out; have := HJ28.out; have := HK4.out; omega
     case rel => exact ⟨(y433), (t431), (wrap64 (x8_4 + 1)), (x421000_4), (x421001_4), (x421002_4), (x421003_4), (x421004_4), (x421005_4), (by rfl), (by rfl), H', ⟨by have := HJ5.out; have := HJ20.out; have := HJ28.out; have := HK4.out; omega⟩, ⟨by exact HO435.out⟩, ⟨by exact BK420.out⟩, ⟨by exact BK422.out⟩, ⟨by repeat (with_reducible exact HB.out)⟩⟩
    rw [if_neg c36] at H
    exact absurd H (by simp)
   rw [if_neg c35] at H
   have c35b0 : (t432 == 0) = false := beq_eq_false_iff_ne.mpr c35
   have c35b1 : (t432 != 0) = true := bne_iff_ne.mpr c35
   simp only [Option.some.injEq, Prod.mk.injEq] at H
   obtain ⟨rfl, rfl, rfl, rfl, rfl, rfl, rfl, rfl, rfl⟩ := H
   go_wp2_with (((with_reducible refine gate_callee (f := 82) rfl ?_); refine goesL_ (some 61) rfl rfl Try.func82 (by kernel_rfl) rfl #[.slice (some ad421) l0.length c0, .int .i64 x7_4, .int .u64 1099511627776] rfl (by (try simp only [List.map_toArray, List.map_cons, List.map_nil]); rfl) ?_; (with_reducible refine (grapevineref13_upto.calls k4 _ _ l0 x7_4 1099511627776 t430 t431 t432 _ ?side1 ?side2 A34.out).mono ?_); (case side1 => repeat (exact (Kd.C_below HR0.out HB.out))); (case side2 => exact HC0.out); rintro e w' ⟨rfl, ⟨nd, rfl⟩⟩; refine ⟨_, rfl, ?_⟩; (try (rw [drewN_self wr]; generalize hq_ : World.drewN wr _ = wr; have n0_ : Aside0 (Kd.R (Kd.int .i64) 3 wr w.heap.size (fun _ => True) u6 x6_4) := ⟨by rw [← hq_]; exact (by (with_reducible repeat (apply Kd.R_drewN)); exact HO_6.out)⟩; have n1_ : Aside0 (wr.heap[gb420]? = some (.cells #[.int .i64 x421000_4, .int .i64 x421001_4, .int .i64 x421002_4, .int .i64 x421003_4, .int .i64 x421004_4, .int .i64 x421005_4, .slice none 0 0, .slice none 0 0] 51 (0, 0))) := ⟨by rw [← hq_]; exact (by (with_reducible repeat (refine blk_drewN ?_ _)); exact BK420.out)⟩; have n2_ : Aside0 (wr.heap[gb422]? = some (.cells #[.int .i64 (wrap64 (rd l0 0)), .int .i64 0, .int .i64 0, .int .i64 0, .int .i64 0, .int .i64 0, .slice none 0 0, .slice none 0 0] 51 (0, 0))) := ⟨by rw [← hq_]; exact (by (with_reducible repeat (refine blk_drewN ?_ _)); exact BK422.out)⟩; have n3_ : Aside0 (Below w.heap.size w wr) := ⟨by rw [← hq_]; exact (by repeat (with_reducible first | exact HB.out | apply pw_below_drewN))⟩; clear HO_6 BK420 BK422 HB hq_; have HO_6 := n0_; have BK420 := n1_; have BK422 := n2_; have HB := n3_; clear n0_ n1_ n2_ n3_)); have hnb38 := NB420_422.out; have hnc38 := NB422_420.out; obtain ⟨hcz39_0, hcz39_1, hcz39_2, hcz39_3, hcz39_4, hcz39_5, hcz39_6, hcz39_7, hfz39_0, hfz39_1, hfz39_2, hfz39_3, hfz39_4, hfz39_5, hfz39_6, hfz39_7⟩ := cz8 BK420.out))
   refine bodyPost_ret (results_ct rfl _ _ gb420 51 #[.int .i64 0, .int .i64 0, .int .i64 0, .int .i64 0, .int .i64 0, .int .i64 0, .slice none 0 0, .slice none 0 0] (0, 0) _ rfl (by refine blk_put (cs := #[.int .i64 0, .int .i64 0, .int .i64 0, .int .i64 0, .int .i64 0, .int .i64 0, .slice none 0 0, .slice none 0 0]) ?_ 7 _ rfl; refine blk_put (cs := #[.int .i64 0, .int .i64 0, .int .i64 0, .int .i64 0, .int .i64 0, .int .i64 0, .slice none 0 0, .slice none 0 0]) ?_ 6 _ rfl; refine blk_put (cs := #[.int .i64 0, .int .i64 0, .int .i64 0, .int .i64 0, .int .i64 0, .int .i64 x421005_4, .slice none 0 0, .slice none 0 0]) ?_ 5 _ rfl; refine blk_put (cs := #[.int .i64 0, .int .i64 0, .int .i64 0, .int .i64 0, .int .i64 x421004_4, .int .i64 x421005_4, .slice none 0 0, .slice none 0 0]) ?_ 4 _ rfl; refine blk_put (cs := #[.int .i64 0, .int .i64 0, .int .i64 0, .int .i64 x421003_4, .int .i64 x421004_4, .int .i64 x421005_4, .slice none 0 0, .slice none 0 0]) ?_ 3 _ rfl; refine blk_put (cs := #[.int .i64 0, .int .i64 0, .int .i64 x421002_4, .int .i64 x421003_4, .int .i64 x421004_4, .int .i64 x421005_4, .slice none 0 0, .slice none 0 0]) ?_ 2 _ rfl; refine blk_put (cs := #[.int .i64 0, .int .i64 x421001_4, .int .i64 x421002_4, .int .i64 x421003_4, .int .i64 x421004_4, .int .i64 x421005_4, .slice none 0 0, .slice none 0 0]) ?_ 1 _ rfl; refine blk_put (cs := #[.int .i64 x421000_4, .int .i64 x421001_4, .int .i64 x421002_4, .int .i64 x421003_4, .int .i64 x421004_4, .int .i64 x421005_4, .slice none 0 0, .slice none 0 0]) ?_ 0 _ rfl; exact BK420.out) Try.underlying51 rfl (by kernel_rfl)) rfl ?_
   exact ⟨_, _, by rfl, by exact Kd.R_nil _ _ _ _ _, by exact Kd.S_nil _ _ _ _ _, by repeat (with_reducible first | exact HB.out | apply pw_below_drewN | refine below_set ?_ GE420.out | refine below_set ?_ GE422.out)⟩
  rw [if_neg c33] at H
  have c33b0 : decide (x8_4 < (wrap64 (x5_28 + 1))) = false := decide_eq_false c33
  clear c33
  by_cases c40 : 0 < (x6_4.length : Int)
  ·
   rw [if_pos c40] at H
   have c40b0 : decide (0 < (x6_4.length : Int)) = true := decide_eq_true c40
   have c40b1 : decide (0 < x6_4.length) = true := decide_eq_true (by omega)
   clear c40
   replace H := Option.bind_eq_some_iff.mp H
   obtain ⟨t437, A410, H⟩ := H
   replace H : (if t437 = true then (if 1 < (x6_4.length : Int) then (if 2 < (x6_4.length : Int) then (grapevineref13_Take.j4 k4 l0 x5_28 x6_4 x7_4 (wrap64 (rd l0 0)) (rd x6_4 0) 0 0 (rd x6_4 1) (rd x6_4 2)) else (none)) else (none)) else (if 1 < (x6_4.length : Int) then (if 2 < (x6_4.length : Int) then (grapevineref13_Take.j4 k4 l0 x5_28 x6_4 x7_4 (wrap64 (rd l0 0)) (rd x6_4 0) (rd x6_4 1) (rd x6_4 2) 0 0) else (none)) else (none))) = some (r1, r2, r3, r4, r5, r6, r7, r8, r9) := H
   have A41 := Aside0.mk A410
   clear A410
   have HC42 := Aside0.mk H
   clear H
   obtain ⟨Ao43, co43, eo43⟩ := Kd.R_slice HO_6.out
   subst eo43
   have p436 : 0 ≤ (0 : Int) := (by omega)
   have q436 : 0 < (x6_4.length : Int) := of_decide_eq_true (by (with_reducible assumption))
   obtain ⟨ad436, e436, hx436_0⟩ := Kd.at_int (Kd.R_reads' HO_6.out).2.2 0 p436 q436
   cases e436
   have qi436 : (0 < x6_4.length) = True := eq_true (by omega)
   (try rw [show (0 : Int).toNat = 0 from rfl] at hx436_0)
   (try rw [Addr.add_zero'] at hx436_0)
   replace p436 := eq_true p436
   replace q436 := eq_true q436
   have hnb44 := NB422_420.out
   have hnc44 := NB420_422.out
   obtain ⟨hcz45_0, hcz45_1, hcz45_2, hcz45_3, hcz45_4, hcz45_5, hcz45_6, hcz45_7, hfz45_0, hfz45_1, hfz45_2, hfz45_3, hfz45_4, hfz45_5, hfz45_6, hfz45_7⟩ := cz8 BK422.out
   go_upto_if 80 with (((with_reducible refine gate_callee (f := 68) rfl ?_); refine goesL_ (some 80) rfl rfl Try.func68 (by kernel_rfl) rfl #[.int .i64 (wrap64 (rd l0 0))] rfl (by (try simp only [List.map_toArray, List.map_cons, List.map_nil]); rfl) ?_; (with_reducible refine (grapevineref13_ranged.calls (wrap64 (rd l0 0)) t437 _ A41.out).mono ?_); rintro e w' ⟨rfl, ⟨nd, rfl⟩⟩; refine ⟨_, rfl, ?_⟩))
   (try simp only [Act.put, List.setIfInBounds_toArray, List.set_cons_zero, List.set_cons_succ])
   go_cut [] (fun wc => ∃ (kq : Nat) (x423002_41 : Int) (x423003_41 : Int) (x423004_41 : Int) (x423005_41 : Int), Aside0 (grapevineref13_Take.j4 kq l0 x5_28 x6_4 x7_4 (wrap64 (rd l0 0)) (rd x6_4 0) x423002_41 x423003_41 x423004_41 x423005_41 = some (r1, r2, r3, r4, r5, r6, r7, r8, r9)) ∧ Aside0 (kq ≤ k4) ∧ Aside0 (Kd.R (Kd.int .i64) 3 wc w.heap.size (fun _ => True) (.slice (some ad436) x6_4.length co43) x6_4) ∧ Aside0 (wc.heap[gb420]? = some (.cells #[.int .i64 x421000_4, .int .i64 x421001_4, .int .i64 x421002_4, .int .i64 x421003_4, .int .i64 x421004_4, .int .i64 x421005_4, (.slice none 0 0), (.slice none 0 0)] 51 (0, 0))) ∧ Aside0 (wc.heap[gb422]? = some (.cells #[.int .i64 (wrap64 (rd l0 0)), .int .i64 (rd x6_4 0), .int .i64 x423002_41, .int .i64 x423003_41, .int .i64 x423004_41, .int .i64 x423005_41, (.slice none 0 0), (.slice none 0 0)] 51 (0, 0))) ∧ Aside0 (Below w.heap.size w wc))
   case first =>
    have H := HC42.out
    clear HC42
    by_cases c46 : t437 = true
    ·
     subst c46
     have H1 : (if 1 < (x6_4.length : Int) then (if 2 < (x6_4.length : Int) then (grapevineref13_Take.j4 k4 l0 x5_28 x6_4 x7_4 (wrap64 (rd l0 0)) (rd x6_4 0) 0 0 (rd x6_4 1) (rd x6_4 2)) else (none)) else (none)) = some (r1, r2, r3, r4, r5, r6, r7, r8, r9) := by rw [if_pos rfl] at H; exact H
     clear H
     have H := H1
     clear H1
     by_cases c47 : 1 < (x6_4.length : Int)
     ·
      rw [if_pos c47] at H
      have c47b0 : decide (1 < (x6_4.length : Int)) = true := decide_eq_true c47
      have c47b1 : decide (1 < x6_4.length) = true := decide_eq_true (by omega)
      clear c47
      (skip)
      by_cases c48 : 2 < (x6_4.length : Int)
      ·
       rw [if_pos c48] at H
       have c48b0 : decide (2 < (x6_4.length : Int)) = true := decide_eq_true c48
       have c48b1 : decide (2 < x6_4.length) = true := decide_eq_true (by omega)
       clear c48
       have H' := Aside0.mk H
       clear H
       have p438 : 0 ≤ (1 : Int) := (by omega)
       have q438 : 1 < (x6_4.length : Int) := of_decide_eq_true (by (with_reducible assumption))
       obtain ⟨ad438, e438, hx438_0⟩ := Kd.at_int (Kd.R_reads' HO_6.out).2.2 1 p438 q438
       obtain rfl : ad436 = ad438 := (by injection e438)
       (try simp only [show (1 : Int).toNat = 1 from rfl, Nat.reduceMul, Nat.reduceEqDiff, Go.Addr.add, ↓reduceIte] at hx438_0)
       have qi438 : (1 < x6_4.length) = True := eq_true (by omega)
       (skip)
       have hn438_0 : ad436.block ≠ gb422 := Kd.own_blk (by exact Kd.R_ne HO_6.out BK422.out (by decide))
       replace hx438_0 := (cell_far (p := ⟨gb422, 1, none⟩) (by exact hn438_0) (.int .i64 (rd x6_4 0))).trans hx438_0
       clear hn438_0
       replace p438 := eq_true p438
       replace q438 := eq_true q438
       have hnb49 := NB422_420.out
       have hnc49 := NB420_422.out
       obtain ⟨hcz50_0, hcz50_1, hcz50_2, hcz50_3, hcz50_4, hcz50_5, hcz50_6, hcz50_7, hfz50_0, hfz50_1, hfz50_2, hfz50_3, hfz50_4, hfz50_5, hfz50_6, hfz50_7⟩ := cz8 BK422.out
       have p439 : 0 ≤ (2 : Int) := (by omega)
       have q439 : 2 < (x6_4.length : Int) := of_decide_eq_true (by (with_reducible assumption))
       obtain ⟨ad439, e439, hx439_0⟩ := Kd.at_int (Kd.R_reads' HO_6.out).2.2 2 p439 q439
       obtain rfl : ad436 = ad439 := (by injection e439)
       (try simp only [show (2 : Int).toNat = 2 from rfl, Nat.reduceMul, Nat.reduceEqDiff, Go.Addr.add, ↓reduceIte] at hx439_0)
       have qi439 : (2 < x6_4.length) = True := eq_true (by omega)
       (skip)
       have hn439_0 : ad436.block ≠ gb422 := Kd.own_blk (by exact Kd.R_ne HO_6.out BK422.out (by decide))
       have hn439_1 : ad436.block ≠ gb422 := Kd.own_blk (by exact Kd.R_ne HO_6.out BK422.out (by decide))
       replace hx439_0 := (cell_far (p := ⟨gb422, 1, none⟩) (by exact hn439_0) (.int .i64 (rd x6_4 0))).trans hx439_0
       replace hx439_0 := fun nd_ : Nat => (cell_far (W := (wr.setCell ⟨gb422, 1, none⟩ (.int .i64 (rd x6_4 0))).drewN nd_) (p := ⟨gb422, 4, none⟩) (by exact hn439_1) (.int .i64 (rd x6_4 1))).trans hx439_0
       clear hn439_0
       clear hn439_1
       replace p439 := eq_true p439
       replace q439 := eq_true q439
       go_wp2
       go_meet
       case rel => exact ⟨_, (0), (0), (rd x6_4 1), (rd x6_4 2), H', ⟨by have := HJ5.out; have := HJ20.out; have := HJ28.out; have := HK4.out; omega⟩, ⟨by exact Kd.R_mono (Kd.R_far (p := ⟨gb422, 5, none⟩) (Kd.R_far (p := ⟨gb422, 4, none⟩) (Kd.R_far (p := ⟨gb422, 1, none⟩) (Kd.R_types HO_6.out BK422.out (by decide)) (fun _ hk => hk.2) (.int .i64 (rd x6_4 0))) (fun _ hk => hk.2) (.int .i64 (rd x6_4 1))) (fun _ hk => hk.2) (.int .i64 (rd x6_4 2))) (fun _ hk => trivial)⟩, ⟨by refine blk_far ?_ NB420_422.out _; refine blk_far ?_ NB420_422.out _; (with_reducible repeat (refine blk_drewN ?_ _)); refine blk_far ?_ NB420_422.out _; exact BK420.out⟩, ⟨by refine blk_put (cs := #[.int .i64 (wrap64 (rd l0 0)), .int .i64 (rd x6_4 0), .int .i64 0, .int .i64 0, .int .i64 (rd x6_4 1), .int .i64 0, .slice none 0 0, .slice none 0 0]) ?_ 5 _ rfl; refine blk_put (cs := #[.int .i64 (wrap64 (rd l0 0)), .int .i64 (rd x6_4 0), .int .i64 0, .int .i64 0, .int .i64 0, .int .i64 0, .slice none 0 0, .slice none 0 0]) ?_ 4 _ rfl; (with_reducible repeat (refine blk_drewN ?_ _)); refine blk_put (cs := #[.int .i64 (wrap64 (rd l0 0)), .int .i64 0, .int .i64 0, .int .i64 0, .int .i64 0, .int .i64 0, .slice none 0 0, .slice none 0 0]) ?_ 1 _ rfl; exact BK422.out⟩, ⟨by repeat (with_reducible first | exact HB.out | apply pw_below_drewN | refine below_set ?_ GE422.out)⟩⟩
      rw [if_neg c48] at H
      exact absurd H (by simp)
     rw [if_neg c47] at H
     exact absurd H (by simp)
    replace c46 := Bool.eq_false_iff.mpr c46
    subst c46
    have H1 : (if 1 < (x6_4.length : Int) then (if 2 < (x6_4.length : Int) then (grapevineref13_Take.j4 k4 l0 x5_28 x6_4 x7_4 (wrap64 (rd l0 0)) (rd x6_4 0) (rd x6_4 1) (rd x6_4 2) 0 0) else (none)) else (none)) = some (r1, r2, r3, r4, r5, r6, r7, r8, r9) := by rw [if_neg (show ¬ (false = true) by decide)] at H; exact H
    clear H
    have H := H1
    clear H1
    by_cases c51 : 1 < (x6_4.length : Int)
    ·
     rw [if_pos c51] at H
     have c51b0 : decide (1 < (x6_4.length : Int)) = true := decide_eq_true c51
     have c51b1 : decide (1 < x6_4.length) = true := decide_eq_true (by omega)
     clear c51
     by_cases c52 : 2 < (x6_4.length : Int)
     ·
      rw [if_pos c52] at H
      have c52b0 : decide (2 < (x6_4.length : Int)) = true := decide_eq_true c52
      have c52b1 : decide (2 < x6_4.length) = true := decide_eq_true (by omega)
      clear c52
      have H' := Aside0.mk H
      clear H
      have p440 : 0 ≤ (1 : Int) := (by omega)
      have q440 : 1 < (x6_4.length : Int) := of_decide_eq_true (by (with_reducible assumption))
      obtain ⟨ad440, e440, hx440_0⟩ := Kd.at_int (Kd.R_reads' HO_6.out).2.2 1 p440 q440
      obtain rfl : ad436 = ad440 := (by injection e440)
      (try simp only [show (1 : Int).toNat = 1 from rfl, Nat.reduceMul, Nat.reduceEqDiff, Go.Addr.add, ↓reduceIte] at hx440_0)
      have qi440 : (1 < x6_4.length) = True := eq_true (by omega)
      (skip)
      have hn440_0 : ad436.block ≠ gb422 := Kd.own_blk (by exact Kd.R_ne HO_6.out BK422.out (by decide))
      replace hx440_0 := (cell_far (p := ⟨gb422, 1, none⟩) (by exact hn440_0) (.int .i64 (rd x6_4 0))).trans hx440_0
      clear hn440_0
      replace p440 := eq_true p440
      replace q440 := eq_true q440
      have hnb53 := NB422_420.out
      have hnc53 := NB420_422.out
      obtain ⟨hcz54_0, hcz54_1, hcz54_2, hcz54_3, hcz54_4, hcz54_5, hcz54_6, hcz54_7, hfz54_0, hfz54_1, hfz54_2, hfz54_3, hfz54_4, hfz54_5, hfz54_6, hfz54_7⟩ := cz8 BK422.out
      have p441 : 0 ≤ (2 : Int) := (by omega)
      have q441 : 2 < (x6_4.length : Int) := of_decide_eq_true (by (with_reducible assumption))
      obtain ⟨ad441, e441, hx441_0⟩ := Kd.at_int (Kd.R_reads' HO_6.out).2.2 2 p441 q441
      obtain rfl : ad436 = ad441 := (by injection e441)
      (try simp only [show (2 : Int).toNat = 2 from rfl, Nat.reduceMul, Nat.reduceEqDiff, Go.Addr.add, ↓reduceIte] at hx441_0)
      have qi441 : (2 < x6_4.length) = True := eq_true (by omega)
      (skip)
      have hn441_0 : ad436.block ≠ gb422 := Kd.own_blk (by exact Kd.R_ne HO_6.out BK422.out (by decide))
      have hn441_1 : ad436.block ≠ gb422 := Kd.own_blk (by exact Kd.R_ne HO_6.out BK422.out (by decide))
      replace hx441_0 := (cell_far (p := ⟨gb422, 1, none⟩) (by exact hn441_0) (.int .i64 (rd x6_4 0))).trans hx441_0
      replace hx441_0 := fun nd_ : Nat => (cell_far (W := (wr.setCell ⟨gb422, 1, none⟩ (.int .i64 (rd x6_4 0))).drewN nd_) (p := ⟨gb422, 2, none⟩) (by exact hn441_1) (.int .i64 (rd x6_4 1))).trans hx441_0
      clear hn441_0
      clear hn441_1
      replace p441 := eq_true p441
      replace q441 := eq_true q441
      go_wp2
      go_meet
      case rel => exact ⟨_, (rd x6_4 1), (rd x6_4 2), (0), (0), H', ⟨by have := HJ5.out; have := HJ20.out; have := HJ28.out; have := HK4.out; omega⟩, ⟨by exact Kd.R_mono (Kd.R_far (p := ⟨gb422, 3, none⟩) (Kd.R_far (p := ⟨gb422, 2, none⟩) (Kd.R_far (p := ⟨gb422, 1, none⟩) (Kd.R_types HO_6.out BK422.out (by decide)) (fun _ hk => hk.2) (.int .i64 (rd x6_4 0))) (fun _ hk => hk.2) (.int .i64 (rd x6_4 1))) (fun _ hk => hk.2) (.int .i64 (rd x6_4 2))) (fun _ hk => trivial)⟩, ⟨by refine blk_far ?_ NB420_422.out _; refine blk_far ?_ NB420_422.out _; (with_reducible repeat (refine blk_drewN ?_ _)); refine blk_far ?_ NB420_422.out _; exact BK420.out⟩, ⟨by refine blk_put (cs := #[.int .i64 (wrap64 (rd l0 0)), .int .i64 (rd x6_4 0), .int .i64 (rd x6_4 1), .int .i64 0, .int .i64 0, .int .i64 0, .slice none 0 0, .slice none 0 0]) ?_ 3 _ rfl; refine blk_put (cs := #[.int .i64 (wrap64 (rd l0 0)), .int .i64 (rd x6_4 0), .int .i64 0, .int .i64 0, .int .i64 0, .int .i64 0, .slice none 0 0, .slice none 0 0]) ?_ 2 _ rfl; (with_reducible repeat (refine blk_drewN ?_ _)); refine blk_put (cs := #[.int .i64 (wrap64 (rd l0 0)), .int .i64 0, .int .i64 0, .int .i64 0, .int .i64 0, .int .i64 0, .slice none 0 0, .slice none 0 0]) ?_ 1 _ rfl; exact BK422.out⟩, ⟨by repeat (with_reducible first | exact HB.out | apply pw_below_drewN | refine below_set ?_ GE422.out)⟩⟩
     rw [if_neg c52] at H
     exact absurd H (by simp)
    rw [if_neg c51] at H
    exact absurd H (by simp)
   case rest =>
   clear HC42
   skip
   try clear c2
   try clear c2b0
   try clear c2b1
   try clear c2b2
   skip
   skip
   skip
   skip
   skip
   skip
   skip
   skip
   try clear c5b0
   try clear c5b1
   skip
   skip
   skip
   skip
   skip
   skip
   skip
   skip
   skip
   skip
   skip
   skip
   skip
   skip
   try clear c33b0
   skip
   skip
   skip
   skip
   skip
   skip
   try clear c40b0
   try clear c40b1
   skip
   skip
   skip
   skip
   skip
   skip
   skip
   skip
   skip
   skip
   skip
   skip
   skip
   skip
   skip
   skip
   skip
   skip
   skip
   skip
   skip
   skip
   skip
   skip
   skip
   skip
   skip
   try clear hcz10_0
   try clear hcz10_1
   try clear hcz10_2
   try clear hcz10_3
   try clear hcz10_4
   try clear hcz10_5
   try clear hcz10_6
   try clear hcz10_7
   skip
   skip
   skip
   skip
   skip
   skip
   skip
   skip
   skip
   skip
   skip
   skip
   skip
   skip
   skip
   skip
   skip
   skip
   skip
   skip
   skip
   skip
   skip
   skip
   skip
   skip
   skip
   skip
   skip
   skip
   skip
   skip
   skip
   skip
   skip
   skip
   skip
   skip
   skip
   skip
   skip
   skip
   skip
   skip
   skip
   skip
   skip
   skip
   try clear hcz45_0
   try clear hcz45_1
   try clear hcz45_2
   try clear hcz45_3
   try clear hcz45_4
   try clear hcz45_5
   try clear hcz45_6
   try clear hcz45_7
   skip
   skip
   skip
   skip
   skip
   skip
   skip
   skip
   skip
   skip
   skip
   skip
   skip
   skip
   skip
   skip
   skip
   skip
   skip
   skip
   skip
   skip
   skip
   skip
   try clear hfz10_0
   try clear hfz10_1
   try clear hfz10_2
   try clear hfz10_3
   try clear hfz10_4
   try clear hfz10_5
   try clear hfz10_6
   try clear hfz10_7
   skip
   skip
   skip
   skip
   skip
   skip
   skip
   skip
   skip
   skip
   skip
   skip
   skip
   skip
   skip
   skip
   skip
   skip
   skip
   skip
   skip
   skip
   skip
   skip
   skip
   skip
   skip
   skip
   skip
   skip
   skip
   skip
   skip
   skip
   skip
   skip
   skip
   skip
   skip
   skip
   skip
   skip
   skip
   skip
   skip
   skip
   skip
   skip
   try clear hfz45_0
   try clear hfz45_1
   try clear hfz45_2
   try clear hfz45_3
   try clear hfz45_4
   try clear hfz45_5
   try clear hfz45_6
   try clear hfz45_7
   skip
   skip
   skip
   skip
   skip
   skip
   skip
   skip
   skip
   skip
   skip
   skip
   skip
   skip
   skip
   skip
   skip
   skip
   skip
   skip
   skip
   skip
   skip
   skip
   try clear hx421_0
   try clear hx436_0
   skip
   skip
   skip
   skip
   skip
   skip
   try clear p421
   try clear p436
   skip
   skip
   skip
   skip
   skip
   skip
   try clear q421
   try clear q436
   skip
   skip
   skip
   skip
   obtain ⟨kq, x423002_41, x423003_41, x423004_41, x423005_41, HA, HJ41, HO_6, BK420, BK422, HB⟩ := hcut
   cases kq with
   | zero => exact absurd HA.out (by simp [grapevineref13_Take.j4])
   | succ kj41 =>
   have H := HA.out
   clear HA
   simp only [grapevineref13_Take.j4] at H
   have HC55 := Aside0.mk H
   clear H
   go_upto_if 98 with (fail)
   go_cut [] (fun wc => ∃ (kq : Nat) (x423004_54 : Int), Aside0 (grapevineref13_Take.j5 kq l0 x7_4 (wrap64 (rd l0 0)) (rd x6_4 0) x423002_41 x423003_41 x423004_54 x423005_41 = some (r1, r2, r3, r4, r5, r6, r7, r8, r9)) ∧ Aside0 (kq ≤ kj41) ∧ Aside0 (wc.heap[gb420]? = some (.cells #[.int .i64 x421000_4, .int .i64 x421001_4, .int .i64 x421002_4, .int .i64 x421003_4, .int .i64 x421004_4, .int .i64 x421005_4, (.slice none 0 0), (.slice none 0 0)] 51 (0, 0))) ∧ Aside0 (wc.heap[gb422]? = some (.cells #[.int .i64 (wrap64 (rd l0 0)), .int .i64 (rd x6_4 0), .int .i64 x423002_41, .int .i64 x423003_41, .int .i64 x423004_54, .int .i64 x423005_41, (.slice none 0 0), (.slice none 0 0)] 51 (0, 0))) ∧ Aside0 (Below w.heap.size w wc))
   case first =>
    have H := HC55.out
    clear HC55
    by_cases c56 : x5_28 = 3
    ·
     rw [if_pos c56] at H
     have c56b0 : (x5_28 == 3) = true := beq_iff_eq.mpr c56
     have c56b1 : (x5_28 != 3) = false := bne_eq_false_iff_eq.mpr c56
     clear c56
     (rw [c56b0])
     by_cases c57 : 3 < (x6_4.length : Int)
     ·
      rw [if_pos c57] at H
      have c57b0 : decide (3 < (x6_4.length : Int)) = true := decide_eq_true c57
      have c57b1 : decide (3 < x6_4.length) = true := decide_eq_true (by omega)
      clear c57
      have H' := Aside0.mk H
      clear H
      have p442 : 0 ≤ (3 : Int) := (by omega)
      have q442 : 3 < (x6_4.length : Int) := of_decide_eq_true (by (with_reducible assumption))
      obtain ⟨ad442, e442, hx442_0⟩ := Kd.at_int (Kd.R_reads' HO_6.out).2.2 3 p442 q442
      obtain rfl : ad436 = ad442 := (by injection e442)
      (try simp only [show (3 : Int).toNat = 3 from rfl, Nat.reduceMul, Nat.reduceEqDiff, Go.Addr.add, ↓reduceIte] at hx442_0)
      have qi442 : (3 < x6_4.length) = True := eq_true (by omega)
      (skip)
      replace p442 := eq_true p442
      replace q442 := eq_true q442
      have hnb58 := NB422_420.out
      have hnc58 := NB420_422.out
      obtain ⟨hcz59_0, hcz59_1, hcz59_2, hcz59_3, hcz59_4, hcz59_5, hcz59_6, hcz59_7, hfz59_0, hfz59_1, hfz59_2, hfz59_3, hfz59_4, hfz59_5, hfz59_6, hfz59_7⟩ := cz8 BK422.out
      go_wp2
      go_meet
      case rel => exact ⟨_, (rd x6_4 3), H', ⟨by have := HJ5.out; have := HJ20.out; have := HJ28.out; have := HK4.out; have := HJ41.out; omega⟩, ⟨by refine blk_far ?_ NB420_422.out _; exact BK420.out⟩, ⟨by refine blk_put (cs := #[.int .i64 (wrap64 (rd l0 0)), .int .i64 (rd x6_4 0), .int .i64 x423002_41, .int .i64 x423003_41, .int .i64 x423004_41, .int .i64 x423005_41, .slice none 0 0, .slice none 0 0]) ?_ 4 _ rfl; exact BK422.out⟩, ⟨by repeat (with_reducible first | exact HB.out | refine below_set ?_ GE422.out)⟩⟩
     rw [if_neg c57] at H
     exact absurd H (by simp)
    rw [if_neg c56] at H
    have c56b0 : (x5_28 == 3) = false := beq_eq_false_iff_ne.mpr c56
    have c56b1 : (x5_28 != 3) = true := bne_iff_ne.mpr c56
    (rw [c56b0])
    have H' := Aside0.mk H
    clear H
    go_wp2
    go_meet
    case rel => exact ⟨_, (x423004_41), H', ⟨by have := HJ5.out; have := HJ20.out; have := HJ28.out; have := HK4.out; have := HJ41.out; omega⟩, ⟨by exact BK420.out⟩, ⟨by exact BK422.out⟩, ⟨by repeat (with_reducible exact HB.out)⟩⟩
   case rest =>
   clear HC55
   skip
   try clear c2
   try clear c2b0
   try clear c2b1
   try clear c2b2
   skip
   skip
   skip
   skip
   skip
   skip
   skip
   skip
   try clear c5b0
   try clear c5b1
   skip
   skip
   skip
   skip
   skip
   skip
   skip
   skip
   skip
   skip
   skip
   skip
   skip
   skip
   try clear c33b0
   skip
   skip
   skip
   skip
   skip
   skip
   try clear c40b0
   try clear c40b1
   skip
   skip
   skip
   skip
   skip
   skip
   skip
   skip
   skip
   skip
   skip
   skip
   skip
   skip
   skip
   skip
   skip
   skip
   skip
   skip
   skip
   skip
   skip
   skip
   skip
   skip
   skip
   skip
   skip
   skip
   skip
   skip
   skip
   skip
   try clear hcz10_0
   try clear hcz10_1
   try clear hcz10_2
   try clear hcz10_3
   try clear hcz10_4
   try clear hcz10_5
   try clear hcz10_6
   try clear hcz10_7
   skip
   skip
   skip
   skip
   skip
   skip
   skip
   skip
   skip
   skip
   skip
   skip
   skip
   skip
   skip
   skip
   skip
   skip
   skip
   skip
   skip
   skip
   skip
   skip
   skip
   skip
   skip
   skip
   skip
   skip
   skip
   skip
   skip
   skip
   skip
   skip
   skip
   skip
   skip
   skip
   skip
   skip
   skip
   skip
   skip
   skip
   skip
   skip
   try clear hcz45_0
   try clear hcz45_1
   try clear hcz45_2
   try clear hcz45_3
   try clear hcz45_4
   try clear hcz45_5
   try clear hcz45_6
   try clear hcz45_7
   skip
   skip
   skip
   skip
   skip
   skip
   skip
   skip
   skip
   skip
   skip
   skip
   skip
   skip
   skip
   skip
   skip
   skip
   skip
   skip
   skip
   skip
   skip
   skip
   skip
   skip
   skip
   skip
   skip
   skip
   skip
   skip
   try clear hfz10_0
   try clear hfz10_1
   try clear hfz10_2
   try clear hfz10_3
   try clear hfz10_4
   try clear hfz10_5
   try clear hfz10_6
   try clear hfz10_7
   skip
   skip
   skip
   skip
   skip
   skip
   skip
   skip
   skip
   skip
   skip
   skip
   skip
   skip
   skip
   skip
   skip
   skip
   skip
   skip
   skip
   skip
   skip
   skip
   skip
   skip
   skip
   skip
   skip
   skip
   skip
   skip
   skip
   skip
   skip
   skip
   skip
   skip
   skip
   skip
   skip
   skip
   skip
   skip
   skip
   skip
   skip
   skip
   try clear hfz45_0
   try clear hfz45_1
   try clear hfz45_2
   try clear hfz45_3
   try clear hfz45_4
   try clear hfz45_5
   try clear hfz45_6
   try clear hfz45_7
   skip
   skip
   skip
   skip
   skip
   skip
   skip
   skip
   skip
   skip
   skip
   skip
   skip
   skip
   skip
   skip
   skip
   skip
   skip
   skip
   skip
   skip
   skip
   skip
   skip
   skip
   skip
   skip
   skip
   skip
   skip
   skip
   try clear hx421_0
   try clear hx436_0
   skip
   skip
   skip
   skip
   skip
   skip
   skip
   skip
   try clear p421
   skip
   try clear p436
   skip
   skip
   skip
   skip
   skip
   skip
   skip
   skip
   skip
   try clear q421
   skip
   try clear q436
   skip
   skip
   skip
   skip
   skip
   skip
   obtain ⟨kq, x423004_54, HA, HJ54, BK420, BK422, HB⟩ := hcut
   cases kq with
   | zero => exact absurd HA.out (by simp [grapevineref13_Take.j5])
   | succ kj54 =>
   have H := HA.out
   clear HA
   simp only [grapevineref13_Take.j5] at H
   have HC60 := Aside0.mk H
   clear H
   have hnb61 := NB422_420.out
   have hnc61 := NB420_422.out
   obtain ⟨hcz62_0, hcz62_1, hcz62_2, hcz62_3, hcz62_4, hcz62_5, hcz62_6, hcz62_7, hfz62_0, hfz62_1, hfz62_2, hfz62_3, hfz62_4, hfz62_5, hfz62_6, hfz62_7⟩ := cz8 BK422.out
   go_upto_if 105 with (fail)
   go_cut [7] (fun v7 wc => ∃ (kq : Nat) (x7_59 : Int) (x421000_59 : Int) (x421001_59 : Int) (x421002_59 : Int) (x421003_59 : Int) (x421004_59 : Int) (x421005_59 : Int) (x423006_59 : List (S43)) (x423007_59 : List (S62)) (u423006 : Value) (u423007 : Value), v7 = .int .i64 x7_59 ∧ Aside0 (grapevineref13_Take.j7 kq l0 x7_59 (wrap64 (rd l0 0)) (rd x6_4 0) x423002_41 x423003_41 x423004_54 x423005_41 x423006_59 x423007_59 = some (r1, r2, r3, r4, r5, r6, r7, r8, r9)) ∧ Aside0 (kq ≤ kj54) ∧ Aside0 (Kd.R k43 43 wc w.heap.size (fun _ => True) u423006 x423006_59) ∧ Aside0 (Kd.S k62 62 wc w.heap.size (fun _ => True) u423007 x423007_59) ∧ Aside0 (wc.heap[gb420]? = some (.cells #[.int .i64 x421000_59, .int .i64 x421001_59, .int .i64 x421002_59, .int .i64 x421003_59, .int .i64 x421004_59, .int .i64 x421005_59, (.slice none 0 0), (.slice none 0 0)] 51 (0, 0))) ∧ Aside0 (wc.heap[gb422]? = some (.cells #[.int .i64 (wrap64 (rd l0 0)), .int .i64 (rd x6_4 0), .int .i64 x423002_41, .int .i64 x423003_41, .int .i64 x423004_54, .int .i64 x423005_41, u423006, u423007] 51 (0, 0))) ∧ Aside0 (Below w.heap.size w wc))
   case first =>
    have H := HC60.out
    clear HC60
    by_cases c63 : (wrap64 (rd l0 0)) = 1
    ·
     rw [if_pos c63] at H
     have c63b0 : ((wrap64 (rd l0 0)) == 1) = true := beq_iff_eq.mpr c63
     have c63b1 : ((wrap64 (rd l0 0)) != 1) = false := bne_eq_false_iff_eq.mpr c63
     clear c63
     (rw [c63b0])
     replace H := Option.bind_eq_some_iff.mp H
     obtain ⟨⟨t443, t444, t445⟩, A640, H⟩ := H
     replace H : (if t445 = 0 then ((grapevineref13_upto.f kj54 l0 t444 8).bind fun bt448 => (if bt448.2.2 = 0 then (grapevineref13_Take.l1 kj54 l0 bt448.2.1 bt448.1 0 (wrap64 (rd l0 0)) (rd x6_4 0) x423002_41 x423003_41 x423004_54 x423005_41 t443 ([] : List (S62))) else (some (0, 0, 0, 0, 0, 0, ([] : List (S43)), ([] : List (S62)), bt448.2.2)))) else (some (0, 0, 0, 0, 0, 0, ([] : List (S43)), ([] : List (S62)), t445))) = some (r1, r2, r3, r4, r5, r6, r7, r8, r9) := H
     have A64 := Aside0.mk A640
     clear A640
     by_cases c65 : t445 = 0
     ·
      rw [if_pos c65] at H
      have c65b0 : (t445 == 0) = true := beq_iff_eq.mpr c65
      have c65b1 : (t445 != 0) = false := bne_eq_false_iff_eq.mpr c65
      clear c65
      replace H := Option.bind_eq_some_iff.mp H
      obtain ⟨⟨t448, t449, t450⟩, A660, H⟩ := H
      replace H : (if t450 = 0 then (grapevineref13_Take.l1 kj54 l0 t449 t448 0 (wrap64 (rd l0 0)) (rd x6_4 0) x423002_41 x423003_41 x423004_54 x423005_41 t443 ([] : List (S62))) else (some (0, 0, 0, 0, 0, 0, ([] : List (S43)), ([] : List (S62)), t450))) = some (r1, r2, r3, r4, r5, r6, r7, r8, r9) := H
      have A66 := Aside0.mk A660
      clear A660
      by_cases c67 : t450 = 0
      ·
       rw [if_pos c67] at H
       have c67b0 : (t450 == 0) = true := beq_iff_eq.mpr c67
       have c67b1 : (t450 != 0) = false := bne_eq_false_iff_eq.mpr c67
       clear c67
       have H' := Aside0.mk H
       clear H
       go_wp2_with (first | ((with_reducible refine gate_callee (f := 51) rfl ?_); refine goesL_ (some 109) rfl rfl Try.func51 (by kernel_rfl) rfl #[.slice (some ad421) l0.length c0, .int .i64 x7_4] rfl (by (try simp only [List.map_toArray, List.map_cons, List.map_nil]); rfl) ?_; (with_reducible refine (grapevineref08_Take.calls kj54 _ _ l0 x7_4 t443 t444 t445 _ ?side1 ?side2 A64.out).mono ?_); (case side1 => repeat (exact (Kd.C_below HR0.out HB.out))); (case side2 => exact HC0.out); rintro e w68 ⟨v446, rfl, ho0, hb⟩; refine ⟨_, rfl, ?_⟩; have n0_ := Aside0.mk (Kd.R_lower ho0 (below_size (by repeat (with_reducible exact HB.out)))); have n1_ := Aside0.mk (blk_below (g := gb420) (o := .cells #[.int .i64 x421000_4, .int .i64 x421001_4, .int .i64 x421002_4, .int .i64 x421003_4, .int .i64 x421004_4, .int .i64 x421005_4, .slice none 0 0, .slice none 0 0] 51 (0, 0)) (by exact BK420.out) hb); have n2_ := Aside0.mk (blk_below (g := gb422) (o := .cells #[.int .i64 (wrap64 (rd l0 0)), .int .i64 (rd x6_4 0), .int .i64 x423002_41, .int .i64 x423003_41, .int .i64 x423004_54, .int .i64 x423005_41, .slice none 0 0, .slice none 0 0] 51 (0, 0)) (by exact BK422.out) hb); have n3_ := Aside0.mk (below_step (by repeat (with_reducible exact HB.out)) hb); clear BK420; clear BK422; clear HB; have HO447 := n0_; have BK420 := n1_; have BK422 := n2_; have HB := n3_; clear n0_ n1_ n2_ n3_; (try clear hb); (try clear ho0); obtain ⟨Ao69, co69, eo69⟩ := Kd.R_slice HO447.out; subst eo69; have hnb70 := NB422_420.out; have hnc70 := NB420_422.out; obtain ⟨hcz71_0, hcz71_1, hcz71_2, hcz71_3, hcz71_4, hcz71_5, hcz71_6, hcz71_7, hfz71_0, hfz71_1, hfz71_2, hfz71_3, hfz71_4, hfz71_5, hfz71_6, hfz71_7⟩ := cz8 BK422.out) | ((with_reducible refine gate_callee (f := 82) rfl ?_); refine goesL_ (some 122) rfl rfl Try.func82 (by kernel_rfl) rfl #[.slice (some ad421) l0.length c0, .int .i64 t444, .int .u64 8] rfl (by (try simp only [List.map_toArray, List.map_cons, List.map_nil]); rfl) ?_; (with_reducible refine (grapevineref13_upto.calls kj54 _ _ l0 t444 8 t448 t449 t450 _ ?side1 ?side2 A66.out).mono ?_); (case side1 => exact Kd.C_below HR0.out (by repeat (with_reducible first | exact HB.out | refine below_set ?_ GE422.out))); (case side2 => exact HC0.out); rintro e w' ⟨rfl, ⟨nd, rfl⟩⟩; refine ⟨_, rfl, ?_⟩))
       go_loopg [7, 18] kj54 (fun kq v7 v18 w' => ∃ (x7_7 : Int) (x18_7 : Int) (x421000_7 : Int) (x421001_7 : Int) (x421002_7 : Int) (x421003_7 : Int) (x421004_7 : Int) (x421005_7 : Int) (x423007_7 : List (S62)) (u423007 : Value), v7 = .int .i64 x7_7 ∧ v18 = .int .i64 x18_7 ∧ Aside0 (grapevineref13_Take.l1 kq l0 x7_7 t448 x18_7 (wrap64 (rd l0 0)) (rd x6_4 0) x423002_41 x423003_41 x423004_54 x423005_41 t443 x423007_7 = some (r1, r2, r3, r4, r5, r6, r7, r8, r9)) ∧ Aside0 (kq ≤ kj54) ∧ Aside0 (Kd.R k43 43 w' w.heap.size (fun _ => True) (.slice Ao69 t443.length co69) t443) ∧ Aside0 (Kd.S k62 62 w' w.heap.size (fun _ => True) u423007 x423007_7) ∧ Aside0 (w'.heap[gb420]? = some (.cells #[.int .i64 x421000_7, .int .i64 x421001_7, .int .i64 x421002_7, .int .i64 x421003_7, .int .i64 x421004_7, .int .i64 x421005_7, (.slice none 0 0), (.slice none 0 0)] 51 (0, 0))) ∧ Aside0 (w'.heap[gb422]? = some (.cells #[.int .i64 (wrap64 (rd l0 0)), .int .i64 (rd x6_4 0), .int .i64 x423002_41, .int .i64 x423003_41, .int .i64 x423004_54, .int .i64 x423005_41, (.slice Ao69 t443.length co69), u423007] 51 (0, 0))) ∧ Aside0 (Below w.heap.size w w'))
       case atStart => exact ⟨(t449), (0), (x421000_4), (x421001_4), (x421002_4), (x421003_4), (x421004_4), (x421005_4), (([] : List (S62))), (.slice none 0 0), (by rfl), (by rfl), H', ⟨Nat.le_refl _⟩, ⟨by (with_reducible repeat (apply Kd.R_drewN)); exact Kd.R_mono (Kd.R_far (p := ⟨gb422, 6, none⟩) (Kd.R_types HO447.out BK422.out (by decide)) (fun _ hk => hk.2) (.slice Ao69 t443.length co69)) (fun _ hk => trivial)⟩, ⟨by exact Kd.S_nil _ _ _ _ _⟩, ⟨by (with_reducible repeat (refine blk_drewN ?_ _)); refine blk_far ?_ NB420_422.out _; exact BK420.out⟩, ⟨by (with_reducible repeat (refine blk_drewN ?_ _)); refine blk_put (cs := #[.int .i64 (wrap64 (rd l0 0)), .int .i64 (rd x6_4 0), .int .i64 x423002_41, .int .i64 x423003_41, .int .i64 x423004_54, .int .i64 x423005_41, .slice none 0 0, .slice none 0 0]) ?_ 6 _ rfl; exact BK422.out⟩, ⟨by repeat (with_reducible first | exact HB.out | apply pw_below_drewN | refine below_set ?_ GE422.out)⟩⟩
       case round =>
       clear H'
       skip
       try clear c2
       try clear c2b0
       try clear c2b1
       try clear c2b2
       skip
       skip
       skip
       skip
       skip
       skip
       skip
       skip
       try clear c5b0
       try clear c5b1
       skip
       skip
       skip
       skip
       skip
       skip
       skip
       skip
       skip
       skip
       skip
       skip
       skip
       skip
       skip
       try clear c33b0
       skip
       skip
       skip
       skip
       skip
       skip
       try clear c40b0
       try clear c40b1
       skip
       skip
       skip
       skip
       skip
       skip
       skip
       skip
       skip
       skip
       skip
       skip
       skip
       skip
       skip
       skip
       skip
       skip
       skip
       skip
       skip
       skip
       skip
       skip
       skip
       skip
       skip
       skip
       skip
       skip
       skip
       skip
       skip
       skip
       skip
       skip
       try clear c63b0
       try clear c63b1
       skip
       skip
       try clear c65b0
       try clear c65b1
       skip
       try clear c67b0
       try clear c67b1
       skip
       try clear hcz10_0
       try clear hcz10_1
       try clear hcz10_2
       try clear hcz10_3
       try clear hcz10_4
       try clear hcz10_5
       try clear hcz10_6
       try clear hcz10_7
       skip
       skip
       skip
       skip
       skip
       skip
       skip
       skip
       skip
       skip
       skip
       skip
       skip
       skip
       skip
       skip
       skip
       skip
       skip
       skip
       skip
       skip
       skip
       skip
       skip
       skip
       skip
       skip
       skip
       skip
       skip
       skip
       skip
       skip
       skip
       skip
       skip
       skip
       skip
       skip
       skip
       skip
       skip
       skip
       skip
       skip
       skip
       skip
       try clear hcz45_0
       try clear hcz45_1
       try clear hcz45_2
       try clear hcz45_3
       try clear hcz45_4
       try clear hcz45_5
       try clear hcz45_6
       try clear hcz45_7
       skip
       skip
       skip
       skip
       skip
       skip
       skip
       skip
       skip
       skip
       skip
       skip
       skip
       skip
       skip
       skip
       skip
       skip
       skip
       skip
       skip
       skip
       skip
       skip
       skip
       skip
       skip
       skip
       skip
       skip
       skip
       skip
       try clear hcz62_0
       try clear hcz62_1
       try clear hcz62_2
       try clear hcz62_3
       try clear hcz62_4
       try clear hcz62_5
       try clear hcz62_6
       try clear hcz62_7
       try clear hcz71_0
       try clear hcz71_1
       try clear hcz71_2
       try clear hcz71_3
       try clear hcz71_4
       try clear hcz71_5
       try clear hcz71_6
       try clear hcz71_7
       try clear hfz10_0
       try clear hfz10_1
       try clear hfz10_2
       try clear hfz10_3
       try clear hfz10_4
       try clear hfz10_5
       try clear hfz10_6
       try clear hfz10_7
       skip
       skip
       skip
       skip
       skip
       skip
       skip
       skip
       skip
       skip
       skip
       skip
       skip
       skip
       skip
       skip
       skip
       skip
       skip
       skip
       skip
       skip
       skip
       skip
       skip
       skip
       skip
       skip
       skip
       skip
       skip
       skip
       skip
       skip
       skip
       skip
       skip
       skip
       skip
       skip
       skip
       skip
       skip
       skip
       skip
       skip
       skip
       skip
       try clear hfz45_0
       try clear hfz45_1
       try clear hfz45_2
       try clear hfz45_3
       try clear hfz45_4
       try clear hfz45_5
       try clear hfz45_6
       try clear hfz45_7
       skip
       skip
       skip
       skip
       skip
       skip
       skip
       skip
       skip
       skip
       skip
       skip
       skip
       skip
       skip
       skip
       skip
       skip
       skip
       skip
       skip
       skip
       skip
       skip
       skip
       skip
       skip
       skip
       skip
       skip
       skip
       skip
       try clear hfz62_0
       try clear hfz62_1
       try clear hfz62_2
       try clear hfz62_3
       try clear hfz62_4
       try clear hfz62_5
       try clear hfz62_6
       try clear hfz62_7
       try clear hfz71_0
       try clear hfz71_1
       try clear hfz71_2
       try clear hfz71_3
       try clear hfz71_4
       try clear hfz71_5
       try clear hfz71_6
       try clear hfz71_7
       try clear hx421_0
       try clear hx436_0
       skip
       skip
       skip
       skip
       skip
       skip
       skip
       skip
       try clear p421
       skip
       try clear p436
       skip
       skip
       skip
       skip
       skip
       skip
       skip
       skip
       skip
       try clear q421
       skip
       try clear q436
       skip
       skip
       skip
       skip
       skip
       skip
       obtain ⟨x7_7, x18_7, x421000_7, x421001_7, x421002_7, x421003_7, x421004_7, x421005_7, x423007_7, u423007, rfl, rfl, HA, HK7, HO_423006, HO_423007, BK420, BK422, HB⟩ := hrel
       cases gk with
       | zero => exact absurd HA.out (by simp [grapevineref13_Take.l1])
       | succ k7 =>
       have H := HA.out
       clear HA
       simp only [grapevineref13_Take.l1] at H
       by_cases c72 : x18_7 < t448
       ·
        rw [if_pos c72] at H
        have c72b0 : decide (x18_7 < t448) = true := decide_eq_true c72
        clear c72
        replace H := Option.bind_eq_some_iff.mp H
        obtain ⟨⟨t451, t452, t453, t456, t457⟩, A730, H⟩ := H
        replace H : (if t457 = 0 then (if x423007_7.length < 3518437208883 then (grapevineref13_Take.l1 k7 l0 t456 t448 (wrap64 (x18_7 + 1)) (wrap64 (rd l0 0)) (rd x6_4 0) x423002_41 x423003_41 x423004_54 x423005_41 t443 (x423007_7 ++ [(⟨t451, t452, t453⟩ : S62)])) else (none)) else (some (0, 0, 0, 0, 0, 0, ([] : List (S43)), ([] : List (S62)), t457))) = some (r1, r2, r3, r4, r5, r6, r7, r8, r9) := H
        have A73 := Aside0.mk A730
        clear A730
        by_cases c74 : t457 = 0
        ·
         rw [if_pos c74] at H
         have c74b0 : (t457 == 0) = true := beq_iff_eq.mpr c74
         have c74b1 : (t457 != 0) = false := bne_eq_false_iff_eq.mpr c74
         clear c74
         by_cases c75 : x423007_7.length < 3518437208883
         ·
          rw [if_pos c75] at H
          have LMc75 := Aside0.mk c75
          clear c75
          obtain ⟨y459, hy459⟩ : ∃ y_ : List (S62), y_ = (x423007_7 ++ [(⟨t451, t452, t453⟩ : S62)]) := ⟨_, rfl⟩
          replace H : (grapevineref13_Take.l1 k7 l0 t456 t448 (wrap64 (x18_7 + 1)) (wrap64 (rd l0 0)) (rd x6_4 0) x423002_41 x423003_41 x423004_54 x423005_41 t443 y459) = some (r1, r2, r3, r4, r5, r6, r7, r8, r9) := by (rw [hy459]; with_reducible exact H)
          have Ny459 := Aside0.mk hy459
          clear hy459
          have H' := Aside0.mk H
          clear H
          go_wp2_with (first | ((with_reducible refine gate_callee (f := 83) rfl ?_); refine goesL_ (some 139) rfl rfl Try.func83 (by kernel_rfl) rfl #[.slice (some ad421) l0.length c0, .int .i64 x7_7] rfl (by (try simp only [List.map_toArray, List.map_cons, List.map_nil]); rfl) ?_; (with_reducible refine (grapevineref13_item.calls k7 _ _ l0 x7_7 t451 t452 t453 t456 t457 _ ?side1 ?side2 A73.out).mono ?_); (case side1 => repeat (exact (Kd.C_below HR0.out HB.out))); (case side2 => exact HC0.out); rintro e w76 ⟨v454, rfl, ho0, hb⟩; refine ⟨_, rfl, ?_⟩; have n0_ := Aside0.mk (Kd.R_below (by exact HO_423006.out) hb); have n1_ := Aside0.mk (Kd.S_elder' (by exact HO_423007.out) (Kd.R_base ho0) hb); have n2_ := Aside0.mk (Kd.R_lower ho0 (below_size (by repeat (with_reducible exact HB.out)))); have n3_ := Aside0.mk (blk_below (g := gb420) (o := .cells #[.int .i64 x421000_7, .int .i64 x421001_7, .int .i64 x421002_7, .int .i64 x421003_7, .int .i64 x421004_7, .int .i64 x421005_7, .slice none 0 0, .slice none 0 0] 51 (0, 0)) (by exact BK420.out) hb); have n4_ := Aside0.mk (blk_below (g := gb422) (o := .cells #[.int .i64 (wrap64 (rd l0 0)), .int .i64 (rd x6_4 0), .int .i64 x423002_41, .int .i64 x423003_41, .int .i64 x423004_54, .int .i64 x423005_41, .slice Ao69 t443.length co69, u423007] 51 (0, 0)) (by exact BK422.out) hb); have n5_ := Aside0.mk (below_step (by repeat (with_reducible exact HB.out)) hb); clear HO_423006; clear HO_423007; clear BK420; clear BK422; clear HB; have HO_423006 := n0_; have HO_423007 := n1_; have HO455 := n2_; have BK420 := n3_; have BK422 := n4_; have HB := n5_; clear n0_ n1_ n2_ n3_ n4_ n5_; (try clear hb); (try clear ho0)) | ((with_reducible refine gate_dst (N := 19) rfl ?_); refine box_event ?hg (N := 19) ?hd (cs := #[.int .i64 0, .int .u32 0, .slice none 0 0]) (t := 62) ?hr ?_; (case hd => rfl); (case hg => rfl); (case hr => (go_simp; done)); intro gb458 hg w77 hbox hb; have n0_ := Aside0.mk (Kd.R_below (by exact HO_423006.out) hb); have n1_ := Aside0.mk (Kd.S_below (Kd.S_elderB (by exact HO_423007.out) gb458 (Nat.le_of_eq hg.symm)) hb); have n2_ := Aside0.mk (Kd.R_below (by exact HO455.out) hb); have n3_ := Aside0.mk (blk_below (g := gb420) (o := .cells #[.int .i64 x421000_7, .int .i64 x421001_7, .int .i64 x421002_7, .int .i64 x421003_7, .int .i64 x421004_7, .int .i64 x421005_7, .slice none 0 0, .slice none 0 0] 51 (0, 0)) (by exact BK420.out) hb); have n4_ := Aside0.mk (blk_below (g := gb422) (o := .cells #[.int .i64 (wrap64 (rd l0 0)), .int .i64 (rd x6_4 0), .int .i64 x423002_41, .int .i64 x423003_41, .int .i64 x423004_54, .int .i64 x423005_41, .slice Ao69 t443.length co69, u423007] 51 (0, 0)) (by exact BK422.out) hb); have n5_ := Aside0.mk (below_step (by repeat (with_reducible exact HB.out)) hb); have n6_ := Aside0.mk (hbox); have n7_ := Aside0.mk ((by rw [hg]; exact (below_size (by repeat (with_reducible exact HB.out))) : w.heap.size ≤ gb458)); have n8_ := Aside0.mk ((by rw [hg]; exact (below_size (by repeat (with_reducible exact HB.out))) : w.heap.size ≤ gb458)); have n9_ := Aside0.mk ((by rw [hg]; exact Nat.ne_of_lt (blk_lt (g := gb420) (o := .cells #[.int .i64 x421000_7, .int .i64 x421001_7, .int .i64 x421002_7, .int .i64 x421003_7, .int .i64 x421004_7, .int .i64 x421005_7, .slice none 0 0, .slice none 0 0] 51 (0, 0)) (by exact BK420.out)) : gb420 ≠ gb458)); have n10_ := Aside0.mk ((by rw [hg]; exact Nat.ne_of_gt (blk_lt (g := gb420) (o := .cells #[.int .i64 x421000_7, .int .i64 x421001_7, .int .i64 x421002_7, .int .i64 x421003_7, .int .i64 x421004_7, .int .i64 x421005_7, .slice none 0 0, .slice none 0 0] 51 (0, 0)) (by exact BK420.out)) : gb458 ≠ gb420)); have n11_ := Aside0.mk ((by rw [hg]; exact Nat.ne_of_lt (blk_lt (g := gb422) (o := .cells #[.int .i64 (wrap64 (rd l0 0)), .int .i64 (rd x6_4 0), .int .i64 x423002_41, .int .i64 x423003_41, .int .i64 x423004_54, .int .i64 x423005_41, .slice Ao69 t443.length co69, u423007] 51 (0, 0)) (by exact BK422.out)) : gb422 ≠ gb458)); have n12_ := Aside0.mk ((by rw [hg]; exact Nat.ne_of_gt (blk_lt (g := gb422) (o := .cells #[.int .i64 (wrap64 (rd l0 0)), .int .i64 (rd x6_4 0), .int .i64 x423002_41, .int .i64 x423003_41, .int .i64 x423004_54, .int .i64 x423005_41, .slice Ao69 t443.length co69, u423007] 51 (0, 0)) (by exact BK422.out)) : gb458 ≠ gb422)); clear HO_423006; clear HO_423007; clear HO455; clear BK420; clear BK422; clear HB; have HO_423006 := n0_; have HO_423007 := n1_; have HO455 := n2_; have BK420 := n3_; have BK422 := n4_; have HB := n5_; have BK458 := n6_; have GW458 := n7_; have GE458 := n8_; have NB420_458 := n9_; have NB458_420 := n10_; have NB422_458 := n11_; have NB458_422 := n12_; clear n0_ n1_ n2_ n3_ n4_ n5_ n6_ n7_ n8_ n9_ n10_ n11_ n12_; clear hb hbox hg; have hnb78 := NB458_420.out; have hnc78 := NB420_458.out; have hnb79 := NB458_422.out; have hnc79 := NB422_458.out; obtain ⟨hcz80_0, hcz80_1, hcz80_2, hfz80_0, hfz80_1, hfz80_2⟩ := cz3 BK458.out; obtain ⟨Ao81, co81, eo81⟩ := Kd.R_slice HO455.out; subst eo81) | ((with_reducible refine gate_store (t := 62) (p := 19) rfl ?_); refine store_event (t := 62) (p := 19) (v := ?vo_w82) (w1 := (((w77.setCell ⟨gb458, 0, none⟩ (.int .i64 t451)).setCell ⟨gb458, 1, none⟩ (.int .u32 t452)).setCell ⟨gb458, 2, none⟩ (.slice Ao81 t453.length co81))) ?hg ?ho ?hn ?hr ?_; (case ho => rfl); (case hg => rfl); (case hn => rfl); (case hr => (go_simp; done)); intro w82 hw; have n0_ : Aside0 (Kd.R k43 43 w82 w.heap.size (fun _ => True) (.slice Ao69 t443.length co69) t443) := ⟨(by rw [hw]; exact (by exact Kd.R_mono (Kd.R_far (p := ⟨gb458, 2, none⟩) (Kd.R_far (p := ⟨gb458, 1, none⟩) (Kd.R_far (p := ⟨gb458, 0, none⟩) (Kd.R_types HO_423006.out BK458.out (by decide)) (fun _ hk => hk.2) (.int .i64 t451)) (fun _ hk => hk.2) (.int .u32 t452)) (fun _ hk => hk.2) (.slice Ao81 t453.length co81)) (fun _ hk => trivial)))⟩; have n1_ : Aside0 (Kd.S k62 62 w82 w.heap.size (fun k_ => some k_ ≠ (.slice Ao81 t453.length co81 : Value).ownBlock ∧ k_ ≠ gb458) u423007 x423007_7) := ⟨(by rw [hw]; exact (by exact Kd.S_mono (Kd.S_far (p := ⟨gb458, 2, none⟩) (Kd.S_far (p := ⟨gb458, 1, none⟩) (Kd.S_far (p := ⟨gb458, 0, none⟩) (Kd.S_mono HO_423007.out (fun k_ hk => (⟨hk, hk.2⟩ : _ ∧ k_ ≠ gb458))) (fun _ hk => hk.2) (.int .i64 t451)) (fun _ hk => hk.2) (.int .u32 t452)) (fun _ hk => hk.2) (.slice Ao81 t453.length co81)) (fun _ hk => ⟨hk.1.1.2, hk.1.2⟩)))⟩; have n2_ : Aside0 (Kd.R (Kd.int .u8) 5 w82 w.heap.size (fun _ => True) (.slice Ao81 t453.length co81) t453) := ⟨(by rw [hw]; exact (by exact Kd.R_mono (Kd.R_far (p := ⟨gb458, 2, none⟩) (Kd.R_far (p := ⟨gb458, 1, none⟩) (Kd.R_far (p := ⟨gb458, 0, none⟩) (Kd.R_types HO455.out BK458.out (by decide)) (fun _ hk => hk.2) (.int .i64 t451)) (fun _ hk => hk.2) (.int .u32 t452)) (fun _ hk => hk.2) (.slice Ao81 t453.length co81)) (fun _ hk => trivial)))⟩; have n3_ : Aside0 (w82.heap[gb420]? = some (.cells #[.int .i64 x421000_7, .int .i64 x421001_7, .int .i64 x421002_7, .int .i64 x421003_7, .int .i64 x421004_7, .int .i64 x421005_7, .slice none 0 0, .slice none 0 0] 51 (0, 0))) := ⟨(by rw [hw]; exact (by refine blk_far ?_ NB420_458.out _; refine blk_far ?_ NB420_458.out _; refine blk_far ?_ NB420_458.out _; exact BK420.out))⟩; have n4_ : Aside0 (w82.heap[gb422]? = some (.cells #[.int .i64 (wrap64 (rd l0 0)), .int .i64 (rd x6_4 0), .int .i64 x423002_41, .int .i64 x423003_41, .int .i64 x423004_54, .int .i64 x423005_41, .slice Ao69 t443.length co69, u423007] 51 (0, 0))) := ⟨(by rw [hw]; exact (by refine blk_far ?_ NB422_458.out _; refine blk_far ?_ NB422_458.out _; refine blk_far ?_ NB422_458.out _; exact BK422.out))⟩; have n5_ : Aside0 (w82.heap[gb458]? = some (.cells #[.int .i64 t451, .int .u32 t452, .slice Ao81 t453.length co81] 62 (0, 0))) := ⟨(by rw [hw]; exact (by refine blk_put (cs := #[.int .i64 t451, .int .u32 t452, .slice none 0 0]) ?_ 2 _ rfl; refine blk_put (cs := #[.int .i64 t451, .int .u32 0, .slice none 0 0]) ?_ 1 _ rfl; refine blk_put (cs := #[.int .i64 0, .int .u32 0, .slice none 0 0]) ?_ 0 _ rfl; exact BK458.out))⟩; have n6_ : Aside0 (Below w.heap.size w w82) := ⟨(by rw [hw]; exact (by repeat (with_reducible first | exact HB.out | refine below_set ?_ GE458.out)))⟩; clear hw; clear HO_423006; clear HO_423007; clear HO455; clear BK420; clear BK422; clear BK458; clear HB; have HO_423006 := n0_; have HO_423007 := n1_; have HO455 := n2_; have BK420 := n3_; have BK422 := n4_; have BK458 := n5_; have HB := n6_; clear n0_ n1_ n2_ n3_ n4_ n5_ n6_; have hnb83 := NB422_420.out; have hnc83 := NB420_422.out; obtain ⟨hcz84_0, hcz84_1, hcz84_2, hcz84_3, hcz84_4, hcz84_5, hcz84_6, hcz84_7, hfz84_0, hfz84_1, hfz84_2, hfz84_3, hfz84_4, hfz84_5, hfz84_6, hfz84_7⟩ := cz8 BK422.out; obtain ⟨hcz85_0, hcz85_1, hcz85_2, hfz85_0, hfz85_1, hfz85_2⟩ := cz3 BK458.out) | ((with_reducible refine gate_builtin (b := .append) (xs := #[.tmp 148, .tmp 150]) rfl ?_); at_builtin; refine Kd.S_append k62 (w0 := w) w.heap.size rfl (.tmp 148) (.tmp 150) 49 62 (.agg #[(.int .i64 0), (.int .u32 0), (.slice none 0 0)]) 40 rfl Try.underlying49 info62 rfl (by decide) (by omega) u423007 x423007_7 (⟨t451, t452, t453⟩ : S62) [.int .i64 t451, .int .u32 t452, .slice Ao81 t453.length co81] (fun k_ => k_ ≠ gb458) (fun k_ => some k_ = (.slice Ao81 t453.length co81 : Value).ownBlock) rfl rfl ?aP (fun k_ hk_ => ((Kd.R_mono (ok' := fun k_ => (fun k_ => k_ ≠ gb458) k_ ∧ some k_ ≠ (u423007 : Value).ownBlock) (Kd.R_types (Kd.R_apart' (HO455.out) (Kd.S_typed HO_423007.out) (by decide)) BK458.out (by decide)) (fun k_ hk => ⟨hk.2, hk.1.2⟩))).1 k_ hk_.symm) ?aF ?aO ?aB ?aS ?aL ?_; (case aP => exact k62_mkM _ _ _ (⟨t451, t452, t453⟩ : S62) (Kd.R_mono (Kd.R_tight rfl (Kd.R_mono (ok' := fun k_ => (fun k_ => k_ ≠ gb458) k_ ∧ some k_ ≠ (u423007 : Value).ownBlock) (Kd.R_types (Kd.R_apart' (HO455.out) (Kd.S_typed HO_423007.out) (by decide)) BK458.out (by decide)) (fun k_ hk => ⟨hk.2, hk.1.2⟩))) (fun _ h_ => h_))); (case aB => exact (by repeat (with_reducible exact HB.out))); (case aF => exact (fun k_ hk => Kd.freshB (g := gb458) (o := .cells #[.int .i64 t451, .int .u32 t452, .slice Ao81 t453.length co81] 62 (0, 0)) (by exact BK458.out) k_ hk)); (case aO => exact (by exact Kd.S_mono HO_423007.out (fun k_ hk => ⟨hk.2, fun e_ => hk.1 e_⟩))); (case aS => exact (below_size (by repeat (with_reducible exact HB.out)))); (case aL => have := LMc75.out; omega); intro v460 w86 ho hb hg hat; rw [← Ny459.out] at ho; have n0_ := Aside0.mk (Kd.R_over' (by exact HO_423006.out) (Kd.S_typed (by exact HO_423007.out)) (by decide) hg); have n1_ := Aside0.mk (blk_grown (g := gb420) (o := .cells #[.int .i64 x421000_7, .int .i64 x421001_7, .int .i64 x421002_7, .int .i64 x421003_7, .int .i64 x421004_7, .int .i64 x421005_7, .slice none 0 0, .slice none 0 0] 51 (0, 0)) (by exact BK420.out) hg (Kd.S_ne HO_423007.out BK420.out (by decide))); have n2_ := Aside0.mk (blk_grown (g := gb422) (o := .cells #[.int .i64 (wrap64 (rd l0 0)), .int .i64 (rd x6_4 0), .int .i64 x423002_41, .int .i64 x423003_41, .int .i64 x423004_54, .int .i64 x423005_41, .slice Ao69 t443.length co69, u423007] 51 (0, 0)) (by exact BK422.out) hg (Kd.S_ne HO_423007.out BK422.out (by decide))); have n3_ := Aside0.mk (blk_grown (g := gb458) (o := .cells #[.int .i64 t451, .int .u32 t452, .slice Ao81 t453.length co81] 62 (0, 0)) (by exact BK458.out) hg (Kd.S_away HO_423007.out (fun _ hk => hk.2))); have n4_ := Aside0.mk (hb); have n5_ := Aside0.mk (ho); clear HO_423006; clear BK420; clear BK422; clear BK458; clear HB; clear HO_423007; clear HO455; have HO_423006 := n0_; have BK420 := n1_; have BK422 := n2_; have BK458 := n3_; have HB := n4_; have HO461 := n5_; clear n0_ n1_ n2_ n3_ n4_ n5_; clear ho hb hg hat; obtain ⟨Ao87, co87, eo87⟩ := Kd.S_slice HO461.out; subst eo87; obtain ⟨hcz88_0, hcz88_1, hcz88_2, hcz88_3, hcz88_4, hcz88_5, hcz88_6, hcz88_7, hfz88_0, hfz88_1, hfz88_2, hfz88_3, hfz88_4, hfz88_5, hfz88_6, hfz88_7⟩ := cz8 BK422.out))
          go_roundg k7
          case measure => have := HJ5.out; have := HJ20.out; have := HJ28.out; have := HK4.out; have := HJ41.out; have := HJ54.out; have := HK7.out; omega
          case rel => exact ⟨(t456), (wrap64 (x18_7 + 1)), (x421000_7), (x421001_7), (x421002_7), (x421003_7), (x421004_7), (x421005_7), (y459), (.slice Ao87 y459.length co87), (by rfl), (by rfl), H', ⟨by have := HJ5.out; have := HJ20.out; have := HJ28.out; have := HK4.out; have := HJ41.out; have := HJ54.out; have := HK7.out; omega⟩, ⟨by exact Kd.R_mono (Kd.R_far (p := ⟨gb422, 7, none⟩) (Kd.R_types HO_423006.out BK422.out (by decide)) (fun _ hk => hk.2) (.slice Ao87 y459.length co87)) (fun _ hk => trivial)⟩, ⟨by exact Kd.S_mono (Kd.S_far (p := ⟨gb422, 7, none⟩) (Kd.S_types HO461.out BK422.out (by decide)) (fun _ hk => hk.2) (.slice Ao87 y459.length co87)) (fun _ hk => trivial)⟩, ⟨by refine blk_far ?_ NB420_422.out _; exact BK420.out⟩, ⟨by refine blk_put (cs := #[.int .i64 (wrap64 (rd l0 0)), .int .i64 (rd x6_4 0), .int .i64 x423002_41, .int .i64 x423003_41, .int .i64 x423004_54, .int .i64 x423005_41, .slice Ao69 t443.length co69, u423007]) ?_ 7 _ rfl; exact BK422.out⟩, ⟨by repeat (with_reducible first | exact HB.out | refine below_set ?_ GE422.out)⟩⟩
         rw [if_neg c75] at H
         exact absurd H (by simp)
        rw [if_neg c74] at H
        have c74b0 : (t457 == 0) = false := beq_eq_false_iff_ne.mpr c74
        have c74b1 : (t457 != 0) = true := bne_iff_ne.mpr c74
        simp only [Option.some.injEq, Prod.mk.injEq] at H
        obtain ⟨rfl, rfl, rfl, rfl, rfl, rfl, rfl, rfl, rfl⟩ := H
        go_wp2_with (first | ((with_reducible refine gate_callee (f := 83) rfl ?_); refine goesL_ (some 139) rfl rfl Try.func83 (by kernel_rfl) rfl #[.slice (some ad421) l0.length c0, .int .i64 x7_7] rfl (by (try simp only [List.map_toArray, List.map_cons, List.map_nil]); rfl) ?_; (with_reducible refine (grapevineref13_item.calls k7 _ _ l0 x7_7 t451 t452 t453 t456 t457 _ ?side1 ?side2 A73.out).mono ?_); (case side1 => repeat (exact (Kd.C_below HR0.out HB.out))); (case side2 => exact HC0.out); rintro e w89 ⟨v454, rfl, ho0, hb⟩; refine ⟨_, rfl, ?_⟩; have n0_ := Aside0.mk (Kd.R_below (by exact HO_423006.out) hb); have n1_ := Aside0.mk (Kd.S_elder' (by exact HO_423007.out) (Kd.R_base ho0) hb); have n2_ := Aside0.mk (Kd.R_lower ho0 (below_size (by repeat (with_reducible exact HB.out)))); have n3_ := Aside0.mk (blk_below (g := gb420) (o := .cells #[.int .i64 x421000_7, .int .i64 x421001_7, .int .i64 x421002_7, .int .i64 x421003_7, .int .i64 x421004_7, .int .i64 x421005_7, .slice none 0 0, .slice none 0 0] 51 (0, 0)) (by exact BK420.out) hb); have n4_ := Aside0.mk (blk_below (g := gb422) (o := .cells #[.int .i64 (wrap64 (rd l0 0)), .int .i64 (rd x6_4 0), .int .i64 x423002_41, .int .i64 x423003_41, .int .i64 x423004_54, .int .i64 x423005_41, .slice Ao69 t443.length co69, u423007] 51 (0, 0)) (by exact BK422.out) hb); have n5_ := Aside0.mk (below_step (by repeat (with_reducible exact HB.out)) hb); clear HO_423006; clear HO_423007; clear BK420; clear BK422; clear HB; have HO_423006 := n0_; have HO_423007 := n1_; have HO455 := n2_; have BK420 := n3_; have BK422 := n4_; have HB := n5_; clear n0_ n1_ n2_ n3_ n4_ n5_; (try clear hb); (try clear ho0)) | ((with_reducible refine gate_dst (N := 19) rfl ?_); refine box_event ?hg (N := 19) ?hd (cs := #[.int .i64 0, .int .u32 0, .slice none 0 0]) (t := 62) ?hr ?_; (case hd => rfl); (case hg => rfl); (case hr => (go_simp; done)); intro gb458 hg w90 hbox hb; have n0_ := Aside0.mk (Kd.R_below (by exact HO_423006.out) hb); have n1_ := Aside0.mk (Kd.S_below (Kd.S_elderB (by exact HO_423007.out) gb458 (Nat.le_of_eq hg.symm)) hb); have n2_ := Aside0.mk (Kd.R_below (by exact HO455.out) hb); have n3_ := Aside0.mk (blk_below (g := gb420) (o := .cells #[.int .i64 x421000_7, .int .i64 x421001_7, .int .i64 x421002_7, .int .i64 x421003_7, .int .i64 x421004_7, .int .i64 x421005_7, .slice none 0 0, .slice none 0 0] 51 (0, 0)) (by exact BK420.out) hb); have n4_ := Aside0.mk (blk_below (g := gb422) (o := .cells #[.int .i64 (wrap64 (rd l0 0)), .int .i64 (rd x6_4 0), .int .i64 x423002_41, .int .i64 x423003_41, .int .i64 x423004_54, .int .i64 x423005_41, .slice Ao69 t443.length co69, u423007] 51 (0, 0)) (by exact BK422.out) hb); have n5_ := Aside0.mk (below_step (by repeat (with_reducible exact HB.out)) hb); have n6_ := Aside0.mk (hbox); have n7_ := Aside0.mk ((by rw [hg]; exact (below_size (by repeat (with_reducible exact HB.out))) : w.heap.size ≤ gb458)); have n8_ := Aside0.mk ((by rw [hg]; exact (below_size (by repeat (with_reducible exact HB.out))) : w.heap.size ≤ gb458)); have n9_ := Aside0.mk ((by rw [hg]; exact Nat.ne_of_lt (blk_lt (g := gb420) (o := .cells #[.int .i64 x421000_7, .int .i64 x421001_7, .int .i64 x421002_7, .int .i64 x421003_7, .int .i64 x421004_7, .int .i64 x421005_7, .slice none 0 0, .slice none 0 0] 51 (0, 0)) (by exact BK420.out)) : gb420 ≠ gb458)); have n10_ := Aside0.mk ((by rw [hg]; exact Nat.ne_of_gt (blk_lt (g := gb420) (o := .cells #[.int .i64 x421000_7, .int .i64 x421001_7, .int .i64 x421002_7, .int .i64 x421003_7, .int .i64 x421004_7, .int .i64 x421005_7, .slice none 0 0, .slice none 0 0] 51 (0, 0)) (by exact BK420.out)) : gb458 ≠ gb420)); have n11_ := Aside0.mk ((by rw [hg]; exact Nat.ne_of_lt (blk_lt (g := gb422) (o := .cells #[.int .i64 (wrap64 (rd l0 0)), .int .i64 (rd x6_4 0), .int .i64 x423002_41, .int .i64 x423003_41, .int .i64 x423004_54, .int .i64 x423005_41, .slice Ao69 t443.length co69, u423007] 51 (0, 0)) (by exact BK422.out)) : gb422 ≠ gb458)); have n12_ := Aside0.mk ((by rw [hg]; exact Nat.ne_of_gt (blk_lt (g := gb422) (o := .cells #[.int .i64 (wrap64 (rd l0 0)), .int .i64 (rd x6_4 0), .int .i64 x423002_41, .int .i64 x423003_41, .int .i64 x423004_54, .int .i64 x423005_41, .slice Ao69 t443.length co69, u423007] 51 (0, 0)) (by exact BK422.out)) : gb458 ≠ gb422)); clear HO_423006; clear HO_423007; clear HO455; clear BK420; clear BK422; clear HB; have HO_423006 := n0_; have HO_423007 := n1_; have HO455 := n2_; have BK420 := n3_; have BK422 := n4_; have HB := n5_; have BK458 := n6_; have GW458 := n7_; have GE458 := n8_; have NB420_458 := n9_; have NB458_420 := n10_; have NB422_458 := n11_; have NB458_422 := n12_; clear n0_ n1_ n2_ n3_ n4_ n5_ n6_ n7_ n8_ n9_ n10_ n11_ n12_; clear hb hbox hg; have hnb91 := NB458_420.out; have hnc91 := NB420_458.out; have hnb92 := NB458_422.out; have hnc92 := NB422_458.out; obtain ⟨hcz93_0, hcz93_1, hcz93_2, hfz93_0, hfz93_1, hfz93_2⟩ := cz3 BK458.out; obtain ⟨Ao94, co94, eo94⟩ := Kd.R_slice HO455.out; subst eo94; have hnb95 := NB420_422.out; have hnc95 := NB422_420.out; obtain ⟨hcz96_0, hcz96_1, hcz96_2, hcz96_3, hcz96_4, hcz96_5, hcz96_6, hcz96_7, hfz96_0, hfz96_1, hfz96_2, hfz96_3, hfz96_4, hfz96_5, hfz96_6, hfz96_7⟩ := cz8 BK420.out))
        refine bodyPost_ret (results_ct rfl _ _ gb420 51 #[.int .i64 0, .int .i64 0, .int .i64 0, .int .i64 0, .int .i64 0, .int .i64 0, .slice none 0 0, .slice none 0 0] (0, 0) _ rfl (by refine blk_put (cs := #[.int .i64 0, .int .i64 0, .int .i64 0, .int .i64 0, .int .i64 0, .int .i64 0, .slice none 0 0, .slice none 0 0]) ?_ 7 _ rfl; refine blk_put (cs := #[.int .i64 0, .int .i64 0, .int .i64 0, .int .i64 0, .int .i64 0, .int .i64 0, .slice none 0 0, .slice none 0 0]) ?_ 6 _ rfl; refine blk_put (cs := #[.int .i64 0, .int .i64 0, .int .i64 0, .int .i64 0, .int .i64 0, .int .i64 x421005_7, .slice none 0 0, .slice none 0 0]) ?_ 5 _ rfl; refine blk_put (cs := #[.int .i64 0, .int .i64 0, .int .i64 0, .int .i64 0, .int .i64 x421004_7, .int .i64 x421005_7, .slice none 0 0, .slice none 0 0]) ?_ 4 _ rfl; refine blk_put (cs := #[.int .i64 0, .int .i64 0, .int .i64 0, .int .i64 x421003_7, .int .i64 x421004_7, .int .i64 x421005_7, .slice none 0 0, .slice none 0 0]) ?_ 3 _ rfl; refine blk_put (cs := #[.int .i64 0, .int .i64 0, .int .i64 x421002_7, .int .i64 x421003_7, .int .i64 x421004_7, .int .i64 x421005_7, .slice none 0 0, .slice none 0 0]) ?_ 2 _ rfl; refine blk_put (cs := #[.int .i64 0, .int .i64 x421001_7, .int .i64 x421002_7, .int .i64 x421003_7, .int .i64 x421004_7, .int .i64 x421005_7, .slice none 0 0, .slice none 0 0]) ?_ 1 _ rfl; refine blk_put (cs := #[.int .i64 x421000_7, .int .i64 x421001_7, .int .i64 x421002_7, .int .i64 x421003_7, .int .i64 x421004_7, .int .i64 x421005_7, .slice none 0 0, .slice none 0 0]) ?_ 0 _ rfl; refine blk_far ?_ NB420_458.out _; refine blk_far ?_ NB420_458.out _; refine blk_far ?_ NB420_458.out _; exact BK420.out) Try.underlying51 rfl (by kernel_rfl)) rfl ?_
        exact ⟨_, _, by rfl, by exact Kd.R_nil _ _ _ _ _, by exact Kd.S_nil _ _ _ _ _, by repeat (with_reducible first | exact HB.out | refine below_set ?_ GE420.out | refine below_set ?_ GE458.out)⟩
       rw [if_neg c72] at H
       have c72b0 : decide (x18_7 < t448) = false := decide_eq_false c72
       clear c72
       have H' := Aside0.mk H
       clear H
       go_wp2
       go_meet
       case rel => exact ⟨_, (x7_7), (x421000_7), (x421001_7), (x421002_7), (x421003_7), (x421004_7), (x421005_7), (t443), (x423007_7), (.slice Ao69 t443.length co69), (u423007), (by rfl), H', ⟨by have := HJ5.out; have := HJ20.out; have := HJ28.out; have := HK4.out; have := HJ41.out; have := HJ54.out; have := HK7.out; omega⟩, ⟨by exact HO_423006.out⟩, ⟨by exact HO_423007.out⟩, ⟨by exact BK420.out⟩, ⟨by exact BK422.out⟩, ⟨by repeat (with_reducible exact HB.out)⟩⟩
      rw [if_neg c67] at H
      have c67b0 : (t450 == 0) = false := beq_eq_false_iff_ne.mpr c67
      have c67b1 : (t450 != 0) = true := bne_iff_ne.mpr c67
      simp only [Option.some.injEq, Prod.mk.injEq] at H
      obtain ⟨rfl, rfl, rfl, rfl, rfl, rfl, rfl, rfl, rfl⟩ := H
      go_wp2_with (first | ((with_reducible refine gate_callee (f := 51) rfl ?_); refine goesL_ (some 109) rfl rfl Try.func51 (by kernel_rfl) rfl #[.slice (some ad421) l0.length c0, .int .i64 x7_4] rfl (by (try simp only [List.map_toArray, List.map_cons, List.map_nil]); rfl) ?_; (with_reducible refine (grapevineref08_Take.calls kj54 _ _ l0 x7_4 t443 t444 t445 _ ?side1 ?side2 A64.out).mono ?_); (case side1 => repeat (exact (Kd.C_below HR0.out HB.out))); (case side2 => exact HC0.out); rintro e w97 ⟨v446, rfl, ho0, hb⟩; refine ⟨_, rfl, ?_⟩; have n0_ := Aside0.mk (Kd.R_lower ho0 (below_size (by repeat (with_reducible exact HB.out)))); have n1_ := Aside0.mk (blk_below (g := gb420) (o := .cells #[.int .i64 x421000_4, .int .i64 x421001_4, .int .i64 x421002_4, .int .i64 x421003_4, .int .i64 x421004_4, .int .i64 x421005_4, .slice none 0 0, .slice none 0 0] 51 (0, 0)) (by exact BK420.out) hb); have n2_ := Aside0.mk (blk_below (g := gb422) (o := .cells #[.int .i64 (wrap64 (rd l0 0)), .int .i64 (rd x6_4 0), .int .i64 x423002_41, .int .i64 x423003_41, .int .i64 x423004_54, .int .i64 x423005_41, .slice none 0 0, .slice none 0 0] 51 (0, 0)) (by exact BK422.out) hb); have n3_ := Aside0.mk (below_step (by repeat (with_reducible exact HB.out)) hb); clear BK420; clear BK422; clear HB; have HO447 := n0_; have BK420 := n1_; have BK422 := n2_; have HB := n3_; clear n0_ n1_ n2_ n3_; (try clear hb); (try clear ho0); obtain ⟨Ao98, co98, eo98⟩ := Kd.R_slice HO447.out; subst eo98; have hnb99 := NB422_420.out; have hnc99 := NB420_422.out; obtain ⟨hcz100_0, hcz100_1, hcz100_2, hcz100_3, hcz100_4, hcz100_5, hcz100_6, hcz100_7, hfz100_0, hfz100_1, hfz100_2, hfz100_3, hfz100_4, hfz100_5, hfz100_6, hfz100_7⟩ := cz8 BK422.out) | ((with_reducible refine gate_callee (f := 82) rfl ?_); refine goesL_ (some 122) rfl rfl Try.func82 (by kernel_rfl) rfl #[.slice (some ad421) l0.length c0, .int .i64 t444, .int .u64 8] rfl (by (try simp only [List.map_toArray, List.map_cons, List.map_nil]); rfl) ?_; (with_reducible refine (grapevineref13_upto.calls kj54 _ _ l0 t444 8 t448 t449 t450 _ ?side1 ?side2 A66.out).mono ?_); (case side1 => exact Kd.C_below HR0.out (by repeat (with_reducible first | exact HB.out | refine below_set ?_ GE422.out))); (case side2 => exact HC0.out); rintro e w' ⟨rfl, ⟨nd, rfl⟩⟩; refine ⟨_, rfl, ?_⟩; obtain ⟨hcz101_0, hcz101_1, hcz101_2, hcz101_3, hcz101_4, hcz101_5, hcz101_6, hcz101_7, hfz101_0, hfz101_1, hfz101_2, hfz101_3, hfz101_4, hfz101_5, hfz101_6, hfz101_7⟩ := cz8 BK420.out))
      refine bodyPost_ret (results_ct rfl _ _ gb420 51 #[.int .i64 0, .int .i64 0, .int .i64 0, .int .i64 0, .int .i64 0, .int .i64 0, .slice none 0 0, .slice none 0 0] (0, 0) _ rfl (by refine blk_put (cs := #[.int .i64 0, .int .i64 0, .int .i64 0, .int .i64 0, .int .i64 0, .int .i64 0, .slice none 0 0, .slice none 0 0]) ?_ 7 _ rfl; refine blk_put (cs := #[.int .i64 0, .int .i64 0, .int .i64 0, .int .i64 0, .int .i64 0, .int .i64 0, .slice none 0 0, .slice none 0 0]) ?_ 6 _ rfl; refine blk_put (cs := #[.int .i64 0, .int .i64 0, .int .i64 0, .int .i64 0, .int .i64 0, .int .i64 x421005_4, .slice none 0 0, .slice none 0 0]) ?_ 5 _ rfl; refine blk_put (cs := #[.int .i64 0, .int .i64 0, .int .i64 0, .int .i64 0, .int .i64 x421004_4, .int .i64 x421005_4, .slice none 0 0, .slice none 0 0]) ?_ 4 _ rfl; refine blk_put (cs := #[.int .i64 0, .int .i64 0, .int .i64 0, .int .i64 x421003_4, .int .i64 x421004_4, .int .i64 x421005_4, .slice none 0 0, .slice none 0 0]) ?_ 3 _ rfl; refine blk_put (cs := #[.int .i64 0, .int .i64 0, .int .i64 x421002_4, .int .i64 x421003_4, .int .i64 x421004_4, .int .i64 x421005_4, .slice none 0 0, .slice none 0 0]) ?_ 2 _ rfl; refine blk_put (cs := #[.int .i64 0, .int .i64 x421001_4, .int .i64 x421002_4, .int .i64 x421003_4, .int .i64 x421004_4, .int .i64 x421005_4, .slice none 0 0, .slice none 0 0]) ?_ 1 _ rfl; refine blk_put (cs := #[.int .i64 x421000_4, .int .i64 x421001_4, .int .i64 x421002_4, .int .i64 x421003_4, .int .i64 x421004_4, .int .i64 x421005_4, .slice none 0 0, .slice none 0 0]) ?_ 0 _ rfl; (with_reducible repeat (refine blk_drewN ?_ _)); refine blk_far ?_ NB420_422.out _; exact BK420.out) Try.underlying51 rfl (by kernel_rfl)) rfl ?_
      exact ⟨_, _, by rfl, by exact Kd.R_nil _ _ _ _ _, by exact Kd.S_nil _ _ _ _ _, by repeat (with_reducible first | exact HB.out | apply pw_below_drewN | refine below_set ?_ GE420.out | refine below_set ?_ GE422.out)⟩
     rw [if_neg c65] at H
     have c65b0 : (t445 == 0) = false := beq_eq_false_iff_ne.mpr c65
     have c65b1 : (t445 != 0) = true := bne_iff_ne.mpr c65
     simp only [Option.some.injEq, Prod.mk.injEq] at H
     obtain ⟨rfl, rfl, rfl, rfl, rfl, rfl, rfl, rfl, rfl⟩ := H
     go_wp2_with (((with_reducible refine gate_callee (f := 51) rfl ?_); refine goesL_ (some 109) rfl rfl Try.func51 (by kernel_rfl) rfl #[.slice (some ad421) l0.length c0, .int .i64 x7_4] rfl (by (try simp only [List.map_toArray, List.map_cons, List.map_nil]); rfl) ?_; (with_reducible refine (grapevineref08_Take.calls kj54 _ _ l0 x7_4 t443 t444 t445 _ ?side1 ?side2 A64.out).mono ?_); (case side1 => repeat (exact (Kd.C_below HR0.out HB.out))); (case side2 => exact HC0.out); rintro e w102 ⟨v446, rfl, ho0, hb⟩; refine ⟨_, rfl, ?_⟩; have n0_ := Aside0.mk (Kd.R_lower ho0 (below_size (by repeat (with_reducible exact HB.out)))); have n1_ := Aside0.mk (blk_below (g := gb420) (o := .cells #[.int .i64 x421000_4, .int .i64 x421001_4, .int .i64 x421002_4, .int .i64 x421003_4, .int .i64 x421004_4, .int .i64 x421005_4, .slice none 0 0, .slice none 0 0] 51 (0, 0)) (by exact BK420.out) hb); have n2_ := Aside0.mk (blk_below (g := gb422) (o := .cells #[.int .i64 (wrap64 (rd l0 0)), .int .i64 (rd x6_4 0), .int .i64 x423002_41, .int .i64 x423003_41, .int .i64 x423004_54, .int .i64 x423005_41, .slice none 0 0, .slice none 0 0] 51 (0, 0)) (by exact BK422.out) hb); have n3_ := Aside0.mk (below_step (by repeat (with_reducible exact HB.out)) hb); clear BK420; clear BK422; clear HB; have HO447 := n0_; have BK420 := n1_; have BK422 := n2_; have HB := n3_; clear n0_ n1_ n2_ n3_; (try clear hb); (try clear ho0); have hnb103 := NB420_422.out; have hnc103 := NB422_420.out; obtain ⟨hcz104_0, hcz104_1, hcz104_2, hcz104_3, hcz104_4, hcz104_5, hcz104_6, hcz104_7, hfz104_0, hfz104_1, hfz104_2, hfz104_3, hfz104_4, hfz104_5, hfz104_6, hfz104_7⟩ := cz8 BK420.out))
     refine bodyPost_ret (results_ct rfl _ _ gb420 51 #[.int .i64 0, .int .i64 0, .int .i64 0, .int .i64 0, .int .i64 0, .int .i64 0, .slice none 0 0, .slice none 0 0] (0, 0) _ rfl (by refine blk_put (cs := #[.int .i64 0, .int .i64 0, .int .i64 0, .int .i64 0, .int .i64 0, .int .i64 0, .slice none 0 0, .slice none 0 0]) ?_ 7 _ rfl; refine blk_put (cs := #[.int .i64 0, .int .i64 0, .int .i64 0, .int .i64 0, .int .i64 0, .int .i64 0, .slice none 0 0, .slice none 0 0]) ?_ 6 _ rfl; refine blk_put (cs := #[.int .i64 0, .int .i64 0, .int .i64 0, .int .i64 0, .int .i64 0, .int .i64 x421005_4, .slice none 0 0, .slice none 0 0]) ?_ 5 _ rfl; refine blk_put (cs := #[.int .i64 0, .int .i64 0, .int .i64 0, .int .i64 0, .int .i64 x421004_4, .int .i64 x421005_4, .slice none 0 0, .slice none 0 0]) ?_ 4 _ rfl; refine blk_put (cs := #[.int .i64 0, .int .i64 0, .int .i64 0, .int .i64 x421003_4, .int .i64 x421004_4, .int .i64 x421005_4, .slice none 0 0, .slice none 0 0]) ?_ 3 _ rfl; refine blk_put (cs := #[.int .i64 0, .int .i64 0, .int .i64 x421002_4, .int .i64 x421003_4, .int .i64 x421004_4, .int .i64 x421005_4, .slice none 0 0, .slice none 0 0]) ?_ 2 _ rfl; refine blk_put (cs := #[.int .i64 0, .int .i64 x421001_4, .int .i64 x421002_4, .int .i64 x421003_4, .int .i64 x421004_4, .int .i64 x421005_4, .slice none 0 0, .slice none 0 0]) ?_ 1 _ rfl; refine blk_put (cs := #[.int .i64 x421000_4, .int .i64 x421001_4, .int .i64 x421002_4, .int .i64 x421003_4, .int .i64 x421004_4, .int .i64 x421005_4, .slice none 0 0, .slice none 0 0]) ?_ 0 _ rfl; exact BK420.out) Try.underlying51 rfl (by kernel_rfl)) rfl ?_
     exact ⟨_, _, by rfl, by exact Kd.R_nil _ _ _ _ _, by exact Kd.S_nil _ _ _ _ _, by repeat (with_reducible first | exact HB.out | apply pw_below_drewN | refine below_set ?_ GE420.out | refine below_set ?_ GE422.out)⟩
    rw [if_neg c63] at H
    have c63b0 : ((wrap64 (rd l0 0)) == 1) = false := beq_eq_false_iff_ne.mpr c63
    have c63b1 : ((wrap64 (rd l0 0)) != 1) = true := bne_iff_ne.mpr c63
    (rw [c63b0])
    have H' := Aside0.mk H
    clear H
    go_wp2
    go_meet
    case rel => exact ⟨_, (x7_4), (x421000_4), (x421001_4), (x421002_4), (x421003_4), (x421004_4), (x421005_4), (([] : List (S43))), (([] : List (S62))), (.slice none 0 0), (.slice none 0 0), (by rfl), H', ⟨by have := HJ5.out; have := HJ20.out; have := HJ28.out; have := HK4.out; have := HJ41.out; have := HJ54.out; omega⟩, ⟨by exact Kd.R_nil _ _ _ _ _⟩, ⟨by exact Kd.S_nil _ _ _ _ _⟩, ⟨by exact BK420.out⟩, ⟨by exact BK422.out⟩, ⟨by repeat (with_reducible exact HB.out)⟩⟩
   case rest =>
   clear HC60
   skip
   try clear c2
   try clear c2b0
   try clear c2b1
   try clear c2b2
   skip
   skip
   skip
   skip
   skip
   skip
   skip
   skip
   try clear c5b0
   try clear c5b1
   skip
   skip
   skip
   skip
   skip
   skip
   skip
   skip
   skip
   skip
   skip
   skip
   skip
   skip
   skip
   skip
   try clear c33b0
   skip
   skip
   skip
   skip
   skip
   skip
   try clear c40b0
   try clear c40b1
   skip
   skip
   skip
   skip
   skip
   skip
   skip
   skip
   skip
   skip
   skip
   skip
   skip
   skip
   skip
   skip
   skip
   skip
   skip
   skip
   skip
   skip
   skip
   skip
   skip
   skip
   skip
   skip
   skip
   skip
   skip
   skip
   skip
   skip
   skip
   skip
   try clear c63b0
   try clear c63b1
   skip
   skip
   try clear c65b0
   try clear c65b1
   skip
   try clear c67b0
   try clear c67b1
   skip
   skip
   skip
   skip
   skip
   skip
   skip
   skip
   skip
   skip
   skip
   skip
   skip
   skip
   skip
   skip
   skip
   skip
   skip
   skip
   skip
   skip
   skip
   skip
   skip
   skip
   skip
   skip
   skip
   skip
   skip
   skip
   skip
   skip
   skip
   skip
   skip
   skip
   skip
   skip
   try clear hcz10_0
   try clear hcz10_1
   try clear hcz10_2
   try clear hcz10_3
   try clear hcz10_4
   try clear hcz10_5
   try clear hcz10_6
   try clear hcz10_7
   skip
   skip
   skip
   skip
   skip
   skip
   skip
   skip
   skip
   skip
   skip
   skip
   skip
   skip
   skip
   skip
   skip
   skip
   skip
   skip
   skip
   skip
   skip
   skip
   skip
   skip
   skip
   skip
   skip
   skip
   skip
   skip
   skip
   skip
   skip
   skip
   skip
   skip
   skip
   skip
   skip
   skip
   skip
   skip
   skip
   skip
   skip
   skip
   try clear hcz45_0
   try clear hcz45_1
   try clear hcz45_2
   try clear hcz45_3
   try clear hcz45_4
   try clear hcz45_5
   try clear hcz45_6
   try clear hcz45_7
   skip
   skip
   skip
   skip
   skip
   skip
   skip
   skip
   skip
   skip
   skip
   skip
   skip
   skip
   skip
   skip
   skip
   skip
   skip
   skip
   skip
   skip
   skip
   skip
   skip
   skip
   skip
   skip
   skip
   skip
   skip
   skip
   try clear hcz62_0
   try clear hcz62_1
   try clear hcz62_2
   try clear hcz62_3
   try clear hcz62_4
   try clear hcz62_5
   try clear hcz62_6
   try clear hcz62_7
   try clear hcz71_0
   try clear hcz71_1
   try clear hcz71_2
   try clear hcz71_3
   try clear hcz71_4
   try clear hcz71_5
   try clear hcz71_6
   try clear hcz71_7
   skip
   skip
   skip
   skip
   skip
   skip
   skip
   skip
   skip
   skip
   skip
   skip
   skip
   skip
   skip
   skip
   skip
   skip
   skip
   skip
   skip
   skip
   skip
   skip
   skip
   skip
   skip
   skip
   skip
   skip
   skip
   skip
   skip
   skip
   skip
   skip
   skip
   skip
   skip
   skip
   skip
   skip
   skip
   skip
   skip
   skip
   skip
   skip
   skip
   skip
   skip
   skip
   skip
   skip
   skip
   skip
   skip
   try clear hfz10_0
   try clear hfz10_1
   try clear hfz10_2
   try clear hfz10_3
   try clear hfz10_4
   try clear hfz10_5
   try clear hfz10_6
   try clear hfz10_7
   skip
   skip
   skip
   skip
   skip
   skip
   skip
   skip
   skip
   skip
   skip
   skip
   skip
   skip
   skip
   skip
   skip
   skip
   skip
   skip
   skip
   skip
   skip
   skip
   skip
   skip
   skip
   skip
   skip
   skip
   skip
   skip
   skip
   skip
   skip
   skip
   skip
   skip
   skip
   skip
   skip
   skip
   skip
   skip
   skip
   skip
   skip
   skip
   try clear hfz45_0
   try clear hfz45_1
   try clear hfz45_2
   try clear hfz45_3
   try clear hfz45_4
   try clear hfz45_5
   try clear hfz45_6
   try clear hfz45_7
   skip
   skip
   skip
   skip
   skip
   skip
   skip
   skip
   skip
   skip
   skip
   skip
   skip
   skip
   skip
   skip
   skip
   skip
   skip
   skip
   skip
   skip
   skip
   skip
   skip
   skip
   skip
   skip
   skip
   skip
   skip
   skip
   try clear hfz62_0
   try clear hfz62_1
   try clear hfz62_2
   try clear hfz62_3
   try clear hfz62_4
   try clear hfz62_5
   try clear hfz62_6
   try clear hfz62_7
   try clear hfz71_0
   try clear hfz71_1
   try clear hfz71_2
   try clear hfz71_3
   try clear hfz71_4
   try clear hfz71_5
   try clear hfz71_6
   try clear hfz71_7
   skip
   skip
   skip
   skip
   skip
   skip
   skip
   skip
   skip
   skip
   skip
   skip
   skip
   skip
   skip
   skip
   skip
   skip
   skip
   skip
   skip
   skip
   skip
   skip
   skip
   skip
   skip
   skip
   skip
   skip
   skip
   skip
   skip
   try clear hx421_0
   try clear hx436_0
   skip
   skip
   skip
   skip
   skip
   skip
   skip
   skip
   try clear p421
   skip
   try clear p436
   skip
   skip
   skip
   skip
   skip
   skip
   skip
   skip
   skip
   skip
   try clear q421
   skip
   try clear q436
   skip
   skip
   skip
   skip
   skip
   skip
   obtain ⟨kq, x7_59, x421000_59, x421001_59, x421002_59, x421003_59, x421004_59, x421005_59, x423006_59, x423007_59, u423006, u423007, rfl, HA, HJ59, HO_423006, HO_423007, BK420, BK422, HB⟩ := hcut
   cases kq with
   | zero => exact absurd HA.out (by simp [grapevineref13_Take.j7])
   | succ kj59 =>
   have H := HA.out
   clear HA
   simp only [grapevineref13_Take.j7] at H
   by_cases c105 : x7_59 = (l0.length : Int)
   ·
    rw [if_pos c105] at H
    have c105b0 : (x7_59 == (l0.length : Int)) = true := beq_iff_eq.mpr c105
    have c105b1 : (x7_59 != (l0.length : Int)) = false := bne_eq_false_iff_eq.mpr c105
    clear c105
    replace H := Option.bind_eq_some_iff.mp H
    obtain ⟨t462, A1060, H⟩ := H
    replace H : (if t462 = 0 then (some ((wrap64 (rd l0 0)), (rd x6_4 0), x423002_41, x423003_41, x423004_54, x423005_41, x423006_59, x423007_59, 0)) else (some (0, 0, 0, 0, 0, 0, ([] : List (S43)), ([] : List (S62)), t462))) = some (r1, r2, r3, r4, r5, r6, r7, r8, r9) := H
    have A106 := Aside0.mk A1060
    clear A1060
    by_cases c107 : t462 = 0
    ·
     rw [if_pos c107] at H
     have c107b0 : (t462 == 0) = true := beq_iff_eq.mpr c107
     have c107b1 : (t462 != 0) = false := bne_eq_false_iff_eq.mpr c107
     clear c107
     simp only [Option.some.injEq, Prod.mk.injEq] at H
     obtain ⟨rfl, rfl, rfl, rfl, rfl, rfl, rfl, rfl, rfl⟩ := H
     have hnb108 := NB422_420.out
     have hnc108 := NB420_422.out
     obtain ⟨hcz109_0, hcz109_1, hcz109_2, hcz109_3, hcz109_4, hcz109_5, hcz109_6, hcz109_7, hfz109_0, hfz109_1, hfz109_2, hfz109_3, hfz109_4, hfz109_5, hfz109_6, hfz109_7⟩ := cz8 BK422.out
     obtain ⟨Ao110, co110, eo110⟩ := Kd.R_slice HO_423006.out
     subst eo110
     obtain ⟨Ao111, co111, eo111⟩ := Kd.S_slice HO_423007.out
     subst eo111
     go_wp2_with (((with_reducible refine gate_callee (f := 46) rfl ?_); refine goesL_ (some 160) rfl rfl Try.func46 (by kernel_rfl) rfl #[.agg #[.int .i64 (wrap64 (rd l0 0)), .int .i64 (rd x6_4 0), .int .i64 x423002_41, .int .i64 x423003_41, .int .i64 x423004_54, .int .i64 x423005_41, .slice Ao110 x423006_59.length co110, .slice Ao111 x423007_59.length co111]] rfl (by (try simp only [List.map_toArray, List.map_cons, List.map_nil]); rfl) ?_; (with_reducible refine (grapevineref13_Check.calls kj59 (wrap64 (rd l0 0)) (rd x6_4 0) x423002_41 x423003_41 x423004_54 x423005_41 _ _ x423006_59 _ _ x423007_59 t462 _ ?side1 ?side2 ?side3 ?side4 A106.out).mono ?_); (case side1 => repeat (exact (Kd.R_reads' HO_423006.out).2.2)); (case side2 => exact (Kd.R_reads' HO_423006.out).2.1); (case side3 => repeat (exact (Kd.S_reads' HO_423007.out).2.2)); (case side4 => exact (Kd.S_reads' HO_423007.out).2.1); rintro e w112 ⟨rfl, hb⟩; refine ⟨_, rfl, ?_⟩; have n0_ := Aside0.mk (Kd.R_below (by exact HO_423006.out) hb); have n1_ := Aside0.mk (Kd.S_below (by exact HO_423007.out) hb); have n2_ := Aside0.mk (blk_below (g := gb420) (o := .cells #[.int .i64 x421000_59, .int .i64 x421001_59, .int .i64 x421002_59, .int .i64 x421003_59, .int .i64 x421004_59, .int .i64 x421005_59, .slice none 0 0, .slice none 0 0] 51 (0, 0)) (by exact BK420.out) hb); have n3_ := Aside0.mk (blk_below (g := gb422) (o := .cells #[.int .i64 (wrap64 (rd l0 0)), .int .i64 (rd x6_4 0), .int .i64 x423002_41, .int .i64 x423003_41, .int .i64 x423004_54, .int .i64 x423005_41, .slice Ao110 x423006_59.length co110, .slice Ao111 x423007_59.length co111] 51 (0, 0)) (by exact BK422.out) hb); have n4_ := Aside0.mk (below_step (by repeat (with_reducible exact HB.out)) hb); clear HO_423006; clear HO_423007; clear BK420; clear BK422; clear HB; have HO_423006 := n0_; have HO_423007 := n1_; have BK420 := n2_; have BK422 := n3_; have HB := n4_; clear n0_ n1_ n2_ n3_ n4_; (try clear hb); obtain ⟨hcz113_0, hcz113_1, hcz113_2, hcz113_3, hcz113_4, hcz113_5, hcz113_6, hcz113_7, hfz113_0, hfz113_1, hfz113_2, hfz113_3, hfz113_4, hfz113_5, hfz113_6, hfz113_7⟩ := cz8 BK422.out; obtain ⟨hcz114_0, hcz114_1, hcz114_2, hcz114_3, hcz114_4, hcz114_5, hcz114_6, hcz114_7, hfz114_0, hfz114_1, hfz114_2, hfz114_3, hfz114_4, hfz114_5, hfz114_6, hfz114_7⟩ := cz8 BK420.out))
     refine bodyPost_ret (results_ct rfl _ _ gb420 51 #[.int .i64 (wrap64 (rd l0 0)), .int .i64 (rd x6_4 0), .int .i64 x423002_41, .int .i64 x423003_41, .int .i64 x423004_54, .int .i64 x423005_41, .slice Ao110 x423006_59.length co110, .slice Ao111 x423007_59.length co111] (0, 0) _ rfl (by refine blk_put (cs := #[.int .i64 (wrap64 (rd l0 0)), .int .i64 (rd x6_4 0), .int .i64 x423002_41, .int .i64 x423003_41, .int .i64 x423004_54, .int .i64 x423005_41, .slice Ao110 x423006_59.length co110, .slice none 0 0]) ?_ 7 _ rfl; refine blk_put (cs := #[.int .i64 (wrap64 (rd l0 0)), .int .i64 (rd x6_4 0), .int .i64 x423002_41, .int .i64 x423003_41, .int .i64 x423004_54, .int .i64 x423005_41, .slice none 0 0, .slice none 0 0]) ?_ 6 _ rfl; refine blk_put (cs := #[.int .i64 (wrap64 (rd l0 0)), .int .i64 (rd x6_4 0), .int .i64 x423002_41, .int .i64 x423003_41, .int .i64 x423004_54, .int .i64 x421005_59, .slice none 0 0, .slice none 0 0]) ?_ 5 _ rfl; refine blk_put (cs := #[.int .i64 (wrap64 (rd l0 0)), .int .i64 (rd x6_4 0), .int .i64 x423002_41, .int .i64 x423003_41, .int .i64 x421004_59, .int .i64 x421005_59, .slice none 0 0, .slice none 0 0]) ?_ 4 _ rfl; refine blk_put (cs := #[.int .i64 (wrap64 (rd l0 0)), .int .i64 (rd x6_4 0), .int .i64 x423002_41, .int .i64 x421003_59, .int .i64 x421004_59, .int .i64 x421005_59, .slice none 0 0, .slice none 0 0]) ?_ 3 _ rfl; refine blk_put (cs := #[.int .i64 (wrap64 (rd l0 0)), .int .i64 (rd x6_4 0), .int .i64 x421002_59, .int .i64 x421003_59, .int .i64 x421004_59, .int .i64 x421005_59, .slice none 0 0, .slice none 0 0]) ?_ 2 _ rfl; refine blk_put (cs := #[.int .i64 (wrap64 (rd l0 0)), .int .i64 x421001_59, .int .i64 x421002_59, .int .i64 x421003_59, .int .i64 x421004_59, .int .i64 x421005_59, .slice none 0 0, .slice none 0 0]) ?_ 1 _ rfl; refine blk_put (cs := #[.int .i64 x421000_59, .int .i64 x421001_59, .int .i64 x421002_59, .int .i64 x421003_59, .int .i64 x421004_59, .int .i64 x421005_59, .slice none 0 0, .slice none 0 0]) ?_ 0 _ rfl; exact BK420.out) Try.underlying51 rfl (by kernel_rfl)) rfl ?_
     exact ⟨_, _, by rfl, by exact Kd.R_mono (Kd.R_far (p := ⟨gb420, 7, none⟩) (Kd.R_far (p := ⟨gb420, 6, none⟩) (Kd.R_far (p := ⟨gb420, 5, none⟩) (Kd.R_far (p := ⟨gb420, 4, none⟩) (Kd.R_far (p := ⟨gb420, 3, none⟩) (Kd.R_far (p := ⟨gb420, 2, none⟩) (Kd.R_far (p := ⟨gb420, 1, none⟩) (Kd.R_far (p := ⟨gb420, 0, none⟩) (Kd.R_types HO_423006.out BK420.out (by decide)) (fun _ hk => hk.2) (.int .i64 (wrap64 (rd l0 0)))) (fun _ hk => hk.2) (.int .i64 (rd x6_4 0))) (fun _ hk => hk.2) (.int .i64 x423002_41)) (fun _ hk => hk.2) (.int .i64 x423003_41)) (fun _ hk => hk.2) (.int .i64 x423004_54)) (fun _ hk => hk.2) (.int .i64 x423005_41)) (fun _ hk => hk.2) (.slice Ao110 x423006_59.length co110)) (fun _ hk => hk.2) (.slice Ao111 x423007_59.length co111)) (fun _ hk => trivial), by exact Kd.S_mono (Kd.S_far (p := ⟨gb420, 7, none⟩) (Kd.S_far (p := ⟨gb420, 6, none⟩) (Kd.S_far (p := ⟨gb420, 5, none⟩) (Kd.S_far (p := ⟨gb420, 4, none⟩) (Kd.S_far (p := ⟨gb420, 3, none⟩) (Kd.S_far (p := ⟨gb420, 2, none⟩) (Kd.S_far (p := ⟨gb420, 1, none⟩) (Kd.S_far (p := ⟨gb420, 0, none⟩) (Kd.S_types HO_423007.out BK420.out (by decide)) (fun _ hk => hk.2) (.int .i64 (wrap64 (rd l0 0)))) (fun _ hk => hk.2) (.int .i64 (rd x6_4 0))) (fun _ hk => hk.2) (.int .i64 x423002_41)) (fun _ hk => hk.2) (.int .i64 x423003_41)) (fun _ hk => hk.2) (.int .i64 x423004_54)) (fun _ hk => hk.2) (.int .i64 x423005_41)) (fun _ hk => hk.2) (.slice Ao110 x423006_59.length co110)) (fun _ hk => hk.2) (.slice Ao111 x423007_59.length co111)) (fun _ hk => trivial), by repeat (with_reducible first | exact HB.out | refine below_set ?_ GE420.out)⟩
    rw [if_neg c107] at H
    have c107b0 : (t462 == 0) = false := beq_eq_false_iff_ne.mpr c107
    have c107b1 : (t462 != 0) = true := bne_iff_ne.mpr c107
    simp only [Option.some.injEq, Prod.mk.injEq] at H
    obtain ⟨rfl, rfl, rfl, rfl, rfl, rfl, rfl, rfl, rfl⟩ := H
    have hnb115 := NB422_420.out
    have hnc115 := NB420_422.out
    obtain ⟨hcz116_0, hcz116_1, hcz116_2, hcz116_3, hcz116_4, hcz116_5, hcz116_6, hcz116_7, hfz116_0, hfz116_1, hfz116_2, hfz116_3, hfz116_4, hfz116_5, hfz116_6, hfz116_7⟩ := cz8 BK422.out
    obtain ⟨Ao117, co117, eo117⟩ := Kd.R_slice HO_423006.out
    subst eo117
    obtain ⟨Ao118, co118, eo118⟩ := Kd.S_slice HO_423007.out
    subst eo118
    go_wp2_with (((with_reducible refine gate_callee (f := 46) rfl ?_); refine goesL_ (some 160) rfl rfl Try.func46 (by kernel_rfl) rfl #[.agg #[.int .i64 (wrap64 (rd l0 0)), .int .i64 (rd x6_4 0), .int .i64 x423002_41, .int .i64 x423003_41, .int .i64 x423004_54, .int .i64 x423005_41, .slice Ao117 x423006_59.length co117, .slice Ao118 x423007_59.length co118]] rfl (by (try simp only [List.map_toArray, List.map_cons, List.map_nil]); rfl) ?_; (with_reducible refine (grapevineref13_Check.calls kj59 (wrap64 (rd l0 0)) (rd x6_4 0) x423002_41 x423003_41 x423004_54 x423005_41 _ _ x423006_59 _ _ x423007_59 t462 _ ?side1 ?side2 ?side3 ?side4 A106.out).mono ?_); (case side1 => repeat (exact (Kd.R_reads' HO_423006.out).2.2)); (case side2 => exact (Kd.R_reads' HO_423006.out).2.1); (case side3 => repeat (exact (Kd.S_reads' HO_423007.out).2.2)); (case side4 => exact (Kd.S_reads' HO_423007.out).2.1); rintro e w119 ⟨rfl, hb⟩; refine ⟨_, rfl, ?_⟩; have n0_ := Aside0.mk (Kd.R_below (by exact HO_423006.out) hb); have n1_ := Aside0.mk (Kd.S_below (by exact HO_423007.out) hb); have n2_ := Aside0.mk (blk_below (g := gb420) (o := .cells #[.int .i64 x421000_59, .int .i64 x421001_59, .int .i64 x421002_59, .int .i64 x421003_59, .int .i64 x421004_59, .int .i64 x421005_59, .slice none 0 0, .slice none 0 0] 51 (0, 0)) (by exact BK420.out) hb); have n3_ := Aside0.mk (blk_below (g := gb422) (o := .cells #[.int .i64 (wrap64 (rd l0 0)), .int .i64 (rd x6_4 0), .int .i64 x423002_41, .int .i64 x423003_41, .int .i64 x423004_54, .int .i64 x423005_41, .slice Ao117 x423006_59.length co117, .slice Ao118 x423007_59.length co118] 51 (0, 0)) (by exact BK422.out) hb); have n4_ := Aside0.mk (below_step (by repeat (with_reducible exact HB.out)) hb); clear HO_423006; clear HO_423007; clear BK420; clear BK422; clear HB; have HO_423006 := n0_; have HO_423007 := n1_; have BK420 := n2_; have BK422 := n3_; have HB := n4_; clear n0_ n1_ n2_ n3_ n4_; (try clear hb); obtain ⟨hcz120_0, hcz120_1, hcz120_2, hcz120_3, hcz120_4, hcz120_5, hcz120_6, hcz120_7, hfz120_0, hfz120_1, hfz120_2, hfz120_3, hfz120_4, hfz120_5, hfz120_6, hfz120_7⟩ := cz8 BK420.out))
    refine bodyPost_ret (results_ct rfl _ _ gb420 51 #[.int .i64 0, .int .i64 0, .int .i64 0, .int .i64 0, .int .i64 0, .int .i64 0, .slice none 0 0, .slice none 0 0] (0, 0) _ rfl (by refine blk_put (cs := #[.int .i64 0, .int .i64 0, .int .i64 0, .int .i64 0, .int .i64 0, .int .i64 0, .slice none 0 0, .slice none 0 0]) ?_ 7 _ rfl; refine blk_put (cs := #[.int .i64 0, .int .i64 0, .int .i64 0, .int .i64 0, .int .i64 0, .int .i64 0, .slice none 0 0, .slice none 0 0]) ?_ 6 _ rfl; refine blk_put (cs := #[.int .i64 0, .int .i64 0, .int .i64 0, .int .i64 0, .int .i64 0, .int .i64 x421005_59, .slice none 0 0, .slice none 0 0]) ?_ 5 _ rfl; refine blk_put (cs := #[.int .i64 0, .int .i64 0, .int .i64 0, .int .i64 0, .int .i64 x421004_59, .int .i64 x421005_59, .slice none 0 0, .slice none 0 0]) ?_ 4 _ rfl; refine blk_put (cs := #[.int .i64 0, .int .i64 0, .int .i64 0, .int .i64 x421003_59, .int .i64 x421004_59, .int .i64 x421005_59, .slice none 0 0, .slice none 0 0]) ?_ 3 _ rfl; refine blk_put (cs := #[.int .i64 0, .int .i64 0, .int .i64 x421002_59, .int .i64 x421003_59, .int .i64 x421004_59, .int .i64 x421005_59, .slice none 0 0, .slice none 0 0]) ?_ 2 _ rfl; refine blk_put (cs := #[.int .i64 0, .int .i64 x421001_59, .int .i64 x421002_59, .int .i64 x421003_59, .int .i64 x421004_59, .int .i64 x421005_59, .slice none 0 0, .slice none 0 0]) ?_ 1 _ rfl; refine blk_put (cs := #[.int .i64 x421000_59, .int .i64 x421001_59, .int .i64 x421002_59, .int .i64 x421003_59, .int .i64 x421004_59, .int .i64 x421005_59, .slice none 0 0, .slice none 0 0]) ?_ 0 _ rfl; exact BK420.out) Try.underlying51 rfl (by kernel_rfl)) rfl ?_
    exact ⟨_, _, by rfl, by exact Kd.R_nil _ _ _ _ _, by exact Kd.S_nil _ _ _ _ _, by repeat (with_reducible first | exact HB.out | apply pw_below_drewN | refine below_set ?_ GE420.out | refine below_set ?_ GE422.out)⟩
   rw [if_neg c105] at H
   have c105b0 : (x7_59 == (l0.length : Int)) = false := beq_eq_false_iff_ne.mpr c105
   have c105b1 : (x7_59 != (l0.length : Int)) = true := bne_iff_ne.mpr c105
   simp only [Option.some.injEq, Prod.mk.injEq] at H
   obtain ⟨rfl, rfl, rfl, rfl, rfl, rfl, rfl, rfl, rfl⟩ := H
   have hnb121 := NB420_422.out
   have hnc121 := NB422_420.out
   obtain ⟨hcz122_0, hcz122_1, hcz122_2, hcz122_3, hcz122_4, hcz122_5, hcz122_6, hcz122_7, hfz122_0, hfz122_1, hfz122_2, hfz122_3, hfz122_4, hfz122_5, hfz122_6, hfz122_7⟩ := cz8 BK420.out
   go_wp2
   refine bodyPost_ret (results_ct rfl _ _ gb420 51 #[.int .i64 0, .int .i64 0, .int .i64 0, .int .i64 0, .int .i64 0, .int .i64 0, .slice none 0 0, .slice none 0 0] (0, 0) _ rfl (by refine blk_put (cs := #[.int .i64 0, .int .i64 0, .int .i64 0, .int .i64 0, .int .i64 0, .int .i64 0, .slice none 0 0, .slice none 0 0]) ?_ 7 _ rfl; refine blk_put (cs := #[.int .i64 0, .int .i64 0, .int .i64 0, .int .i64 0, .int .i64 0, .int .i64 0, .slice none 0 0, .slice none 0 0]) ?_ 6 _ rfl; refine blk_put (cs := #[.int .i64 0, .int .i64 0, .int .i64 0, .int .i64 0, .int .i64 0, .int .i64 x421005_59, .slice none 0 0, .slice none 0 0]) ?_ 5 _ rfl; refine blk_put (cs := #[.int .i64 0, .int .i64 0, .int .i64 0, .int .i64 0, .int .i64 x421004_59, .int .i64 x421005_59, .slice none 0 0, .slice none 0 0]) ?_ 4 _ rfl; refine blk_put (cs := #[.int .i64 0, .int .i64 0, .int .i64 0, .int .i64 x421003_59, .int .i64 x421004_59, .int .i64 x421005_59, .slice none 0 0, .slice none 0 0]) ?_ 3 _ rfl; refine blk_put (cs := #[.int .i64 0, .int .i64 0, .int .i64 x421002_59, .int .i64 x421003_59, .int .i64 x421004_59, .int .i64 x421005_59, .slice none 0 0, .slice none 0 0]) ?_ 2 _ rfl; refine blk_put (cs := #[.int .i64 0, .int .i64 x421001_59, .int .i64 x421002_59, .int .i64 x421003_59, .int .i64 x421004_59, .int .i64 x421005_59, .slice none 0 0, .slice none 0 0]) ?_ 1 _ rfl; refine blk_put (cs := #[.int .i64 x421000_59, .int .i64 x421001_59, .int .i64 x421002_59, .int .i64 x421003_59, .int .i64 x421004_59, .int .i64 x421005_59, .slice none 0 0, .slice none 0 0]) ?_ 0 _ rfl; exact BK420.out) Try.underlying51 rfl (by kernel_rfl)) rfl ?_
   exact ⟨_, _, by rfl, by exact Kd.R_nil _ _ _ _ _, by exact Kd.S_nil _ _ _ _ _, by repeat (with_reducible first | exact HB.out | apply pw_below_drewN | refine below_set ?_ GE420.out | refine below_set ?_ GE422.out)⟩
  rw [if_neg c40] at H
  exact absurd H (by simp)
 rw [if_neg c5] at H
 exact absurd H (by simp)
end Go.Proofs.Ytpeacoppclmmlaa.PP
