-- PRINTED by gprint.py (a session's own driver over the kit's print): not trusted; Lean checks it.
import Derived.Test.YtpeacoppclmmlaaPTPPx0
import Derived.Test.YtpeacoppclmmlaaPTPPx17
namespace Go.Proofs.Ytpeacoppclmmlaa.PP
open Go.RowKit Go.Proofs.YtpeacoppclmmlaaW.PrintWords Go.Proofs.YtpeacoppclmmlaaW.PrintLast Go.Proofs.YtpeacoppclmmlaaW.PrintMore
attribute [local go_sem] max2_int min2_int max_two min_two max_three min_three max_four min_four   -- for this text's walks alone
set_option linter.unusedVariables false
set_option linter.unusedSimpArgs false
/-! ### span_Take: function 50 -/
mutual
def span_Take.l0 : Nat → List Int → Int → List (S43) → Int → Int → Int → Int → Int → Option ((List (S43)) × Int × Int)
 | 0, _, _, _, _, _, _, _, _ => none
 | k + 1, x0, x8, x10, x31, x32, x359000, x359001, x359002 => if x32 < x31 then ((octet_TakeUint.f k x0 x8).bind fun bt362 => (if bt362.2.2 = 0 then ((octet_TakeUint.f k x0 bt362.2.1).bind fun bt365 => (span_Take.j1 k x0 bt365.2.1 bt365.2.2 x10 bt362.1 bt365.1 x31 x32 x359000 x359001 x359002)) else (span_Take.j1 k x0 bt362.2.1 bt362.2.2 x10 bt362.1 0 x31 x32 x359000 x359001 x359002))) else ((api_Span_75.f x10).bind fun t359 => (some (t359, x8, 0)))
def span_Take.j1 : Nat → List Int → Int → Int → List (S43) → Int → Int → Int → Int → Int → Int → Int → Option ((List (S43)) × Int × Int)
 | 0, _, _, _, _, _, _, _, _, _, _, _ => none
 | k + 1, x0, x8, x9, x10, x12, x13, x31, x32, x359000, x359001, x359002 => if x9 = 0 then (if x8 ≥ (x0.length : Int) then (some (([] : List (S43)), 0, 3)) else (if 0 ≤ x8 then (if x8 < (x0.length : Int) then (if x12 ≥ (IntKind.u64.wrap (wrap64 (1099511627776 - x359001))) then (some (([] : List (S43)), 0, 4)) else (if x13 ≥ (IntKind.u64.wrap ((IntKind.u64.wrap (wrap64 (1099511627776 - x359001))) - x12)) then (some (([] : List (S43)), 0, 4)) else (if (wrap64 (rd x0 x8)) < 1 then (some (([] : List (S43)), 0, 4)) else (if (wrap64 (rd x0 x8)) > 3 then (some (([] : List (S43)), 0, 4)) else (if x12 = 0 then (if (wrap64 (rd x0 x8)) = x359002 then (some (([] : List (S43)), 0, 4)) else (if x10.length < 5864062014805 then (span_Take.l0 k x0 (wrap64 (x8 + 1)) (x10 ++ [(⟨wrap64 ((wrap64 (x359001 + 1)) + (wrap64 (x12))), wrap64 ((wrap64 ((wrap64 (x359001 + 1)) + (wrap64 (x12)))) + (wrap64 (x13))), wrap64 (rd x0 x8)⟩ : S43)]) x31 (wrap64 (x32 + 1)) (wrap64 ((wrap64 (x359001 + 1)) + (wrap64 (x12)))) (wrap64 ((wrap64 ((wrap64 (x359001 + 1)) + (wrap64 (x12)))) + (wrap64 (x13)))) (wrap64 (rd x0 x8))) else (none))) else (if x10.length < 5864062014805 then (span_Take.l0 k x0 (wrap64 (x8 + 1)) (x10 ++ [(⟨wrap64 ((wrap64 (x359001 + 1)) + (wrap64 (x12))), wrap64 ((wrap64 ((wrap64 (x359001 + 1)) + (wrap64 (x12)))) + (wrap64 (x13))), wrap64 (rd x0 x8)⟩ : S43)]) x31 (wrap64 (x32 + 1)) (wrap64 ((wrap64 (x359001 + 1)) + (wrap64 (x12)))) (wrap64 ((wrap64 ((wrap64 (x359001 + 1)) + (wrap64 (x12)))) + (wrap64 (x13)))) (wrap64 (rd x0 x8))) else (none))))))) else (none)) else (none))) else (some (([] : List (S43)), 0, x9))
end
def span_Take.f (k : Nat) (l0 : List Int) (a1 : Int) : Option ((List (S43)) × Int × Int) := (octet_TakeUint.f k l0 a1).bind fun bt355 => (if bt355.2.2 = 0 then (if bt355.1 > 256 then (some (([] : List (S43)), 0, 6)) else (span_Take.l0 k l0 bt355.2.1 ([] : List (S43)) (wrap64 (bt355.1)) 0 0 0 0)) else (some (([] : List (S43)), 0, bt355.2.2)))
set_option maxHeartbeats 8000000 in
set_option maxRecDepth 100000 in
theorem span_Take.calls (k : Nat) (A0 : Option Addr) (c0 : Nat) (l0 : List Int) (a1 : Int) (r1 : List (S43)) (r2 : Int) (r3 : Int) (w : World) (hr0 : Kd.C (Kd.int .u8) w A0 l0.length l0) (hc0 : l0.length ≤ c0) (h : span_Take.f k l0 a1 = some (r1, r2, r3)) :
 Calls Try.prog 50 #[.slice A0 l0.length c0, .int .i64 a1] w fun e w' => ∃ v0_ : Value, e = .returned (.tuple #[v0_, .int .i64 r2, .int .i64 r3]) ∧ Kd.V k43 43 w' w.heap.size (fun k_ => (w.heap.size ≤ k_)) v0_ r1 ∧ Below w.heap.size w w' := by
 have hu43 := Try.underlying43
 have HR0 := Aside0.mk hr0
 have HC0 := Aside0.mk hc0
 clear hr0 hc0
 have HB := Aside0.mk (Below.refl w.heap.size w)
 have H : ((octet_TakeUint.f k l0 a1).bind fun bt355 => (if bt355.2.2 = 0 then (if bt355.1 > 256 then (some (([] : List (S43)), 0, 6)) else (span_Take.l0 k l0 bt355.2.1 ([] : List (S43)) (wrap64 (bt355.1)) 0 0 0 0)) else (some (([] : List (S43)), 0, bt355.2.2)))) = some (r1, r2, r3) := h
 clear h
 replace H := Option.bind_eq_some_iff.mp H
 obtain ⟨⟨t355, t356, t357⟩, A30, H⟩ := H
 replace H : (if t357 = 0 then (if t355 > 256 then (some (([] : List (S43)), 0, 6)) else (span_Take.l0 k l0 t356 ([] : List (S43)) (wrap64 (t355)) 0 0 0 0)) else (some (([] : List (S43)), 0, t357))) = some (r1, r2, r3) := H
 have A3 := Aside0.mk A30
 clear A30
 by_cases c4 : t357 = 0
 ·
  rw [if_pos c4] at H
  have c4b0 : (t357 == 0) = true := beq_iff_eq.mpr c4
  have c4b1 : (t357 != 0) = false := bne_eq_false_iff_eq.mpr c4
  clear c4
  by_cases c5 : t355 > 256
  ·
   rw [if_pos c5] at H
   have c5b0 : decide (256 < t355) = true := decide_eq_true c5
   clear c5
   simp only [Option.some.injEq, Prod.mk.injEq] at H
   obtain ⟨rfl, rfl, rfl⟩ := H
   go_enter Try.func50, Try.ntmps50
   go_wp2_with (((with_reducible refine gate_callee (f := 74) rfl ?_); refine goesL_ (some 20) rfl rfl Try.func74 (by kernel_rfl) rfl #[.slice A0 l0.length c0, .int .i64 a1] rfl (by (try simp only [List.map_toArray, List.map_cons, List.map_nil]); rfl) ?_; (with_reducible refine (octet_TakeUint.calls k _ _ l0 a1 t355 t356 t357 _ ?side1 ?side2 A3.out).mono ?_); (case side1 => repeat (exact HR0.out)); (case side2 => exact HC0.out); rintro e w' ⟨rfl, ⟨nd, rfl⟩⟩; refine ⟨_, rfl, ?_⟩))
   go_ret3
   exact ⟨_, by rfl, Kd.R_V (by exact Kd.R_nil _ _ _ 0 _), by repeat (with_reducible first | exact HB.out | apply pw_below_drewN)⟩
  rw [if_neg c5] at H
  have c5b0 : decide (256 < t355) = false := decide_eq_false c5
  clear c5
  have H' := Aside0.mk H
  clear H
  go_enter Try.func50, Try.ntmps50
  go_wp2_with (first | ((with_reducible refine gate_callee (f := 74) rfl ?_); refine goesL_ (some 20) rfl rfl Try.func74 (by kernel_rfl) rfl #[.slice A0 l0.length c0, .int .i64 a1] rfl (by (try simp only [List.map_toArray, List.map_cons, List.map_nil]); rfl) ?_; (with_reducible refine (octet_TakeUint.calls k _ _ l0 a1 t355 t356 t357 _ ?side1 ?side2 A3.out).mono ?_); (case side1 => repeat (exact HR0.out)); (case side2 => exact HC0.out); rintro e w' ⟨rfl, ⟨nd, rfl⟩⟩; refine ⟨_, rfl, ?_⟩) | ((with_reducible refine gate_dst (N := 11) rfl ?_); refine box_event ?hg (N := 11) ?hd (cs := #[.int .i64 0, .int .i64 0, .int .i64 0]) (t := 43) ?hr ?_; (case hd => rfl); (case hg => rfl); (case hr => (go_simp; done)); intro gb358 hg w6 hbox hb; have n0_ := Aside0.mk (below_step (by repeat (with_reducible first | exact HB.out | apply pw_below_drewN)) hb); have n1_ := Aside0.mk (hbox); have n2_ := Aside0.mk ((by rw [hg]; exact (below_size (by repeat (with_reducible first | exact HB.out | apply pw_below_drewN))) : w.heap.size ≤ gb358)); have n3_ := Aside0.mk ((by rw [hg]; exact (below_size (by repeat (with_reducible first | exact HB.out | apply pw_below_drewN))) : w.heap.size ≤ gb358)); clear HB; have HB := n0_; have BK358 := n1_; have GW358 := n2_; have GE358 := n3_; clear n0_ n1_ n2_ n3_; clear hb hbox hg; obtain ⟨hcz7_0, hcz7_1, hcz7_2, hfz7_0, hfz7_1, hfz7_2⟩ := cz3 BK358.out))
  go_loopg [8, 10, 32] k (fun kq v8 v10 v32 w' => ∃ (x8_1 : Int) (x10_1 : List (S43)) (x32_1 : Int) (x359000_1 : Int) (x359001_1 : Int) (x359002_1 : Int), v8 = .int .i64 x8_1 ∧ v32 = .int .i64 x32_1 ∧ Aside0 (span_Take.l0 kq l0 x8_1 x10_1 (wrap64 (t355)) x32_1 x359000_1 x359001_1 x359002_1 = some (r1, r2, r3)) ∧ Aside0 (kq ≤ k) ∧ Aside0 (Kd.R k43 43 w' w.heap.size (fun k_ => (w.heap.size ≤ k_) ∧ k_ ≠ gb358) v10 x10_1) ∧ Aside0 (w'.heap[gb358]? = some (.cells #[.int .i64 x359000_1, .int .i64 x359001_1, .int .i64 x359002_1] 43 (0, 0))) ∧ Aside0 (Below w.heap.size w w'))
  case atStart => exact ⟨(t356), (([] : List (S43))), (0), (0), (0), (0), (by rfl), (by rfl), H', ⟨Nat.le_refl _⟩, ⟨by exact Kd.R_nil _ _ _ _ _⟩, ⟨by refine blk_put (cs := #[.int .i64 0, .int .i64 0, .int .i64 0]) ?_ 2 _ rfl; refine blk_put (cs := #[.int .i64 0, .int .i64 0, .int .i64 0]) ?_ 1 _ rfl; refine blk_put (cs := #[.int .i64 0, .int .i64 0, .int .i64 0]) ?_ 0 _ rfl; exact BK358.out⟩, ⟨by repeat (with_reducible first | exact HB.out | refine below_set ?_ GE358.out)⟩⟩
  case round =>
  clear H'
  repeat (go_quiet (fail); try go_wp2)
  repeat (go_quiet (fail); try go_wp2)
  try clear c4b0
  try clear c4b1
  repeat (go_quiet (fail); try go_wp2)
  try clear c5b0
  repeat (go_quiet (fail); try go_wp2)
  repeat (go_quiet (fail); try go_wp2)
  try clear hcz7_0
  try clear hcz7_1
  try clear hcz7_2
  try clear hfz7_0
  try clear hfz7_1
  try clear hfz7_2
  obtain ⟨x8_1, x10_1, x32_1, x359000_1, x359001_1, x359002_1, rfl, rfl, HA, HK1, HO_10, BK358, HB⟩ := hrel
  cases gk with
  | zero => exact absurd HA.out (by simp [span_Take.l0])
  | succ k1 =>
  have H := HA.out
  clear HA
  simp only [span_Take.l0] at H
  by_cases c8 : x32_1 < (wrap64 (t355))
  ·
   rw [if_pos c8] at H
   have c8b0 : decide (x32_1 < (wrap64 (t355))) = true := decide_eq_true c8
   clear c8
   replace H := Option.bind_eq_some_iff.mp H
   obtain ⟨⟨t362, t363, t364⟩, A90, H⟩ := H
   replace H : (if t364 = 0 then ((octet_TakeUint.f k1 l0 t363).bind fun bt365 => (span_Take.j1 k1 l0 bt365.2.1 bt365.2.2 x10_1 t362 bt365.1 (wrap64 (t355)) x32_1 x359000_1 x359001_1 x359002_1)) else (span_Take.j1 k1 l0 t363 t364 x10_1 t362 0 (wrap64 (t355)) x32_1 x359000_1 x359001_1 x359002_1)) = some (r1, r2, r3) := H
   have A9 := Aside0.mk A90
   clear A90
   have HC10 := Aside0.mk H
   clear H
   go_upto_if 42 with (((with_reducible refine gate_callee (f := 74) rfl ?_); refine goesL_ (some 37) rfl rfl Try.func74 (by kernel_rfl) rfl #[.slice A0 l0.length c0, .int .i64 x8_1] rfl (by (try simp only [List.map_toArray, List.map_cons, List.map_nil]); rfl) ?_; (with_reducible refine (octet_TakeUint.calls k1 _ _ l0 x8_1 t362 t363 t364 _ ?side1 ?side2 A9.out).mono ?_); (case side1 => repeat (exact (Kd.C_below HR0.out HB.out))); (case side2 => exact HC0.out); rintro e w' ⟨rfl, ⟨nd, rfl⟩⟩; refine ⟨_, rfl, ?_⟩))
   (skip)
   go_cut [8, 9, 13] (fun v8 v9 v13 wc => ∃ (kq : Nat) (x8_9 : Int) (x9_9 : Int) (x13_9 : Int), v8 = .int .i64 x8_9 ∧ v9 = .int .i64 x9_9 ∧ v13 = .int .u64 x13_9 ∧ Aside0 (span_Take.j1 kq l0 x8_9 x9_9 x10_1 t362 x13_9 (wrap64 (t355)) x32_1 x359000_1 x359001_1 x359002_1 = some (r1, r2, r3)) ∧ Aside0 (kq ≤ k1) ∧ Aside0 (Kd.R k43 43 wc w.heap.size (fun k_ => (w.heap.size ≤ k_) ∧ k_ ≠ gb358) u10 x10_1) ∧ Aside0 (wc.heap[gb358]? = some (.cells #[.int .i64 x359000_1, .int .i64 x359001_1, .int .i64 x359002_1] 43 (0, 0))) ∧ Aside0 (Below w.heap.size w wc))
   case first =>
    have H := HC10.out
    clear HC10
    by_cases c11 : t364 = 0
    ·
     rw [if_pos c11] at H
     have c11b0 : (t364 == 0) = true := beq_iff_eq.mpr c11
     have c11b1 : (t364 != 0) = false := bne_eq_false_iff_eq.mpr c11
     clear c11
     (rw [c11b0])
     replace H := Option.bind_eq_some_iff.mp H
     obtain ⟨⟨t365, t366, t367⟩, A120, H⟩ := H
     replace H : (span_Take.j1 k1 l0 t366 t367 x10_1 t362 t365 (wrap64 (t355)) x32_1 x359000_1 x359001_1 x359002_1) = some (r1, r2, r3) := H
     have A12 := Aside0.mk A120
     clear A120
     have H' := Aside0.mk H
     clear H
     go_wp2_with (((with_reducible refine gate_callee (f := 74) rfl ?_); refine goesL_ (some 46) rfl rfl Try.func74 (by kernel_rfl) rfl #[.slice A0 l0.length c0, .int .i64 t363] rfl (by (try simp only [List.map_toArray, List.map_cons, List.map_nil]); rfl) ?_; (with_reducible refine (octet_TakeUint.calls k1 _ _ l0 t363 t365 t366 t367 _ ?side1 ?side2 A12.out).mono ?_); (case side1 => repeat (first | exact (Kd.C_below HR0.out HB.out) | (with_reducible refine Kd.C_drewN ?_ _))); (case side2 => exact HC0.out); rintro e w' ⟨rfl, ⟨nd, rfl⟩⟩; refine ⟨_, rfl, ?_⟩))
     go_meet
     case rel => exact ⟨_, (t366), (t367), (t365), (by rfl), (by rfl), (by rfl), H', ⟨by have := HK1.out; omega⟩, ⟨by (with_reducible repeat (apply Kd.R_drewN)); exact HO_10.out⟩, ⟨by (with_reducible repeat (refine blk_drewN ?_ _)); exact BK358.out⟩, ⟨by repeat (with_reducible first | exact HB.out | apply pw_below_drewN)⟩⟩
    rw [if_neg c11] at H
    have c11b0 : (t364 == 0) = false := beq_eq_false_iff_ne.mpr c11
    have c11b1 : (t364 != 0) = true := bne_iff_ne.mpr c11
    (rw [c11b0])
    have H' := Aside0.mk H
    clear H
    go_wp2
    go_meet
    case rel => exact ⟨_, (t363), (t364), (0), (by rfl), (by rfl), (by rfl), H', ⟨by have := HK1.out; omega⟩, ⟨by (with_reducible repeat (apply Kd.R_drewN)); exact HO_10.out⟩, ⟨by (with_reducible repeat (refine blk_drewN ?_ _)); exact BK358.out⟩, ⟨by repeat (with_reducible first | exact HB.out | apply pw_below_drewN)⟩⟩
   case rest =>
   clear HC10
   repeat (go_quiet (fail); try go_wp2)
   repeat (go_quiet (fail); try go_wp2)
   repeat (go_quiet (fail); try go_wp2)
   try clear c4b0
   try clear c4b1
   repeat (go_quiet (fail); try go_wp2)
   try clear c5b0
   repeat (go_quiet (fail); try go_wp2)
   repeat (go_quiet (fail); try go_wp2)
   repeat (go_quiet (fail); try go_wp2)
   try clear c8b0
   repeat (go_quiet (fail); try go_wp2)
   repeat (go_quiet (fail); try go_wp2)
   repeat (go_quiet (fail); try go_wp2)
   try clear hcz7_0
   try clear hcz7_1
   try clear hcz7_2
   try clear hfz7_0
   try clear hfz7_1
   try clear hfz7_2
   repeat (go_quiet (fail); try go_wp2)
   repeat (go_quiet (fail); try go_wp2)
   obtain ⟨kq, x8_9, x9_9, x13_9, rfl, rfl, rfl, HA, HJ9, HO_10, BK358, HB⟩ := hcut
   cases kq with
   | zero => exact absurd HA.out (by simp [span_Take.j1])
   | succ kj9 =>
   have H := HA.out
   clear HA
   simp only [span_Take.j1] at H
   by_cases c13 : x9_9 = 0
   ·
    rw [if_pos c13] at H
    have c13b0 : (x9_9 == 0) = true := beq_iff_eq.mpr c13
    have c13b1 : (x9_9 != 0) = false := bne_eq_false_iff_eq.mpr c13
    clear c13
    by_cases c14 : x8_9 ≥ (l0.length : Int)
    ·
     rw [if_pos c14] at H
     have c14b0 : decide ((l0.length : Int) ≤ x8_9) = true := decide_eq_true c14
     clear c14
     simp only [Option.some.injEq, Prod.mk.injEq] at H
     obtain ⟨rfl, rfl, rfl⟩ := H
     go_wp2
     go_ret3
     exact ⟨_, by rfl, Kd.R_V (by exact Kd.R_nil _ _ _ 0 _), by repeat (with_reducible exact HB.out)⟩
    rw [if_neg c14] at H
    have c14b0 : decide ((l0.length : Int) ≤ x8_9) = false := decide_eq_false c14
    clear c14
    by_cases c15 : 0 ≤ x8_9
    ·
     rw [if_pos c15] at H
     have c15b0 : decide (0 ≤ x8_9) = true := decide_eq_true c15
     clear c15
     by_cases c16 : x8_9 < (l0.length : Int)
     ·
      rw [if_pos c16] at H
      have c16b0 : decide (x8_9 < (l0.length : Int)) = true := decide_eq_true c16
      clear c16
      by_cases c17 : t362 ≥ (IntKind.u64.wrap (wrap64 (1099511627776 - x359001_1)))
      ·
       rw [if_pos c17] at H
       have c17b0 : decide ((IntKind.u64.wrap (wrap64 (1099511627776 - x359001_1))) ≤ t362) = true := decide_eq_true c17
       clear c17
       simp only [Option.some.injEq, Prod.mk.injEq] at H
       obtain ⟨rfl, rfl, rfl⟩ := H
       have p368 : 0 ≤ (x8_9 : Int) := of_decide_eq_true (by (with_reducible assumption))
       have q368 : x8_9 < (l0.length : Int) := of_decide_eq_true (by (with_reducible assumption))
       obtain ⟨ad368, e368, hx368_0⟩ := Kd.at_int HR0.out x8_9 p368 q368
       cases e368
       replace hx368_0 := (HB.out.cell (World.block_lt_of_cell? w _ hx368_0)).trans hx368_0
       replace p368 := eq_true p368
       replace q368 := eq_true q368
       obtain ⟨hcz18_0, hcz18_1, hcz18_2, hfz18_0, hfz18_1, hfz18_2⟩ := cz3 BK358.out
       go_wp2
       go_ret3
       exact ⟨_, by rfl, Kd.R_V (by exact Kd.R_nil _ _ _ 0 _), by repeat (with_reducible exact HB.out)⟩
      rw [if_neg c17] at H
      have c17b0 : decide ((IntKind.u64.wrap (wrap64 (1099511627776 - x359001_1))) ≤ t362) = false := decide_eq_false c17
      clear c17
      by_cases c19 : x13_9 ≥ (IntKind.u64.wrap ((IntKind.u64.wrap (wrap64 (1099511627776 - x359001_1))) - t362))
      ·
       rw [if_pos c19] at H
       have c19b0 : decide ((IntKind.u64.wrap ((IntKind.u64.wrap (wrap64 (1099511627776 - x359001_1))) - t362)) ≤ x13_9) = true := decide_eq_true c19
       clear c19
       simp only [Option.some.injEq, Prod.mk.injEq] at H
       obtain ⟨rfl, rfl, rfl⟩ := H
       have p368 : 0 ≤ (x8_9 : Int) := of_decide_eq_true (by (with_reducible assumption))
       have q368 : x8_9 < (l0.length : Int) := of_decide_eq_true (by (with_reducible assumption))
       obtain ⟨ad368, e368, hx368_0⟩ := Kd.at_int HR0.out x8_9 p368 q368
       cases e368
       replace hx368_0 := (HB.out.cell (World.block_lt_of_cell? w _ hx368_0)).trans hx368_0
       replace p368 := eq_true p368
       replace q368 := eq_true q368
       obtain ⟨hcz20_0, hcz20_1, hcz20_2, hfz20_0, hfz20_1, hfz20_2⟩ := cz3 BK358.out
       go_wp2
       go_ret3
       exact ⟨_, by rfl, Kd.R_V (by exact Kd.R_nil _ _ _ 0 _), by repeat (with_reducible exact HB.out)⟩
      rw [if_neg c19] at H
      have c19b0 : decide ((IntKind.u64.wrap ((IntKind.u64.wrap (wrap64 (1099511627776 - x359001_1))) - t362)) ≤ x13_9) = false := decide_eq_false c19
      clear c19
      by_cases c21 : (wrap64 (rd l0 x8_9)) < 1
      ·
       rw [if_pos c21] at H
       have c21b0 : decide ((wrap64 (rd l0 x8_9)) < 1) = true := decide_eq_true c21
       clear c21
       simp only [Option.some.injEq, Prod.mk.injEq] at H
       obtain ⟨rfl, rfl, rfl⟩ := H
       have p368 : 0 ≤ (x8_9 : Int) := of_decide_eq_true (by (with_reducible assumption))
       have q368 : x8_9 < (l0.length : Int) := of_decide_eq_true (by (with_reducible assumption))
       obtain ⟨ad368, e368, hx368_0⟩ := Kd.at_int HR0.out x8_9 p368 q368
       cases e368
       replace hx368_0 := (HB.out.cell (World.block_lt_of_cell? w _ hx368_0)).trans hx368_0
       replace p368 := eq_true p368
       replace q368 := eq_true q368
       obtain ⟨hcz22_0, hcz22_1, hcz22_2, hfz22_0, hfz22_1, hfz22_2⟩ := cz3 BK358.out
       go_wp2
       go_ret3
       exact ⟨_, by rfl, Kd.R_V (by exact Kd.R_nil _ _ _ 0 _), by repeat (with_reducible exact HB.out)⟩
      rw [if_neg c21] at H
      have c21b0 : decide ((wrap64 (rd l0 x8_9)) < 1) = false := decide_eq_false c21
      clear c21
      by_cases c23 : (wrap64 (rd l0 x8_9)) > 3
      ·
       rw [if_pos c23] at H
       have c23b0 : decide (3 < (wrap64 (rd l0 x8_9))) = true := decide_eq_true c23
       clear c23
       simp only [Option.some.injEq, Prod.mk.injEq] at H
       obtain ⟨rfl, rfl, rfl⟩ := H
       have p368 : 0 ≤ (x8_9 : Int) := of_decide_eq_true (by (with_reducible assumption))
       have q368 : x8_9 < (l0.length : Int) := of_decide_eq_true (by (with_reducible assumption))
       obtain ⟨ad368, e368, hx368_0⟩ := Kd.at_int HR0.out x8_9 p368 q368
       cases e368
       replace hx368_0 := (HB.out.cell (World.block_lt_of_cell? w _ hx368_0)).trans hx368_0
       replace p368 := eq_true p368
       replace q368 := eq_true q368
       obtain ⟨hcz24_0, hcz24_1, hcz24_2, hfz24_0, hfz24_1, hfz24_2⟩ := cz3 BK358.out
       go_wp2
       go_ret3
       exact ⟨_, by rfl, Kd.R_V (by exact Kd.R_nil _ _ _ 0 _), by repeat (with_reducible exact HB.out)⟩
      rw [if_neg c23] at H
      have c23b0 : decide (3 < (wrap64 (rd l0 x8_9))) = false := decide_eq_false c23
      clear c23
      by_cases c25 : t362 = 0
      ·
       rw [if_pos c25] at H
       have c25b0 : (t362 == 0) = true := beq_iff_eq.mpr c25
       have c25b1 : (t362 != 0) = false := bne_eq_false_iff_eq.mpr c25
       clear c25
       by_cases c26 : (wrap64 (rd l0 x8_9)) = x359002_1
       ·
        rw [if_pos c26] at H
        have c26b0 : ((wrap64 (rd l0 x8_9)) == x359002_1) = true := beq_iff_eq.mpr c26
        have c26b1 : ((wrap64 (rd l0 x8_9)) != x359002_1) = false := bne_eq_false_iff_eq.mpr c26
        clear c26
        simp only [Option.some.injEq, Prod.mk.injEq] at H
        obtain ⟨rfl, rfl, rfl⟩ := H
        have p368 : 0 ≤ (x8_9 : Int) := of_decide_eq_true (by (with_reducible assumption))
        have q368 : x8_9 < (l0.length : Int) := of_decide_eq_true (by (with_reducible assumption))
        obtain ⟨ad368, e368, hx368_0⟩ := Kd.at_int HR0.out x8_9 p368 q368
        cases e368
        replace hx368_0 := (HB.out.cell (World.block_lt_of_cell? w _ hx368_0)).trans hx368_0
        replace p368 := eq_true p368
        replace q368 := eq_true q368
        obtain ⟨hcz27_0, hcz27_1, hcz27_2, hfz27_0, hfz27_1, hfz27_2⟩ := cz3 BK358.out
        go_wp2
        go_ret3
        exact ⟨_, by rfl, Kd.R_V (by exact Kd.R_nil _ _ _ 0 _), by repeat (with_reducible exact HB.out)⟩
       rw [if_neg c26] at H
       have c26b0 : ((wrap64 (rd l0 x8_9)) == x359002_1) = false := beq_eq_false_iff_ne.mpr c26
       have c26b1 : ((wrap64 (rd l0 x8_9)) != x359002_1) = true := bne_iff_ne.mpr c26
       by_cases c28 : x10_1.length < 5864062014805
       ·
        rw [if_pos c28] at H
        have LMc28 := Aside0.mk c28
        clear c28
        obtain ⟨y369, hy369⟩ : ∃ y_ : List (S43), y_ = (x10_1 ++ [(⟨wrap64 ((wrap64 (x359001_1 + 1)) + (wrap64 (t362))), wrap64 ((wrap64 ((wrap64 (x359001_1 + 1)) + (wrap64 (t362)))) + (wrap64 (x13_9))), wrap64 (rd l0 x8_9)⟩ : S43)]) := ⟨_, rfl⟩
        replace H : (span_Take.l0 kj9 l0 (wrap64 (x8_9 + 1)) y369 (wrap64 (t355)) (wrap64 (x32_1 + 1)) (wrap64 ((wrap64 (x359001_1 + 1)) + (wrap64 (t362)))) (wrap64 ((wrap64 ((wrap64 (x359001_1 + 1)) + (wrap64 (t362)))) + (wrap64 (x13_9)))) (wrap64 (rd l0 x8_9))) = some (r1, r2, r3) := by (rw [hy369]; with_reducible exact H)
        have Ny369 := Aside0.mk hy369
        clear hy369
        have H' := Aside0.mk H
        clear H
        have p368 : 0 ≤ (x8_9 : Int) := of_decide_eq_true (by (with_reducible assumption))
        have q368 : x8_9 < (l0.length : Int) := of_decide_eq_true (by (with_reducible assumption))
        obtain ⟨ad368, e368, hx368_0⟩ := Kd.at_int HR0.out x8_9 p368 q368
        cases e368
        replace hx368_0 := (HB.out.cell (World.block_lt_of_cell? w _ hx368_0)).trans hx368_0
        replace p368 := eq_true p368
        replace q368 := eq_true q368
        obtain ⟨hcz29_0, hcz29_1, hcz29_2, hfz29_0, hfz29_1, hfz29_2⟩ := cz3 BK358.out
        go_wp2_with (((with_reducible refine gate_builtin (b := .append) (xs := #[.tmp 111, .tmp 113]) rfl ?_); at_builtin; refine Kd.R_append k43 (w0 := w) w.heap.size rfl (.tmp 111) (.tmp 113) 22 43 (.agg #[(.int .i64 0), (.int .i64 0), (.int .i64 0)]) 24 rfl Try.underlying22 info43 rfl (by decide) (by omega) u10 x10_1 (⟨wrap64 ((wrap64 (x359001_1 + 1)) + (wrap64 (t362))), wrap64 ((wrap64 ((wrap64 (x359001_1 + 1)) + (wrap64 (t362)))) + (wrap64 (x13_9))), wrap64 (rd l0 x8_9)⟩ : S43) [.int .i64 (wrap64 ((wrap64 (x359001_1 + 1)) + (wrap64 (t362)))), .int .i64 (wrap64 ((wrap64 ((wrap64 (x359001_1 + 1)) + (wrap64 (t362)))) + (wrap64 (x13_9)))), .int .i64 (wrap64 (rd l0 x8_9))] (fun k_ => (w.heap.size ≤ k_) ∧ k_ ≠ gb358) (fun _ => False) rfl (by (go_simp; done)) ?aP (fun _ hk => hk.elim) ?aF ?aO ?aB ?aS ?aL ?_; (case aP => exact k43_mkM _ _ _ (⟨wrap64 ((wrap64 (x359001_1 + 1)) + (wrap64 (t362))), wrap64 ((wrap64 ((wrap64 (x359001_1 + 1)) + (wrap64 (t362)))) + (wrap64 (x13_9))), wrap64 (rd l0 x8_9)⟩ : S43)); (case aB => exact (by repeat (with_reducible first | exact HB.out | refine below_set ?_ GE358.out))); (case aF => exact (fun k_ hk => ⟨(Nat.le_trans (below_size (by repeat (with_reducible first | exact HB.out | refine below_set ?_ GE358.out))) hk), Kd.freshB (g := gb358) (o := .cells #[.int .i64 (wrap64 ((wrap64 (x359001_1 + 1)) + (wrap64 (t362)))), .int .i64 (wrap64 ((wrap64 ((wrap64 (x359001_1 + 1)) + (wrap64 (t362)))) + (wrap64 (x13_9)))), .int .i64 (wrap64 (rd l0 x8_9))] 43 (0, 0)) (by refine blk_put (cs := #[.int .i64 (wrap64 ((wrap64 (x359001_1 + 1)) + (wrap64 (t362)))), .int .i64 (wrap64 ((wrap64 ((wrap64 (x359001_1 + 1)) + (wrap64 (t362)))) + (wrap64 (x13_9)))), .int .i64 x359002_1]) ?_ 2 _ rfl; refine blk_put (cs := #[.int .i64 (wrap64 ((wrap64 (x359001_1 + 1)) + (wrap64 (t362)))), .int .i64 x359001_1, .int .i64 x359002_1]) ?_ 1 _ rfl; refine blk_put (cs := #[.int .i64 x359000_1, .int .i64 x359001_1, .int .i64 x359002_1]) ?_ 0 _ rfl; exact BK358.out) k_ hk⟩)); (case aO => exact (by exact Kd.R_mono (Kd.R_far (p := ⟨gb358, 2, none⟩) (Kd.R_far (p := ⟨gb358, 1, none⟩) (Kd.R_far (p := ⟨gb358, 0, none⟩) (Kd.R_mono HO_10.out (fun k_ hk => (⟨hk, hk.2⟩ : _ ∧ k_ ≠ gb358))) (fun _ hk => hk.2) (.int .i64 (wrap64 ((wrap64 (x359001_1 + 1)) + (wrap64 (t362)))))) (fun _ hk => hk.2) (.int .i64 (wrap64 ((wrap64 ((wrap64 (x359001_1 + 1)) + (wrap64 (t362)))) + (wrap64 (x13_9)))))) (fun _ hk => hk.2) (.int .i64 (wrap64 (rd l0 x8_9)))) (fun _ hk => ⟨hk.1.1, hk.1.2⟩))); (case aS => exact (below_size (by repeat (with_reducible first | exact HB.out | refine below_set ?_ GE358.out)))); (case aL => have := LMc28.out; omega); intro v370 w30 ho hb hg hat; rw [← Ny369.out] at ho; have n0_ := Aside0.mk (blk_grown (g := gb358) (o := .cells #[.int .i64 (wrap64 ((wrap64 (x359001_1 + 1)) + (wrap64 (t362)))), .int .i64 (wrap64 ((wrap64 ((wrap64 (x359001_1 + 1)) + (wrap64 (t362)))) + (wrap64 (x13_9)))), .int .i64 (wrap64 (rd l0 x8_9))] 43 (0, 0)) (by refine blk_put (cs := #[.int .i64 (wrap64 ((wrap64 (x359001_1 + 1)) + (wrap64 (t362)))), .int .i64 (wrap64 ((wrap64 ((wrap64 (x359001_1 + 1)) + (wrap64 (t362)))) + (wrap64 (x13_9)))), .int .i64 x359002_1]) ?_ 2 _ rfl; refine blk_put (cs := #[.int .i64 (wrap64 ((wrap64 (x359001_1 + 1)) + (wrap64 (t362)))), .int .i64 x359001_1, .int .i64 x359002_1]) ?_ 1 _ rfl; refine blk_put (cs := #[.int .i64 x359000_1, .int .i64 x359001_1, .int .i64 x359002_1]) ?_ 0 _ rfl; exact BK358.out) hg (Kd.R_away HO_10.out (fun _ hk => hk.2))); have n1_ := Aside0.mk (hb); have n2_ := Aside0.mk (ho); clear BK358; clear HB; clear HO_10; have BK358 := n0_; have HB := n1_; have HO371 := n2_; clear n0_ n1_ n2_; clear ho hb hg hat))
        go_roundg kj9
        case measure => have := HK1.out; have := HJ9.out; omega
        case rel => exact ⟨(wrap64 (x8_9 + 1)), (y369), (wrap64 (x32_1 + 1)), (wrap64 ((wrap64 (x359001_1 + 1)) + (wrap64 (t362)))), (wrap64 ((wrap64 ((wrap64 (x359001_1 + 1)) + (wrap64 (t362)))) + (wrap64 (x13_9)))), (wrap64 (rd l0 x8_9)), (by rfl), (by rfl), H', ⟨by have := HK1.out; have := HJ9.out; omega⟩, ⟨by exact HO371.out⟩, ⟨by exact BK358.out⟩, ⟨by repeat (with_reducible exact HB.out)⟩⟩
       rw [if_neg c28] at H
       exact absurd H (by simp)
      rw [if_neg c25] at H
      have c25b0 : (t362 == 0) = false := beq_eq_false_iff_ne.mpr c25
      have c25b1 : (t362 != 0) = true := bne_iff_ne.mpr c25
      by_cases c31 : x10_1.length < 5864062014805
      ·
       rw [if_pos c31] at H
       have LMc31 := Aside0.mk c31
       clear c31
       obtain ⟨y372, hy372⟩ : ∃ y_ : List (S43), y_ = (x10_1 ++ [(⟨wrap64 ((wrap64 (x359001_1 + 1)) + (wrap64 (t362))), wrap64 ((wrap64 ((wrap64 (x359001_1 + 1)) + (wrap64 (t362)))) + (wrap64 (x13_9))), wrap64 (rd l0 x8_9)⟩ : S43)]) := ⟨_, rfl⟩
       replace H : (span_Take.l0 kj9 l0 (wrap64 (x8_9 + 1)) y372 (wrap64 (t355)) (wrap64 (x32_1 + 1)) (wrap64 ((wrap64 (x359001_1 + 1)) + (wrap64 (t362)))) (wrap64 ((wrap64 ((wrap64 (x359001_1 + 1)) + (wrap64 (t362)))) + (wrap64 (x13_9)))) (wrap64 (rd l0 x8_9))) = some (r1, r2, r3) := by (rw [hy372]; with_reducible exact H)
       have Ny372 := Aside0.mk hy372
       clear hy372
       have H' := Aside0.mk H
       clear H
       have p368 : 0 ≤ (x8_9 : Int) := of_decide_eq_true (by (with_reducible assumption))
       have q368 : x8_9 < (l0.length : Int) := of_decide_eq_true (by (with_reducible assumption))
       obtain ⟨ad368, e368, hx368_0⟩ := Kd.at_int HR0.out x8_9 p368 q368
       cases e368
       replace hx368_0 := (HB.out.cell (World.block_lt_of_cell? w _ hx368_0)).trans hx368_0
       replace p368 := eq_true p368
       replace q368 := eq_true q368
       obtain ⟨hcz32_0, hcz32_1, hcz32_2, hfz32_0, hfz32_1, hfz32_2⟩ := cz3 BK358.out
       go_wp2_with (((with_reducible refine gate_builtin (b := .append) (xs := #[.tmp 111, .tmp 113]) rfl ?_); at_builtin; refine Kd.R_append k43 (w0 := w) w.heap.size rfl (.tmp 111) (.tmp 113) 22 43 (.agg #[(.int .i64 0), (.int .i64 0), (.int .i64 0)]) 24 rfl Try.underlying22 info43 rfl (by decide) (by omega) u10 x10_1 (⟨wrap64 ((wrap64 (x359001_1 + 1)) + (wrap64 (t362))), wrap64 ((wrap64 ((wrap64 (x359001_1 + 1)) + (wrap64 (t362)))) + (wrap64 (x13_9))), wrap64 (rd l0 x8_9)⟩ : S43) [.int .i64 (wrap64 ((wrap64 (x359001_1 + 1)) + (wrap64 (t362)))), .int .i64 (wrap64 ((wrap64 ((wrap64 (x359001_1 + 1)) + (wrap64 (t362)))) + (wrap64 (x13_9)))), .int .i64 (wrap64 (rd l0 x8_9))] (fun k_ => (w.heap.size ≤ k_) ∧ k_ ≠ gb358) (fun _ => False) rfl (by (go_simp; done)) ?aP (fun _ hk => hk.elim) ?aF ?aO ?aB ?aS ?aL ?_; (case aP => exact k43_mkM _ _ _ (⟨wrap64 ((wrap64 (x359001_1 + 1)) + (wrap64 (t362))), wrap64 ((wrap64 ((wrap64 (x359001_1 + 1)) + (wrap64 (t362)))) + (wrap64 (x13_9))), wrap64 (rd l0 x8_9)⟩ : S43)); (case aB => exact (by repeat (with_reducible first | exact HB.out | refine below_set ?_ GE358.out))); (case aF => exact (fun k_ hk => ⟨(Nat.le_trans (below_size (by repeat (with_reducible first | exact HB.out | refine below_set ?_ GE358.out))) hk), Kd.freshB (g := gb358) (o := .cells #[.int .i64 (wrap64 ((wrap64 (x359001_1 + 1)) + (wrap64 (t362)))), .int .i64 (wrap64 ((wrap64 ((wrap64 (x359001_1 + 1)) + (wrap64 (t362)))) + (wrap64 (x13_9)))), .int .i64 (wrap64 (rd l0 x8_9))] 43 (0, 0)) (by refine blk_put (cs := #[.int .i64 (wrap64 ((wrap64 (x359001_1 + 1)) + (wrap64 (t362)))), .int .i64 (wrap64 ((wrap64 ((wrap64 (x359001_1 + 1)) + (wrap64 (t362)))) + (wrap64 (x13_9)))), .int .i64 x359002_1]) ?_ 2 _ rfl; refine blk_put (cs := #[.int .i64 (wrap64 ((wrap64 (x359001_1 + 1)) + (wrap64 (t362)))), .int .i64 x359001_1, .int .i64 x359002_1]) ?_ 1 _ rfl; refine blk_put (cs := #[.int .i64 x359000_1, .int .i64 x359001_1, .int .i64 x359002_1]) ?_ 0 _ rfl; exact BK358.out) k_ hk⟩)); (case aO => exact (by exact Kd.R_mono (Kd.R_far (p := ⟨gb358, 2, none⟩) (Kd.R_far (p := ⟨gb358, 1, none⟩) (Kd.R_far (p := ⟨gb358, 0, none⟩) (Kd.R_mono HO_10.out (fun k_ hk => (⟨hk, hk.2⟩ : _ ∧ k_ ≠ gb358))) (fun _ hk => hk.2) (.int .i64 (wrap64 ((wrap64 (x359001_1 + 1)) + (wrap64 (t362)))))) (fun _ hk => hk.2) (.int .i64 (wrap64 ((wrap64 ((wrap64 (x359001_1 + 1)) + (wrap64 (t362)))) + (wrap64 (x13_9)))))) (fun _ hk => hk.2) (.int .i64 (wrap64 (rd l0 x8_9)))) (fun _ hk => ⟨hk.1.1, hk.1.2⟩))); (case aS => exact (below_size (by repeat (with_reducible first | exact HB.out | refine below_set ?_ GE358.out)))); (case aL => have := LMc31.out; omega); intro v373 w33 ho hb hg hat; rw [← Ny372.out] at ho; have n0_ := Aside0.mk (blk_grown (g := gb358) (o := .cells #[.int .i64 (wrap64 ((wrap64 (x359001_1 + 1)) + (wrap64 (t362)))), .int .i64 (wrap64 ((wrap64 ((wrap64 (x359001_1 + 1)) + (wrap64 (t362)))) + (wrap64 (x13_9)))), .int .i64 (wrap64 (rd l0 x8_9))] 43 (0, 0)) (by refine blk_put (cs := #[.int .i64 (wrap64 ((wrap64 (x359001_1 + 1)) + (wrap64 (t362)))), .int .i64 (wrap64 ((wrap64 ((wrap64 (x359001_1 + 1)) + (wrap64 (t362)))) + (wrap64 (x13_9)))), .int .i64 x359002_1]) ?_ 2 _ rfl; refine blk_put (cs := #[.int .i64 (wrap64 ((wrap64 (x359001_1 + 1)) + (wrap64 (t362)))), .int .i64 x359001_1, .int .i64 x359002_1]) ?_ 1 _ rfl; refine blk_put (cs := #[.int .i64 x359000_1, .int .i64 x359001_1, .int .i64 x359002_1]) ?_ 0 _ rfl; exact BK358.out) hg (Kd.R_away HO_10.out (fun _ hk => hk.2))); have n1_ := Aside0.mk (hb); have n2_ := Aside0.mk (ho); clear BK358; clear HB; clear HO_10; have BK358 := n0_; have HB := n1_; have HO374 := n2_; clear n0_ n1_ n2_; clear ho hb hg hat))
       go_roundg kj9
       case measure => have := HK1.out; have := HJ9.out; omega
       case rel => exact ⟨(wrap64 (x8_9 + 1)), (y372), (wrap64 (x32_1 + 1)), (wrap64 ((wrap64 (x359001_1 + 1)) + (wrap64 (t362)))), (wrap64 ((wrap64 ((wrap64 (x359001_1 + 1)) + (wrap64 (t362)))) + (wrap64 (x13_9)))), (wrap64 (rd l0 x8_9)), (by rfl), (by rfl), H', ⟨by have := HK1.out; have := HJ9.out; omega⟩, ⟨by exact HO374.out⟩, ⟨by exact BK358.out⟩, ⟨by repeat (with_reducible exact HB.out)⟩⟩
      rw [if_neg c31] at H
      exact absurd H (by simp)
     rw [if_neg c16] at H
     exact absurd H (by simp)
    rw [if_neg c15] at H
    exact absurd H (by simp)
   rw [if_neg c13] at H
   have c13b0 : (x9_9 == 0) = false := beq_eq_false_iff_ne.mpr c13
   have c13b1 : (x9_9 != 0) = true := bne_iff_ne.mpr c13
   simp only [Option.some.injEq, Prod.mk.injEq] at H
   obtain ⟨rfl, rfl, rfl⟩ := H
   go_wp2
   go_ret3
   exact ⟨_, by rfl, Kd.R_V (by exact Kd.R_nil _ _ _ 0 _), by repeat (with_reducible exact HB.out)⟩
  rw [if_neg c8] at H
  have c8b0 : decide (x32_1 < (wrap64 (t355))) = false := decide_eq_false c8
  clear c8
  replace H := Option.bind_eq_some_iff.mp H
  obtain ⟨t359, A340, H⟩ := H
  replace H : (some (t359, x8_1, 0)) = some (r1, r2, r3) := H
  have A34 := Aside0.mk A340
  clear A340
  simp only [Option.some.injEq, Prod.mk.injEq] at H
  obtain ⟨rfl, rfl, rfl⟩ := H
  obtain ⟨Ao35, co35, eo35⟩ := Kd.R_slice HO_10.out
  subst eo35
  go_wp2_with (((with_reducible refine gate_callee (f := 75) rfl ?_); refine goesL_ (some 117) rfl rfl Try.func75 (by kernel_rfl) rfl #[.slice Ao35 x10_1.length co35] rfl (by (try simp only [List.map_toArray, List.map_cons, List.map_nil]); rfl) ?_; (with_reducible refine (api_Span_75.calls (fun k_ => some k_ = (.slice Ao35 x10_1.length co35 : Value).ownBlock) _ _ x10_1 t359 _ ?side1 A34.out).mono ?_); (case side1 => exact Kd.R_V (Kd.R_tight rfl (HO_10.out))); rintro e w36 ⟨v360, rfl, ho0, hb⟩; refine ⟨_, rfl, ?_⟩; have n0_ := Aside0.mk (Kd.R_below (by exact HO_10.out) hb); have n1_ := Aside0.mk (Kd.V_lower (Kd.V_mono (ok' := fun k_ => (w.heap.size ≤ k_) ∧ k_ ≠ gb358) ho0 (fun k_ hk_ => ⟨Or.elim hk_ (fun hs_ => ((HO_10.out).1 k_ hs_.symm).1) (fun hn_ => (Nat.le_trans (below_size (by repeat (with_reducible exact HB.out))) hn_)), Or.elim hk_ (fun hs_ => ((HO_10.out).1 k_ hs_.symm).2) (fun hn_ => (Kd.freshB (g := gb358) (o := .cells #[.int .i64 x359000_1, .int .i64 x359001_1, .int .i64 x359002_1] 43 (0, 0)) (by exact BK358.out) k_ hn_))⟩)) (below_size (by repeat (with_reducible exact HB.out)))); have n2_ := Aside0.mk (blk_below (g := gb358) (o := .cells #[.int .i64 x359000_1, .int .i64 x359001_1, .int .i64 x359002_1] 43 (0, 0)) (by exact BK358.out) hb); have n3_ := Aside0.mk (below_step (by repeat (with_reducible exact HB.out)) hb); clear HO_10; clear BK358; clear HB; have HO_10 := n0_; have HO361 := n1_; have BK358 := n2_; have HB := n3_; clear n0_ n1_ n2_ n3_; (try clear hb); (try clear ho0)))
  go_ret3
  exact ⟨_, by rfl, by exact Kd.V_mono HO361.out (fun _ hk => hk.1), by repeat (with_reducible exact HB.out)⟩
 rw [if_neg c4] at H
 have c4b0 : (t357 == 0) = false := beq_eq_false_iff_ne.mpr c4
 have c4b1 : (t357 != 0) = true := bne_iff_ne.mpr c4
 simp only [Option.some.injEq, Prod.mk.injEq] at H
 obtain ⟨rfl, rfl, rfl⟩ := H
 go_enter Try.func50, Try.ntmps50
 go_wp2_with (((with_reducible refine gate_callee (f := 74) rfl ?_); refine goesL_ (some 20) rfl rfl Try.func74 (by kernel_rfl) rfl #[.slice A0 l0.length c0, .int .i64 a1] rfl (by (try simp only [List.map_toArray, List.map_cons, List.map_nil]); rfl) ?_; (with_reducible refine (octet_TakeUint.calls k _ _ l0 a1 t355 t356 t357 _ ?side1 ?side2 A3.out).mono ?_); (case side1 => repeat (exact HR0.out)); (case side2 => exact HC0.out); rintro e w' ⟨rfl, ⟨nd, rfl⟩⟩; refine ⟨_, rfl, ?_⟩))
 go_ret3
 exact ⟨_, by rfl, Kd.R_V (by exact Kd.R_nil _ _ _ 0 _), by repeat (with_reducible first | exact HB.out | apply pw_below_drewN)⟩
end Go.Proofs.Ytpeacoppclmmlaa.PP
