-- PRINTED by gprint.py (a session's own driver over the kit's print): not trusted; Lean checks it.
import Derived.Test.YtpeacoppclmmlaaPTPPx0
import Derived.Test.YtpeacoppclmmlaaPTPPx22
namespace Go.Proofs.Ytpeacoppclmmlaa.PP
open Go.RowKit Go.Proofs.YtpeacoppclmmlaaW.PrintWords Go.Proofs.YtpeacoppclmmlaaW.PrintLast Go.Proofs.YtpeacoppclmmlaaW.PrintMore
attribute [local go_sem] max2_int min2_int max_two min_two max_three min_three max_four min_four   -- for this text's walks alone
set_option linter.unusedVariables false
set_option linter.unusedSimpArgs false
/-! ### grapevineref13_upto: function 82 -/
def grapevineref13_upto.j0 : Nat → Int → Int → Int → Bool → Option (Int × Int × Int)
 | 0, _, _, _, _ => none
 | k + 1, x9, x10, x11, x25 => if x25 = true then (if 6 = 0 then (some (wrap64 (x9), x10, 0)) else (some (0, 0, 6))) else (if x11 = 0 then (some (wrap64 (x9), x10, 0)) else (some (0, 0, x11)))
def grapevineref13_upto.f (k : Nat) (l0 : List Int) (a1 : Int) (a2 : Int) : Option (Int × Int × Int) := (grapevineref02_TakeUint.f k l0 a1).bind fun bt400 => (if bt400.2.2 = 0 then (grapevineref13_upto.j0 k bt400.1 bt400.2.1 bt400.2.2 (decide (bt400.1 > a2))) else (grapevineref13_upto.j0 k bt400.1 bt400.2.1 bt400.2.2 false))
set_option maxHeartbeats 8000000 in
set_option maxRecDepth 100000 in
theorem grapevineref13_upto.calls (k : Nat) (A0 : Option Addr) (c0 : Nat) (l0 : List Int) (a1 : Int) (a2 : Int) (r1 : Int) (r2 : Int) (r3 : Int) (w : World) (hr0 : Kd.C (Kd.int .u8) w A0 l0.length l0) (hc0 : l0.length ≤ c0) (h : grapevineref13_upto.f k l0 a1 a2 = some (r1, r2, r3)) :
 Calls Try.prog 82 #[.slice A0 l0.length c0, .int .i64 a1, .int .u64 a2] w fun e w' => e = .returned (.tuple #[.int .i64 r1, .int .i64 r2, .int .i64 r3]) ∧ Drawn0 w w' := by
 have HR0 := Aside0.mk hr0
 have HC0 := Aside0.mk hc0
 clear hr0 hc0
 have H : ((grapevineref02_TakeUint.f k l0 a1).bind fun bt400 => (if bt400.2.2 = 0 then (grapevineref13_upto.j0 k bt400.1 bt400.2.1 bt400.2.2 (decide (bt400.1 > a2))) else (grapevineref13_upto.j0 k bt400.1 bt400.2.1 bt400.2.2 false))) = some (r1, r2, r3) := h
 clear h
 replace H := Option.bind_eq_some_iff.mp H
 obtain ⟨⟨t400, t401, t402⟩, A40, H⟩ := H
 replace H : (if t402 = 0 then (grapevineref13_upto.j0 k t400 t401 t402 (decide (t400 > a2))) else (grapevineref13_upto.j0 k t400 t401 t402 false)) = some (r1, r2, r3) := H
 have A4 := Aside0.mk A40
 clear A40
 have HC5 := Aside0.mk H
 clear H
 go_enter Try.func82, Try.ntmps82
 go_upto_region 2 with (((with_reducible refine gate_callee (f := 76) rfl ?_); refine goesL_ (some 15) rfl rfl Try.func76 (by kernel_rfl) rfl #[.slice A0 l0.length c0, .int .i64 a1] rfl (by (try simp only [List.map_toArray, List.map_cons, List.map_nil]); rfl) ?_; (with_reducible refine (grapevineref02_TakeUint.calls k _ _ l0 a1 t400 t401 t402 _ ?side1 ?side2 A4.out).mono ?_); (case side1 => repeat (exact HR0.out)); (case side2 => exact HC0.out); rintro e w' ⟨rfl, ⟨nd, rfl⟩⟩; refine ⟨_, rfl, ?_⟩))
 (skip)
 go_cut [25] (fun v25 wc => ∃ (kq : Nat) (x25_4 : Bool), v25 = .bool x25_4 ∧ Aside0 (grapevineref13_upto.j0 kq t400 t401 t402 x25_4 = some (r1, r2, r3)) ∧ Aside0 (kq ≤ k) ∧ Drawn0 w wc)
 case first =>
  have H := HC5.out
  clear HC5
  by_cases c6 : t402 = 0
  ·
   rw [if_pos c6] at H
   have c6b0 : (t402 == 0) = true := beq_iff_eq.mpr c6
   have c6b1 : (t402 != 0) = false := bne_eq_false_iff_eq.mpr c6
   clear c6
   (skip)
   have H' := Aside0.mk H
   clear H
   go_wp2
   go_meet
   case rel => exact ⟨_, (decide (t400 > a2)), (by rfl), H', ⟨by omega⟩, by repeat (first | exact Drawn0.refl _ | apply Drawn0.step)⟩
  rw [if_neg c6] at H
  have c6b0 : (t402 == 0) = false := beq_eq_false_iff_ne.mpr c6
  have c6b1 : (t402 != 0) = true := bne_iff_ne.mpr c6
  (skip)
  have H' := Aside0.mk H
  clear H
  go_wp2
  go_meet
  case rel => exact ⟨_, (false), (by rfl), H', ⟨by omega⟩, by repeat (first | exact Drawn0.refl _ | apply Drawn0.step)⟩
 case rest =>
 clear HC5
 skip
 skip
 skip
 skip
 obtain ⟨kq, x25_4, rfl, HA, HJ4, ⟨mc4, rfl⟩⟩ := hcut
 cases kq with
 | zero => exact absurd HA.out (by simp [grapevineref13_upto.j0])
 | succ kj4 =>
 have H := HA.out
 clear HA
 simp only [grapevineref13_upto.j0] at H
 by_cases c7 : x25_4 = true
 ·
  subst c7
  have H1 : (if 6 = 0 then (some (wrap64 (t400), t401, 0)) else (some (0, 0, 6))) = some (r1, r2, r3) := by rw [if_pos rfl] at H; exact H
  clear H
  have H := H1
  clear H1
  by_cases c8 : 6 = 0
  ·
   exact absurd c8 (by decide)
  rw [if_neg c8] at H
  have c8b0 : (6 == 0) = false := beq_eq_false_iff_ne.mpr c8
  have c8b1 : (6 != 0) = true := bne_iff_ne.mpr c8
  simp only [Option.some.injEq, Prod.mk.injEq] at H
  obtain ⟨rfl, rfl, rfl⟩ := H
  go_wp2
  go_ret3
  exact ⟨by rfl, by repeat (first | exact Drawn0.refl _ | apply Drawn0.step)⟩
 replace c7 := Bool.eq_false_iff.mpr c7
 subst c7
 have H1 : (if t402 = 0 then (some (wrap64 (t400), t401, 0)) else (some (0, 0, t402))) = some (r1, r2, r3) := by rw [if_neg (show ¬ (false = true) by decide)] at H; exact H
 clear H
 have H := H1
 clear H1
 by_cases c9 : t402 = 0
 ·
  rw [if_pos c9] at H
  have c9b0 : (t402 == 0) = true := beq_iff_eq.mpr c9
  have c9b1 : (t402 != 0) = false := bne_eq_false_iff_eq.mpr c9
  clear c9
  simp only [Option.some.injEq, Prod.mk.injEq] at H
  obtain ⟨rfl, rfl, rfl⟩ := H
  go_wp2
  go_ret3
  exact ⟨by rfl, by repeat (first | exact Drawn0.refl _ | apply Drawn0.step)⟩
 rw [if_neg c9] at H
 have c9b0 : (t402 == 0) = false := beq_eq_false_iff_ne.mpr c9
 have c9b1 : (t402 != 0) = true := bne_iff_ne.mpr c9
 simp only [Option.some.injEq, Prod.mk.injEq] at H
 obtain ⟨rfl, rfl, rfl⟩ := H
 go_wp2
 go_ret3
 exact ⟨by rfl, by repeat (first | exact Drawn0.refl _ | apply Drawn0.step)⟩
/-! ### grapevineref13_item: function 83 -/
def grapevineref13_item.f (k : Nat) (l0 : List Int) (a1 : Int) : Option (Int × Int × List Int × Int × Int) := (grapevineref13_upto.f k l0 a1 1099511627776).bind fun bt404 => (if bt404.2.2 = 0 then ((grapevineref13_upto.f k l0 bt404.2.1 4294967295).bind fun bt407 => (if bt407.2.2 = 0 then ((grapevineref13_upto.f k l0 bt407.2.1 400).bind fun bt410 => (if bt410.2.2 = 0 then (if (wrap64 ((l0.length : Int) - bt410.2.1)) < bt410.1 then (some (0, 0, ([] : List Int), 0, 3)) else ((some (([] : List Int) : List Int)).bind fun y413 => (if 0 ≤ bt410.2.1 then (if bt410.2.1 ≤ (wrap64 (bt410.2.1 + bt410.1)) then (if (wrap64 (bt410.2.1 + bt410.1)) ≤ (l0.length : Int) then (if y413.length + ((l0.take ((wrap64 (bt410.2.1 + bt410.1)) : Int).toNat).drop (bt410.2.1 : Int).toNat).length < 140737488355328 then (some (bt404.1, (bt407.1) % 4294967296, (y413 ++ ((l0.take ((wrap64 (bt410.2.1 + bt410.1)) : Int).toNat).drop (bt410.2.1 : Int).toNat)), wrap64 (bt410.2.1 + bt410.1), 0)) else (none)) else (none)) else (none)) else (none)))) else (some (0, 0, ([] : List Int), 0, bt410.2.2)))) else (some (0, 0, ([] : List Int), 0, bt407.2.2)))) else (some (0, 0, ([] : List Int), 0, bt404.2.2)))
set_option maxHeartbeats 8000000 in
set_option maxRecDepth 100000 in
theorem grapevineref13_item.calls (k : Nat) (A0 : Option Addr) (c0 : Nat) (l0 : List Int) (a1 : Int) (r1 : Int) (r2 : Int) (r3 : List Int) (r4 : Int) (r5 : Int) (w : World) (hr0 : Kd.C (Kd.int .u8) w A0 l0.length l0) (hc0 : l0.length ≤ c0) (h : grapevineref13_item.f k l0 a1 = some (r1, r2, r3, r4, r5)) :
 Calls Try.prog 83 #[.slice A0 l0.length c0, .int .i64 a1] w fun e w' => ∃ v2_ : Value, e = .returned (.tuple #[.agg #[.int .i64 r1, .int .u32 r2, v2_], .int .i64 r4, .int .i64 r5]) ∧ Kd.R (Kd.int .u8) 5 w' w.heap.size (fun _ => True) v2_ r3 ∧ Below w.heap.size w w' := by
 have hu62 := Try.underlying62
 have HR0 := Aside0.mk hr0
 have HC0 := Aside0.mk hc0
 clear hr0 hc0
 have HB := Aside0.mk (Below.refl w.heap.size w)
 have H : ((grapevineref13_upto.f k l0 a1 1099511627776).bind fun bt404 => (if bt404.2.2 = 0 then ((grapevineref13_upto.f k l0 bt404.2.1 4294967295).bind fun bt407 => (if bt407.2.2 = 0 then ((grapevineref13_upto.f k l0 bt407.2.1 400).bind fun bt410 => (if bt410.2.2 = 0 then (if (wrap64 ((l0.length : Int) - bt410.2.1)) < bt410.1 then (some (0, 0, ([] : List Int), 0, 3)) else ((some (([] : List Int) : List Int)).bind fun y413 => (if 0 ≤ bt410.2.1 then (if bt410.2.1 ≤ (wrap64 (bt410.2.1 + bt410.1)) then (if (wrap64 (bt410.2.1 + bt410.1)) ≤ (l0.length : Int) then (if y413.length + ((l0.take ((wrap64 (bt410.2.1 + bt410.1)) : Int).toNat).drop (bt410.2.1 : Int).toNat).length < 140737488355328 then (some (bt404.1, (bt407.1) % 4294967296, (y413 ++ ((l0.take ((wrap64 (bt410.2.1 + bt410.1)) : Int).toNat).drop (bt410.2.1 : Int).toNat)), wrap64 (bt410.2.1 + bt410.1), 0)) else (none)) else (none)) else (none)) else (none)))) else (some (0, 0, ([] : List Int), 0, bt410.2.2)))) else (some (0, 0, ([] : List Int), 0, bt407.2.2)))) else (some (0, 0, ([] : List Int), 0, bt404.2.2)))) = some (r1, r2, r3, r4, r5) := h
 clear h
 replace H := Option.bind_eq_some_iff.mp H
 obtain ⟨⟨t404, t405, t406⟩, A30, H⟩ := H
 replace H : (if t406 = 0 then ((grapevineref13_upto.f k l0 t405 4294967295).bind fun bt407 => (if bt407.2.2 = 0 then ((grapevineref13_upto.f k l0 bt407.2.1 400).bind fun bt410 => (if bt410.2.2 = 0 then (if (wrap64 ((l0.length : Int) - bt410.2.1)) < bt410.1 then (some (0, 0, ([] : List Int), 0, 3)) else ((some (([] : List Int) : List Int)).bind fun y413 => (if 0 ≤ bt410.2.1 then (if bt410.2.1 ≤ (wrap64 (bt410.2.1 + bt410.1)) then (if (wrap64 (bt410.2.1 + bt410.1)) ≤ (l0.length : Int) then (if y413.length + ((l0.take ((wrap64 (bt410.2.1 + bt410.1)) : Int).toNat).drop (bt410.2.1 : Int).toNat).length < 140737488355328 then (some (t404, (bt407.1) % 4294967296, (y413 ++ ((l0.take ((wrap64 (bt410.2.1 + bt410.1)) : Int).toNat).drop (bt410.2.1 : Int).toNat)), wrap64 (bt410.2.1 + bt410.1), 0)) else (none)) else (none)) else (none)) else (none)))) else (some (0, 0, ([] : List Int), 0, bt410.2.2)))) else (some (0, 0, ([] : List Int), 0, bt407.2.2)))) else (some (0, 0, ([] : List Int), 0, t406))) = some (r1, r2, r3, r4, r5) := H
 have A3 := Aside0.mk A30
 clear A30
 by_cases c4 : t406 = 0
 ·
  rw [if_pos c4] at H
  have c4b0 : (t406 == 0) = true := beq_iff_eq.mpr c4
  have c4b1 : (t406 != 0) = false := bne_eq_false_iff_eq.mpr c4
  clear c4
  replace H := Option.bind_eq_some_iff.mp H
  obtain ⟨⟨t407, t408, t409⟩, A50, H⟩ := H
  replace H : (if t409 = 0 then ((grapevineref13_upto.f k l0 t408 400).bind fun bt410 => (if bt410.2.2 = 0 then (if (wrap64 ((l0.length : Int) - bt410.2.1)) < bt410.1 then (some (0, 0, ([] : List Int), 0, 3)) else ((some (([] : List Int) : List Int)).bind fun y413 => (if 0 ≤ bt410.2.1 then (if bt410.2.1 ≤ (wrap64 (bt410.2.1 + bt410.1)) then (if (wrap64 (bt410.2.1 + bt410.1)) ≤ (l0.length : Int) then (if y413.length + ((l0.take ((wrap64 (bt410.2.1 + bt410.1)) : Int).toNat).drop (bt410.2.1 : Int).toNat).length < 140737488355328 then (some (t404, (t407) % 4294967296, (y413 ++ ((l0.take ((wrap64 (bt410.2.1 + bt410.1)) : Int).toNat).drop (bt410.2.1 : Int).toNat)), wrap64 (bt410.2.1 + bt410.1), 0)) else (none)) else (none)) else (none)) else (none)))) else (some (0, 0, ([] : List Int), 0, bt410.2.2)))) else (some (0, 0, ([] : List Int), 0, t409))) = some (r1, r2, r3, r4, r5) := H
  have A5 := Aside0.mk A50
  clear A50
  by_cases c6 : t409 = 0
  ·
   rw [if_pos c6] at H
   have c6b0 : (t409 == 0) = true := beq_iff_eq.mpr c6
   have c6b1 : (t409 != 0) = false := bne_eq_false_iff_eq.mpr c6
   clear c6
   replace H := Option.bind_eq_some_iff.mp H
   obtain ⟨⟨t410, t411, t412⟩, A70, H⟩ := H
   replace H : (if t412 = 0 then (if (wrap64 ((l0.length : Int) - t411)) < t410 then (some (0, 0, ([] : List Int), 0, 3)) else ((some (([] : List Int) : List Int)).bind fun y413 => (if 0 ≤ t411 then (if t411 ≤ (wrap64 (t411 + t410)) then (if (wrap64 (t411 + t410)) ≤ (l0.length : Int) then (if y413.length + ((l0.take ((wrap64 (t411 + t410)) : Int).toNat).drop (t411 : Int).toNat).length < 140737488355328 then (some (t404, (t407) % 4294967296, (y413 ++ ((l0.take ((wrap64 (t411 + t410)) : Int).toNat).drop (t411 : Int).toNat)), wrap64 (t411 + t410), 0)) else (none)) else (none)) else (none)) else (none)))) else (some (0, 0, ([] : List Int), 0, t412))) = some (r1, r2, r3, r4, r5) := H
   have A7 := Aside0.mk A70
   clear A70
   by_cases c8 : t412 = 0
   ·
    rw [if_pos c8] at H
    have c8b0 : (t412 == 0) = true := beq_iff_eq.mpr c8
    have c8b1 : (t412 != 0) = false := bne_eq_false_iff_eq.mpr c8
    clear c8
    by_cases c9 : (wrap64 ((l0.length : Int) - t411)) < t410
    ·
     rw [if_pos c9] at H
     have c9b0 : decide ((wrap64 ((l0.length : Int) - t411)) < t410) = true := decide_eq_true c9
     clear c9
     simp only [Option.some.injEq, Prod.mk.injEq] at H
     obtain ⟨rfl, rfl, rfl, rfl, rfl⟩ := H
     go_enter Try.func83, Try.ntmps83
     go_wp2_with (first | ((with_reducible refine gate_dst (N := 4) rfl ?_); refine box_event ?hg (N := 4) ?hd (cs := #[.int .i64 0, .int .u32 0, .slice none 0 0]) (t := 62) ?hr ?_; (case hd => rfl); (case hg => rfl); (case hr => (go_simp; done)); intro gb403 hg w10 hbox hb; have n0_ := Aside0.mk (below_step (by repeat (with_reducible exact HB.out)) hb); have n1_ := Aside0.mk (hbox); have n2_ := Aside0.mk ((by rw [hg]; exact (below_size (by repeat (with_reducible exact HB.out))) : w.heap.size ≤ gb403)); have n3_ := Aside0.mk ((by rw [hg]; exact (below_size (by repeat (with_reducible exact HB.out))) : w.heap.size ≤ gb403)); clear HB; have HB := n0_; have BK403 := n1_; have GW403 := n2_; have GE403 := n3_; clear n0_ n1_ n2_ n3_; clear hb hbox hg) | ((with_reducible refine gate_callee (f := 82) rfl ?_); refine goesL_ (some 19) rfl rfl Try.func82 (by kernel_rfl) rfl #[.slice A0 l0.length c0, .int .i64 a1, .int .u64 1099511627776] rfl (by (try simp only [List.map_toArray, List.map_cons, List.map_nil]); rfl) ?_; (with_reducible refine (grapevineref13_upto.calls k _ _ l0 a1 1099511627776 t404 t405 t406 _ ?side1 ?side2 A3.out).mono ?_); (case side1 => repeat (exact (Kd.C_below HR0.out HB.out))); (case side2 => exact HC0.out); rintro e w' ⟨rfl, ⟨nd, rfl⟩⟩; refine ⟨_, rfl, ?_⟩; (try (rw [drewN_self w10]; generalize hq_ : World.drewN w10 _ = w10; have n0_ : Aside0 (w10.heap[gb403]? = some (.cells #[.int .i64 0, .int .u32 0, .slice none 0 0] 62 (0, 0))) := ⟨by rw [← hq_]; exact (by (with_reducible repeat (refine blk_drewN ?_ _)); exact BK403.out)⟩; have n1_ : Aside0 (Below w.heap.size w w10) := ⟨by rw [← hq_]; exact (by repeat (with_reducible first | exact HB.out | apply pw_below_drewN))⟩; clear BK403 HB hq_; have BK403 := n0_; have HB := n1_; clear n0_ n1_))) | ((with_reducible refine gate_callee (f := 82) rfl ?_); refine goesL_ (some 30) rfl rfl Try.func82 (by kernel_rfl) rfl #[.slice A0 l0.length c0, .int .i64 t405, .int .u64 4294967295] rfl (by (try simp only [List.map_toArray, List.map_cons, List.map_nil]); rfl) ?_; (with_reducible refine (grapevineref13_upto.calls k _ _ l0 t405 4294967295 t407 t408 t409 _ ?side1 ?side2 A5.out).mono ?_); (case side1 => repeat (exact (Kd.C_below HR0.out HB.out))); (case side2 => exact HC0.out); rintro e w' ⟨rfl, ⟨nd, rfl⟩⟩; refine ⟨_, rfl, ?_⟩; (try (rw [drewN_self w10]; generalize hq_ : World.drewN w10 _ = w10; have n0_ : Aside0 (w10.heap[gb403]? = some (.cells #[.int .i64 0, .int .u32 0, .slice none 0 0] 62 (0, 0))) := ⟨by rw [← hq_]; exact (by (with_reducible repeat (refine blk_drewN ?_ _)); exact BK403.out)⟩; have n1_ : Aside0 (Below w.heap.size w w10) := ⟨by rw [← hq_]; exact (by repeat (with_reducible first | exact HB.out | apply pw_below_drewN))⟩; clear BK403 HB hq_; have BK403 := n0_; have HB := n1_; clear n0_ n1_))) | ((with_reducible refine gate_callee (f := 82) rfl ?_); refine goesL_ (some 41) rfl rfl Try.func82 (by kernel_rfl) rfl #[.slice A0 l0.length c0, .int .i64 t408, .int .u64 400] rfl (by (try simp only [List.map_toArray, List.map_cons, List.map_nil]); rfl) ?_; (with_reducible refine (grapevineref13_upto.calls k _ _ l0 t408 400 t410 t411 t412 _ ?side1 ?side2 A7.out).mono ?_); (case side1 => repeat (exact (Kd.C_below HR0.out HB.out))); (case side2 => exact HC0.out); rintro e w' ⟨rfl, ⟨nd, rfl⟩⟩; refine ⟨_, rfl, ?_⟩; (try (rw [drewN_self w10]; generalize hq_ : World.drewN w10 _ = w10; have n0_ : Aside0 (w10.heap[gb403]? = some (.cells #[.int .i64 0, .int .u32 0, .slice none 0 0] 62 (0, 0))) := ⟨by rw [← hq_]; exact (by (with_reducible repeat (refine blk_drewN ?_ _)); exact BK403.out)⟩; have n1_ : Aside0 (Below w.heap.size w w10) := ⟨by rw [← hq_]; exact (by repeat (with_reducible first | exact HB.out | apply pw_below_drewN))⟩; clear BK403 HB hq_; have BK403 := n0_; have HB := n1_; clear n0_ n1_)); obtain ⟨hcz11_0, hcz11_1, hcz11_2, hfz11_0, hfz11_1, hfz11_2⟩ := cz3 BK403.out))
     refine bodyPost_ret (results_ctt rfl _ _ gb403 62 #[.int .i64 0, .int .u32 0, .slice none 0 0] (0, 0) _ rfl (by refine blk_put (cs := #[.int .i64 0, .int .u32 0, .slice none 0 0]) ?_ 2 _ rfl; refine blk_put (cs := #[.int .i64 0, .int .u32 0, .slice none 0 0]) ?_ 1 _ rfl; refine blk_put (cs := #[.int .i64 0, .int .u32 0, .slice none 0 0]) ?_ 0 _ rfl; exact BK403.out) Try.underlying62 rfl (by kernel_rfl)) rfl ?_
     exact ⟨_, by rfl, by exact Kd.R_nil _ _ _ _ _, by repeat (with_reducible first | exact HB.out | refine below_set ?_ GE403.out)⟩
    rw [if_neg c9] at H
    have c9b0 : decide ((wrap64 ((l0.length : Int) - t411)) < t410) = false := decide_eq_false c9
    clear c9
    obtain ⟨y413, hy413⟩ : ∃ y_ : List Int, y_ = (([] : List Int)) := ⟨_, rfl⟩
    replace H : (if 0 ≤ t411 then (if t411 ≤ (wrap64 (t411 + t410)) then (if (wrap64 (t411 + t410)) ≤ (l0.length : Int) then (if y413.length + ((l0.take ((wrap64 (t411 + t410)) : Int).toNat).drop (t411 : Int).toNat).length < 140737488355328 then (some (t404, (t407) % 4294967296, (y413 ++ ((l0.take ((wrap64 (t411 + t410)) : Int).toNat).drop (t411 : Int).toNat)), wrap64 (t411 + t410), 0)) else (none)) else (none)) else (none)) else (none)) = some (r1, r2, r3, r4, r5) := by (have H2_ := (Option.bind_some _ _).symm.trans H; rw [hy413]; with_reducible exact H2_)
    have Ny413 := Aside0.mk hy413
    clear hy413
    by_cases c12 : 0 ≤ t411
    ·
     rw [if_pos c12] at H
     have c12b0 := eq_true c12
     have c12b1 : decide (0 ≤ t411) = true := decide_eq_true c12
     clear c12
     by_cases c13 : t411 ≤ (wrap64 (t411 + t410))
     ·
      rw [if_pos c13] at H
      have c13b0 := eq_true c13
      have c13b1 : decide (t411 ≤ (wrap64 (t411 + t410))) = true := decide_eq_true c13
      by_cases c14 : (wrap64 (t411 + t410)) ≤ (l0.length : Int)
      ·
       rw [if_pos c14] at H
       have c14b0 := eq_true c14
       have c14b1 : decide ((wrap64 (t411 + t410)) ≤ (l0.length : Int)) = true := decide_eq_true c14
       by_cases c15 : y413.length + ((l0.take ((wrap64 (t411 + t410)) : Int).toNat).drop (t411 : Int).toNat).length < 140737488355328
       ·
        rw [if_pos c15] at H
        have LMc15 := Aside0.mk c15
        clear c15
        obtain ⟨y417, hy417⟩ : ∃ y_ : List Int, y_ = (y413 ++ ((l0.take ((wrap64 (t411 + t410)) : Int).toNat).drop (t411 : Int).toNat)) := ⟨_, rfl⟩
        replace H : (some (t404, (t407) % 4294967296, y417, wrap64 (t411 + t410), 0)) = some (r1, r2, r3, r4, r5) := by (rw [hy417]; with_reducible exact H)
        have Ny417 := Aside0.mk hy417
        clear hy417
        simp only [Option.some.injEq, Prod.mk.injEq] at H
        obtain ⟨rfl, rfl, rfl, rfl, rfl⟩ := H
        go_enter Try.func83, Try.ntmps83
        go_wp2_with (first | ((with_reducible refine gate_dst (N := 4) rfl ?_); refine box_event ?hg (N := 4) ?hd (cs := #[.int .i64 0, .int .u32 0, .slice none 0 0]) (t := 62) ?hr ?_; (case hd => rfl); (case hg => rfl); (case hr => (go_simp; done)); intro gb403 hg w16 hbox hb; have n0_ := Aside0.mk (below_step (by repeat (with_reducible exact HB.out)) hb); have n1_ := Aside0.mk (hbox); have n2_ := Aside0.mk ((by rw [hg]; exact (below_size (by repeat (with_reducible exact HB.out))) : w.heap.size ≤ gb403)); have n3_ := Aside0.mk ((by rw [hg]; exact (below_size (by repeat (with_reducible exact HB.out))) : w.heap.size ≤ gb403)); clear HB; have HB := n0_; have BK403 := n1_; have GW403 := n2_; have GE403 := n3_; clear n0_ n1_ n2_ n3_; clear hb hbox hg) | ((with_reducible refine gate_callee (f := 82) rfl ?_); refine goesL_ (some 19) rfl rfl Try.func82 (by kernel_rfl) rfl #[.slice A0 l0.length c0, .int .i64 a1, .int .u64 1099511627776] rfl (by (try simp only [List.map_toArray, List.map_cons, List.map_nil]); rfl) ?_; (with_reducible refine (grapevineref13_upto.calls k _ _ l0 a1 1099511627776 t404 t405 t406 _ ?side1 ?side2 A3.out).mono ?_); (case side1 => repeat (exact (Kd.C_below HR0.out HB.out))); (case side2 => exact HC0.out); rintro e w' ⟨rfl, ⟨nd, rfl⟩⟩; refine ⟨_, rfl, ?_⟩; (try (rw [drewN_self w16]; generalize hq_ : World.drewN w16 _ = w16; have n0_ : Aside0 (w16.heap[gb403]? = some (.cells #[.int .i64 0, .int .u32 0, .slice none 0 0] 62 (0, 0))) := ⟨by rw [← hq_]; exact (by (with_reducible repeat (refine blk_drewN ?_ _)); exact BK403.out)⟩; have n1_ : Aside0 (Below w.heap.size w w16) := ⟨by rw [← hq_]; exact (by repeat (with_reducible first | exact HB.out | apply pw_below_drewN))⟩; clear BK403 HB hq_; have BK403 := n0_; have HB := n1_; clear n0_ n1_))) | ((with_reducible refine gate_callee (f := 82) rfl ?_); refine goesL_ (some 30) rfl rfl Try.func82 (by kernel_rfl) rfl #[.slice A0 l0.length c0, .int .i64 t405, .int .u64 4294967295] rfl (by (try simp only [List.map_toArray, List.map_cons, List.map_nil]); rfl) ?_; (with_reducible refine (grapevineref13_upto.calls k _ _ l0 t405 4294967295 t407 t408 t409 _ ?side1 ?side2 A5.out).mono ?_); (case side1 => repeat (exact (Kd.C_below HR0.out HB.out))); (case side2 => exact HC0.out); rintro e w' ⟨rfl, ⟨nd, rfl⟩⟩; refine ⟨_, rfl, ?_⟩; (try (rw [drewN_self w16]; generalize hq_ : World.drewN w16 _ = w16; have n0_ : Aside0 (w16.heap[gb403]? = some (.cells #[.int .i64 0, .int .u32 0, .slice none 0 0] 62 (0, 0))) := ⟨by rw [← hq_]; exact (by (with_reducible repeat (refine blk_drewN ?_ _)); exact BK403.out)⟩; have n1_ : Aside0 (Below w.heap.size w w16) := ⟨by rw [← hq_]; exact (by repeat (with_reducible first | exact HB.out | apply pw_below_drewN))⟩; clear BK403 HB hq_; have BK403 := n0_; have HB := n1_; clear n0_ n1_))) | ((with_reducible refine gate_callee (f := 82) rfl ?_); refine goesL_ (some 41) rfl rfl Try.func82 (by kernel_rfl) rfl #[.slice A0 l0.length c0, .int .i64 t408, .int .u64 400] rfl (by (try simp only [List.map_toArray, List.map_cons, List.map_nil]); rfl) ?_; (with_reducible refine (grapevineref13_upto.calls k _ _ l0 t408 400 t410 t411 t412 _ ?side1 ?side2 A7.out).mono ?_); (case side1 => repeat (exact (Kd.C_below HR0.out HB.out))); (case side2 => exact HC0.out); rintro e w' ⟨rfl, ⟨nd, rfl⟩⟩; refine ⟨_, rfl, ?_⟩; (try (rw [drewN_self w16]; generalize hq_ : World.drewN w16 _ = w16; have n0_ : Aside0 (w16.heap[gb403]? = some (.cells #[.int .i64 0, .int .u32 0, .slice none 0 0] 62 (0, 0))) := ⟨by rw [← hq_]; exact (by (with_reducible repeat (refine blk_drewN ?_ _)); exact BK403.out)⟩; have n1_ : Aside0 (Below w.heap.size w w16) := ⟨by rw [← hq_]; exact (by repeat (with_reducible first | exact HB.out | apply pw_below_drewN))⟩; clear BK403 HB hq_; have BK403 := n0_; have HB := n1_; clear n0_ n1_))) | ((with_reducible refine gate_dst (N := 59) rfl ?_); refine Kd.R_lit (Kd.int .u8) _ 5 ?hg (N := 59) ?hd (xs := ([] : List Int)) (inner := []) (ok := fun _ => True) (okp := fun _ => True) ?hr ?hp (fun _ hk => hk) trivial (Below.refl _ _) (Nat.le_refl _) (by simp) ?_; (case hd => rfl); (case hg => rfl); (case hr => (go_simp; done)); (case hp => exact (Reps.none _ _)); intro v414 w17 ho18 hb hg_ hnew_; clear hg_ hnew_; (rw [← Ny413.out] at ho18); have n0_ := Aside0.mk (Kd.R_lower ho18 (below_size (by repeat (with_reducible exact HB.out)))); have n1_ := Aside0.mk (blk_below (g := gb403) (o := .cells #[.int .i64 0, .int .u32 0, .slice none 0 0] 62 (0, 0)) (by exact BK403.out) hb); have n2_ := Aside0.mk (below_step (by repeat (with_reducible exact HB.out)) hb); clear BK403; clear HB; have HO415 := n0_; have BK403 := n1_; have HB := n2_; clear n0_ n1_ n2_; clear hb ho18; obtain ⟨i019, hi019, _, hsz19, _⟩ := info_parts info5; obtain ⟨A19, hcut19, hA19, hC19⟩ := print_mid_of (P := Try.prog) (Value.int .u8) 0 44 5 .i64 .i64 Try.underlying44 hi019 hsz19 A0 c0 l0 t411 (wrap64 (t411 + t410)) (of_decide_eq_true (by (with_reducible assumption))) (by omega) (of_decide_eq_true (by (with_reducible assumption))) HC0.out; have HR416 := Aside0.mk (Kd.C_of_reads (h1 := fun _ => rfl) (hA19 _ (Kd.reads_of_C HR0.out))); have HC416 := Aside0.mk hC19; clear hA19 hC19 hi019 hsz19) | ((with_reducible refine gate_builtin (b := .append) (xs := #[.tmp 59, .tmp 65]) rfl ?_); at_builtin; refine Kd.R_append_rows (Kd.int .u8) (w0 := w) w.heap.size rfl (.tmp 59) (.tmp 65) 44 5 (.int .u8 0) 1 rfl Try.underlying44 info5 rfl (by decide) (by omega) v414 y413 ((l0.take ((wrap64 (t411 + t410)) : Int).toNat).drop (t411 : Int).toNat) _ _ _ (fun _ => True) (fun _ => False) rfl rfl ?aO ?aR (fun _ _ h => h) (fun _ h => h.elim) ?aF ?aB ?aS ?aL ?_; (case aR => (rw [← show ((l0.take ((wrap64 (t411 + t410)) : Int).toNat).drop (t411 : Int).toNat).length = ((wrap64 (t411 + t410)).toNat - t411.toNat) from (by rw [List.length_drop, List.length_take]; have h_ : ((wrap64 (t411 + t410)) : Int) ≤ (l0.length : Int) := of_decide_eq_true (by (with_reducible assumption)); omega)]; repeat (exact (Kd.C_below HR416.out HB.out)))); (case aB => exact (by repeat (with_reducible exact HB.out))); (case aF => exact (fun _ _ => trivial)); (case aO => exact (by exact HO415.out)); (case aS => exact (below_size (by repeat (with_reducible exact HB.out)))); (case aL => have := LMc15.out; have hlx_ := (show ((l0.take ((wrap64 (t411 + t410)) : Int).toNat).drop (t411 : Int).toNat).length = ((wrap64 (t411 + t410)).toNat - t411.toNat) from (by rw [List.length_drop, List.length_take]; have h_ : ((wrap64 (t411 + t410)) : Int) ≤ (l0.length : Int) := of_decide_eq_true (by (with_reducible assumption)); omega)); omega); intro v418 w20 ho hb hg hat; rw [← Ny417.out] at ho; have n0_ := Aside0.mk (blk_grown (g := gb403) (o := .cells #[.int .i64 0, .int .u32 0, .slice none 0 0] 62 (0, 0)) (by exact BK403.out) hg (Kd.R_ne HO415.out BK403.out (by decide))); have n1_ := Aside0.mk (hb); have n2_ := Aside0.mk (ho); clear BK403; clear HB; clear HO415; have BK403 := n0_; have HB := n1_; have HO419 := n2_; clear n0_ n1_ n2_; clear ho hb hg hat; obtain ⟨Ao21, co21, eo21⟩ := Kd.R_slice HO419.out; subst eo21; obtain ⟨hcz22_0, hcz22_1, hcz22_2, hfz22_0, hfz22_1, hfz22_2⟩ := cz3 BK403.out))
        refine bodyPost_ret (results_ctt rfl _ _ gb403 62 #[.int .i64 t404, .int .u32 ((t407) % 4294967296), .slice Ao21 y417.length co21] (0, 0) _ rfl (by refine blk_put (cs := #[.int .i64 t404, .int .u32 ((t407) % 4294967296), .slice none 0 0]) ?_ 2 _ rfl; refine blk_put (cs := #[.int .i64 t404, .int .u32 0, .slice none 0 0]) ?_ 1 _ rfl; refine blk_put (cs := #[.int .i64 0, .int .u32 0, .slice none 0 0]) ?_ 0 _ rfl; exact BK403.out) Try.underlying62 rfl (by kernel_rfl)) rfl ?_
        exact ⟨_, by rfl, by exact Kd.R_mono (Kd.R_far (p := ⟨gb403, 2, none⟩) (Kd.R_far (p := ⟨gb403, 1, none⟩) (Kd.R_far (p := ⟨gb403, 0, none⟩) (Kd.R_types HO419.out BK403.out (by decide)) (fun _ hk => hk.2) (.int .i64 t404)) (fun _ hk => hk.2) (.int .u32 ((t407) % 4294967296))) (fun _ hk => hk.2) (.slice Ao21 y417.length co21)) (fun _ hk => trivial), by repeat (with_reducible first | exact HB.out | refine below_set ?_ GE403.out)⟩
       rw [if_neg c15] at H
       exact absurd H (by simp)
      rw [if_neg c14] at H
      exact absurd H (by simp)
     rw [if_neg c13] at H
     exact absurd H (by simp)
    rw [if_neg c12] at H
    exact absurd H (by simp)
   rw [if_neg c8] at H
   have c8b0 : (t412 == 0) = false := beq_eq_false_iff_ne.mpr c8
   have c8b1 : (t412 != 0) = true := bne_iff_ne.mpr c8
   simp only [Option.some.injEq, Prod.mk.injEq] at H
   obtain ⟨rfl, rfl, rfl, rfl, rfl⟩ := H
   go_enter Try.func83, Try.ntmps83
   go_wp2_with (first | ((with_reducible refine gate_dst (N := 4) rfl ?_); refine box_event ?hg (N := 4) ?hd (cs := #[.int .i64 0, .int .u32 0, .slice none 0 0]) (t := 62) ?hr ?_; (case hd => rfl); (case hg => rfl); (case hr => (go_simp; done)); intro gb403 hg w23 hbox hb; have n0_ := Aside0.mk (below_step (by repeat (with_reducible exact HB.out)) hb); have n1_ := Aside0.mk (hbox); have n2_ := Aside0.mk ((by rw [hg]; exact (below_size (by repeat (with_reducible exact HB.out))) : w.heap.size ≤ gb403)); have n3_ := Aside0.mk ((by rw [hg]; exact (below_size (by repeat (with_reducible exact HB.out))) : w.heap.size ≤ gb403)); clear HB; have HB := n0_; have BK403 := n1_; have GW403 := n2_; have GE403 := n3_; clear n0_ n1_ n2_ n3_; clear hb hbox hg) | ((with_reducible refine gate_callee (f := 82) rfl ?_); refine goesL_ (some 19) rfl rfl Try.func82 (by kernel_rfl) rfl #[.slice A0 l0.length c0, .int .i64 a1, .int .u64 1099511627776] rfl (by (try simp only [List.map_toArray, List.map_cons, List.map_nil]); rfl) ?_; (with_reducible refine (grapevineref13_upto.calls k _ _ l0 a1 1099511627776 t404 t405 t406 _ ?side1 ?side2 A3.out).mono ?_); (case side1 => repeat (exact (Kd.C_below HR0.out HB.out))); (case side2 => exact HC0.out); rintro e w' ⟨rfl, ⟨nd, rfl⟩⟩; refine ⟨_, rfl, ?_⟩; (try (rw [drewN_self w23]; generalize hq_ : World.drewN w23 _ = w23; have n0_ : Aside0 (w23.heap[gb403]? = some (.cells #[.int .i64 0, .int .u32 0, .slice none 0 0] 62 (0, 0))) := ⟨by rw [← hq_]; exact (by (with_reducible repeat (refine blk_drewN ?_ _)); exact BK403.out)⟩; have n1_ : Aside0 (Below w.heap.size w w23) := ⟨by rw [← hq_]; exact (by repeat (with_reducible first | exact HB.out | apply pw_below_drewN))⟩; clear BK403 HB hq_; have BK403 := n0_; have HB := n1_; clear n0_ n1_))) | ((with_reducible refine gate_callee (f := 82) rfl ?_); refine goesL_ (some 30) rfl rfl Try.func82 (by kernel_rfl) rfl #[.slice A0 l0.length c0, .int .i64 t405, .int .u64 4294967295] rfl (by (try simp only [List.map_toArray, List.map_cons, List.map_nil]); rfl) ?_; (with_reducible refine (grapevineref13_upto.calls k _ _ l0 t405 4294967295 t407 t408 t409 _ ?side1 ?side2 A5.out).mono ?_); (case side1 => repeat (exact (Kd.C_below HR0.out HB.out))); (case side2 => exact HC0.out); rintro e w' ⟨rfl, ⟨nd, rfl⟩⟩; refine ⟨_, rfl, ?_⟩; (try (rw [drewN_self w23]; generalize hq_ : World.drewN w23 _ = w23; have n0_ : Aside0 (w23.heap[gb403]? = some (.cells #[.int .i64 0, .int .u32 0, .slice none 0 0] 62 (0, 0))) := ⟨by rw [← hq_]; exact (by (with_reducible repeat (refine blk_drewN ?_ _)); exact BK403.out)⟩; have n1_ : Aside0 (Below w.heap.size w w23) := ⟨by rw [← hq_]; exact (by repeat (with_reducible first | exact HB.out | apply pw_below_drewN))⟩; clear BK403 HB hq_; have BK403 := n0_; have HB := n1_; clear n0_ n1_))) | ((with_reducible refine gate_callee (f := 82) rfl ?_); refine goesL_ (some 41) rfl rfl Try.func82 (by kernel_rfl) rfl #[.slice A0 l0.length c0, .int .i64 t408, .int .u64 400] rfl (by (try simp only [List.map_toArray, List.map_cons, List.map_nil]); rfl) ?_; (with_reducible refine (grapevineref13_upto.calls k _ _ l0 t408 400 t410 t411 t412 _ ?side1 ?side2 A7.out).mono ?_); (case side1 => repeat (exact (Kd.C_below HR0.out HB.out))); (case side2 => exact HC0.out); rintro e w' ⟨rfl, ⟨nd, rfl⟩⟩; refine ⟨_, rfl, ?_⟩; (try (rw [drewN_self w23]; generalize hq_ : World.drewN w23 _ = w23; have n0_ : Aside0 (w23.heap[gb403]? = some (.cells #[.int .i64 0, .int .u32 0, .slice none 0 0] 62 (0, 0))) := ⟨by rw [← hq_]; exact (by (with_reducible repeat (refine blk_drewN ?_ _)); exact BK403.out)⟩; have n1_ : Aside0 (Below w.heap.size w w23) := ⟨by rw [← hq_]; exact (by repeat (with_reducible first | exact HB.out | apply pw_below_drewN))⟩; clear BK403 HB hq_; have BK403 := n0_; have HB := n1_; clear n0_ n1_)); obtain ⟨hcz24_0, hcz24_1, hcz24_2, hfz24_0, hfz24_1, hfz24_2⟩ := cz3 BK403.out))
   refine bodyPost_ret (results_ctt rfl _ _ gb403 62 #[.int .i64 0, .int .u32 0, .slice none 0 0] (0, 0) _ rfl (by refine blk_put (cs := #[.int .i64 0, .int .u32 0, .slice none 0 0]) ?_ 2 _ rfl; refine blk_put (cs := #[.int .i64 0, .int .u32 0, .slice none 0 0]) ?_ 1 _ rfl; refine blk_put (cs := #[.int .i64 0, .int .u32 0, .slice none 0 0]) ?_ 0 _ rfl; exact BK403.out) Try.underlying62 rfl (by kernel_rfl)) rfl ?_
   exact ⟨_, by rfl, by exact Kd.R_nil _ _ _ _ _, by repeat (with_reducible first | exact HB.out | refine below_set ?_ GE403.out)⟩
  rw [if_neg c6] at H
  have c6b0 : (t409 == 0) = false := beq_eq_false_iff_ne.mpr c6
  have c6b1 : (t409 != 0) = true := bne_iff_ne.mpr c6
  simp only [Option.some.injEq, Prod.mk.injEq] at H
  obtain ⟨rfl, rfl, rfl, rfl, rfl⟩ := H
  go_enter Try.func83, Try.ntmps83
  go_wp2_with (first | ((with_reducible refine gate_dst (N := 4) rfl ?_); refine box_event ?hg (N := 4) ?hd (cs := #[.int .i64 0, .int .u32 0, .slice none 0 0]) (t := 62) ?hr ?_; (case hd => rfl); (case hg => rfl); (case hr => (go_simp; done)); intro gb403 hg w25 hbox hb; have n0_ := Aside0.mk (below_step (by repeat (with_reducible exact HB.out)) hb); have n1_ := Aside0.mk (hbox); have n2_ := Aside0.mk ((by rw [hg]; exact (below_size (by repeat (with_reducible exact HB.out))) : w.heap.size ≤ gb403)); have n3_ := Aside0.mk ((by rw [hg]; exact (below_size (by repeat (with_reducible exact HB.out))) : w.heap.size ≤ gb403)); clear HB; have HB := n0_; have BK403 := n1_; have GW403 := n2_; have GE403 := n3_; clear n0_ n1_ n2_ n3_; clear hb hbox hg) | ((with_reducible refine gate_callee (f := 82) rfl ?_); refine goesL_ (some 19) rfl rfl Try.func82 (by kernel_rfl) rfl #[.slice A0 l0.length c0, .int .i64 a1, .int .u64 1099511627776] rfl (by (try simp only [List.map_toArray, List.map_cons, List.map_nil]); rfl) ?_; (with_reducible refine (grapevineref13_upto.calls k _ _ l0 a1 1099511627776 t404 t405 t406 _ ?side1 ?side2 A3.out).mono ?_); (case side1 => repeat (exact (Kd.C_below HR0.out HB.out))); (case side2 => exact HC0.out); rintro e w' ⟨rfl, ⟨nd, rfl⟩⟩; refine ⟨_, rfl, ?_⟩; (try (rw [drewN_self w25]; generalize hq_ : World.drewN w25 _ = w25; have n0_ : Aside0 (w25.heap[gb403]? = some (.cells #[.int .i64 0, .int .u32 0, .slice none 0 0] 62 (0, 0))) := ⟨by rw [← hq_]; exact (by (with_reducible repeat (refine blk_drewN ?_ _)); exact BK403.out)⟩; have n1_ : Aside0 (Below w.heap.size w w25) := ⟨by rw [← hq_]; exact (by repeat (with_reducible first | exact HB.out | apply pw_below_drewN))⟩; clear BK403 HB hq_; have BK403 := n0_; have HB := n1_; clear n0_ n1_))) | ((with_reducible refine gate_callee (f := 82) rfl ?_); refine goesL_ (some 30) rfl rfl Try.func82 (by kernel_rfl) rfl #[.slice A0 l0.length c0, .int .i64 t405, .int .u64 4294967295] rfl (by (try simp only [List.map_toArray, List.map_cons, List.map_nil]); rfl) ?_; (with_reducible refine (grapevineref13_upto.calls k _ _ l0 t405 4294967295 t407 t408 t409 _ ?side1 ?side2 A5.out).mono ?_); (case side1 => repeat (exact (Kd.C_below HR0.out HB.out))); (case side2 => exact HC0.out); rintro e w' ⟨rfl, ⟨nd, rfl⟩⟩; refine ⟨_, rfl, ?_⟩; (try (rw [drewN_self w25]; generalize hq_ : World.drewN w25 _ = w25; have n0_ : Aside0 (w25.heap[gb403]? = some (.cells #[.int .i64 0, .int .u32 0, .slice none 0 0] 62 (0, 0))) := ⟨by rw [← hq_]; exact (by (with_reducible repeat (refine blk_drewN ?_ _)); exact BK403.out)⟩; have n1_ : Aside0 (Below w.heap.size w w25) := ⟨by rw [← hq_]; exact (by repeat (with_reducible first | exact HB.out | apply pw_below_drewN))⟩; clear BK403 HB hq_; have BK403 := n0_; have HB := n1_; clear n0_ n1_)); obtain ⟨hcz26_0, hcz26_1, hcz26_2, hfz26_0, hfz26_1, hfz26_2⟩ := cz3 BK403.out))
  refine bodyPost_ret (results_ctt rfl _ _ gb403 62 #[.int .i64 0, .int .u32 0, .slice none 0 0] (0, 0) _ rfl (by refine blk_put (cs := #[.int .i64 0, .int .u32 0, .slice none 0 0]) ?_ 2 _ rfl; refine blk_put (cs := #[.int .i64 0, .int .u32 0, .slice none 0 0]) ?_ 1 _ rfl; refine blk_put (cs := #[.int .i64 0, .int .u32 0, .slice none 0 0]) ?_ 0 _ rfl; exact BK403.out) Try.underlying62 rfl (by kernel_rfl)) rfl ?_
  exact ⟨_, by rfl, by exact Kd.R_nil _ _ _ _ _, by repeat (with_reducible first | exact HB.out | refine below_set ?_ GE403.out)⟩
 rw [if_neg c4] at H
 have c4b0 : (t406 == 0) = false := beq_eq_false_iff_ne.mpr c4
 have c4b1 : (t406 != 0) = true := bne_iff_ne.mpr c4
 simp only [Option.some.injEq, Prod.mk.injEq] at H
 obtain ⟨rfl, rfl, rfl, rfl, rfl⟩ := H
 go_enter Try.func83, Try.ntmps83
 go_wp2_with (first | ((with_reducible refine gate_dst (N := 4) rfl ?_); refine box_event ?hg (N := 4) ?hd (cs := #[.int .i64 0, .int .u32 0, .slice none 0 0]) (t := 62) ?hr ?_; (case hd => rfl); (case hg => rfl); (case hr => (go_simp; done)); intro gb403 hg w27 hbox hb; have n0_ := Aside0.mk (below_step (by repeat (with_reducible exact HB.out)) hb); have n1_ := Aside0.mk (hbox); have n2_ := Aside0.mk ((by rw [hg]; exact (below_size (by repeat (with_reducible exact HB.out))) : w.heap.size ≤ gb403)); have n3_ := Aside0.mk ((by rw [hg]; exact (below_size (by repeat (with_reducible exact HB.out))) : w.heap.size ≤ gb403)); clear HB; have HB := n0_; have BK403 := n1_; have GW403 := n2_; have GE403 := n3_; clear n0_ n1_ n2_ n3_; clear hb hbox hg) | ((with_reducible refine gate_callee (f := 82) rfl ?_); refine goesL_ (some 19) rfl rfl Try.func82 (by kernel_rfl) rfl #[.slice A0 l0.length c0, .int .i64 a1, .int .u64 1099511627776] rfl (by (try simp only [List.map_toArray, List.map_cons, List.map_nil]); rfl) ?_; (with_reducible refine (grapevineref13_upto.calls k _ _ l0 a1 1099511627776 t404 t405 t406 _ ?side1 ?side2 A3.out).mono ?_); (case side1 => repeat (exact (Kd.C_below HR0.out HB.out))); (case side2 => exact HC0.out); rintro e w' ⟨rfl, ⟨nd, rfl⟩⟩; refine ⟨_, rfl, ?_⟩; (try (rw [drewN_self w27]; generalize hq_ : World.drewN w27 _ = w27; have n0_ : Aside0 (w27.heap[gb403]? = some (.cells #[.int .i64 0, .int .u32 0, .slice none 0 0] 62 (0, 0))) := ⟨by rw [← hq_]; exact (by (with_reducible repeat (refine blk_drewN ?_ _)); exact BK403.out)⟩; have n1_ : Aside0 (Below w.heap.size w w27) := ⟨by rw [← hq_]; exact (by repeat (with_reducible first | exact HB.out | apply pw_below_drewN))⟩; clear BK403 HB hq_; have BK403 := n0_; have HB := n1_; clear n0_ n1_)); obtain ⟨hcz28_0, hcz28_1, hcz28_2, hfz28_0, hfz28_1, hfz28_2⟩ := cz3 BK403.out))
 refine bodyPost_ret (results_ctt rfl _ _ gb403 62 #[.int .i64 0, .int .u32 0, .slice none 0 0] (0, 0) _ rfl (by refine blk_put (cs := #[.int .i64 0, .int .u32 0, .slice none 0 0]) ?_ 2 _ rfl; refine blk_put (cs := #[.int .i64 0, .int .u32 0, .slice none 0 0]) ?_ 1 _ rfl; refine blk_put (cs := #[.int .i64 0, .int .u32 0, .slice none 0 0]) ?_ 0 _ rfl; exact BK403.out) Try.underlying62 rfl (by kernel_rfl)) rfl ?_
 exact ⟨_, by rfl, by exact Kd.R_nil _ _ _ _ _, by repeat (with_reducible first | exact HB.out | refine below_set ?_ GE403.out)⟩
end Go.Proofs.Ytpeacoppclmmlaa.PP
