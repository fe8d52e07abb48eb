import Derived.Test.YtoandmnefgimoaaDoorLBPLx0
import Derived.Test.YtoandmnefgimoaaDoorLBPLx14
namespace Go.Proofs.YtoandmnefgimoaaDoor.PL
open Go.RowKit Go.Proofs.YtoandmnefgimoaaDoorW.PrintWords Go.Proofs.YtoandmnefgimoaaDoorW.PrintLast Go.Proofs.YtoandmnefgimoaaDoorW.PrintMore
attribute [local go_sem] max2_int min2_int max_two min_two max_three min_three max_four min_four
set_option linter.unusedVariables false
set_option linter.unusedSimpArgs false
def api_Span.f (l0 : List S110) : Option (List S110) := some l0
set_option maxHeartbeats 1000000 in
set_option maxRecDepth 100000 in
theorem api_Span.calls (P0_ : Nat → Prop) (A0 : Option Addr) (c0 : Nat) (l0 : List S110) (r : List S110) (w : World) (hs0 : Kd.V k110 110 w w.heap.size (fun k_ => P0_ k_) (.slice A0 l0.length c0) l0) (h : api_Span.f l0 = some r) :
 Calls Tryd.prog 59 #[.slice A0 l0.length c0] w fun e w' => ∃ v0_ : Value, e = .returned (v0_) ∧ Kd.V k110 110 w' w.heap.size (fun k_ => (P0_ k_ ∨ w.heap.size ≤ k_)) v0_ r ∧ Below w.heap.size w w' := by
 obtain rfl := Option.some.inj h
 have HS := am_ hs0
 have hc := (Kd.V_at HS.out).2.1
 clear h hs0
 go_enter Tryd.func59, Tryd.ntmps59
 go_wp2
 go_ret
 exact ⟨_, rfl, Kd.V_mono (Kd.V_mk (Nat.le_refl _) (Kd.V_at HS.out).2.2) (fun _ hk => .inl hk), Below.refl _ _⟩
mutual
def span_Take.l0 : Nat → List Int → Int → List (S110) → Int → Int → Int → Int → Int → Option ((List (S110)) × Int × Int)
 | 0, _, _, _, _, _, _, _, _ => none
 | k + 1, x0, x8, x10, x31, x32, x165000, x165001, x165002 => if x32 < x31 then ((octet_TakeUint.f k x0 x8).bind fun bt168 => (if bt168.2.2 = 0 then ((octet_TakeUint.f k x0 bt168.2.1).bind fun bt171 => (span_Take.j1 k x0 bt171.2.1 bt171.2.2 x10 bt168.1 bt171.1 x31 x32 x165000 x165001 x165002)) else (span_Take.j1 k x0 bt168.2.1 bt168.2.2 x10 bt168.1 0 x31 x32 x165000 x165001 x165002))) else ((api_Span.f x10).bind fun t165 => (some (t165, x8, 0)))
def span_Take.j1 : Nat → List Int → Int → Int → List (S110) → Int → Int → Int → Int → Int → Int → Int → Option ((List (S110)) × Int × Int)
 | 0, _, _, _, _, _, _, _, _, _, _, _ => none
 | k + 1, x0, x8, x9, x10, x12, x13, x31, x32, x165000, x165001, x165002 => if x9 = 0 then (if x8 ≥ (x0.length : Int) then (some (([] : List (S110)), 0, 3)) else (if 0 ≤ x8 then (if x8 < (x0.length : Int) then (if x12 ≥ (IntKind.u64.wrap (wrap64 (1099511627776 - x165001))) then (some (([] : List (S110)), 0, 4)) else (if x13 ≥ (IntKind.u64.wrap ((IntKind.u64.wrap (wrap64 (1099511627776 - x165001))) - x12)) then (some (([] : List (S110)), 0, 4)) else (if (wrap64 (rd x0 x8)) < 1 then (some (([] : List (S110)), 0, 4)) else (if (wrap64 (rd x0 x8)) > 3 then (some (([] : List (S110)), 0, 4)) else (if x12 = 0 then (if (wrap64 (rd x0 x8)) = x165002 then (some (([] : List (S110)), 0, 4)) else (if x10.length < 5864062014805 then (span_Take.l0 k x0 (wrap64 (x8 + 1)) (x10 ++ [(⟨wrap64 ((wrap64 (x165001 + 1)) + (wrap64 (x12))), wrap64 ((wrap64 ((wrap64 (x165001 + 1)) + (wrap64 (x12)))) + (wrap64 (x13))), wrap64 (rd x0 x8)⟩ : S110)]) x31 (wrap64 (x32 + 1)) (wrap64 ((wrap64 (x165001 + 1)) + (wrap64 (x12)))) (wrap64 ((wrap64 ((wrap64 (x165001 + 1)) + (wrap64 (x12)))) + (wrap64 (x13)))) (wrap64 (rd x0 x8))) else (none))) else (if x10.length < 5864062014805 then (span_Take.l0 k x0 (wrap64 (x8 + 1)) (x10 ++ [(⟨wrap64 ((wrap64 (x165001 + 1)) + (wrap64 (x12))), wrap64 ((wrap64 ((wrap64 (x165001 + 1)) + (wrap64 (x12)))) + (wrap64 (x13))), wrap64 (rd x0 x8)⟩ : S110)]) x31 (wrap64 (x32 + 1)) (wrap64 ((wrap64 (x165001 + 1)) + (wrap64 (x12)))) (wrap64 ((wrap64 ((wrap64 (x165001 + 1)) + (wrap64 (x12)))) + (wrap64 (x13)))) (wrap64 (rd x0 x8))) else (none))))))) else (none)) else (none))) else (some (([] : List (S110)), 0, x9))
end
def span_Take.f (k : Nat) (l0 : List Int) (a1 : Int) : Option ((List (S110)) × Int × Int) := (octet_TakeUint.f k l0 a1).bind fun bt161 => (if bt161.2.2 = 0 then (if bt161.1 > 256 then (some (([] : List (S110)), 0, 6)) else (span_Take.l0 k l0 bt161.2.1 ([] : List (S110)) (wrap64 (bt161.1)) 0 0 0 0)) else (some (([] : List (S110)), 0, bt161.2.2)))
set_option maxHeartbeats 8000000 in
set_option maxRecDepth 100000 in
theorem span_Take.calls (k : Nat) (A0 : Option Addr) (c0 : Nat) (l0 : List Int) (a1 : Int) (r1 : List (S110)) (r2 : Int) (r3 : Int) (w : World) (hr0 : Kd.C (Kd.int .u8) w A0 l0.length l0) (hc0 : l0.length ≤ c0) (h : span_Take.f k l0 a1 = some (r1, r2, r3)) :
 Calls Tryd.prog 53 #[.slice A0 l0.length c0, .int .i64 a1] w fun e w' => ∃ v0_ : Value, e = .returned (.tuple #[v0_, .int .i64 r2, .int .i64 r3]) ∧ Kd.V k110 110 w' w.heap.size (fun k_ => (w.heap.size ≤ k_)) v0_ r1 ∧ Below w.heap.size w w' := by
 have hu110 := Tryd.underlying110
 have HR0 := am_ hr0
 have HC0 := am_ hc0
 clear hr0 hc0
 have HB := am_ (Below.refl w.heap.size w)
 have H : ((octet_TakeUint.f k l0 a1).bind fun bt161 => (if bt161.2.2 = 0 then (if bt161.1 > 256 then (some (([] : List (S110)), 0, 6)) else (span_Take.l0 k l0 bt161.2.1 ([] : List (S110)) (wrap64 (bt161.1)) 0 0 0 0)) else (some (([] : List (S110)), 0, bt161.2.2)))) = some (r1, r2, r3) := h
 clear h
 replace H := Option.bind_eq_some_iff.mp H
 obtain ⟨⟨t161, t162, t163⟩, A30, H⟩ := H
 try dsimp only at H
 have A3 := am_ A30
 clear A30
 by_cases c4 : t163 = 0
 ·
  rw [if_pos c4] at H
  have c4b0 : (t163 == 0) = true := beq_iff_eq.mpr c4
  have c4b1 : (t163 != 0) = false := bne_eq_false_iff_eq.mpr c4
  clear c4
  by_cases c5 : t161 > 256
  ·
   rw [if_pos c5] at H
   have c5b0 : decide (256 < t161) = true := decide_eq_true c5
   clear c5
   simp only [Option.some.injEq, Prod.mk.injEq] at H
   obtain ⟨rfl, rfl, rfl⟩ := H
   go_enter Tryd.func53, Tryd.ntmps53
   go_wp2_with (((with_reducible refine gate_callee (f := 41) rfl ?_); refine gL (some 20) Tryd.func41 #[.slice A0 l0.length c0, .int .i64 a1] ?_; (with_reducible refine (octet_TakeUint.calls k _ _ l0 a1 t161 t162 t163 _ ?side1 ?side2 A3.out).mono ?_); (case side1 => repeat (exact HR0.out)); (case side2 => exact HC0.out); rintro e w' ⟨rfl, ⟨nd, rfl⟩⟩; refine ⟨_, rfl, ?_⟩))
   go_ret3
   exact ⟨_, by rfl, Kd.R_V (by exact Kd.R_nil _ _ _ 0 _), by repeat (with_reducible first | exact HB.out | apply bn_)⟩
  rw [if_neg c5] at H
  have c5b0 : decide (256 < t161) = false := decide_eq_false c5
  clear c5
  have H' := am_ H
  clear H
  go_enter Tryd.func53, Tryd.ntmps53
  go_wp2_with (first | ((with_reducible refine gate_callee (f := 41) rfl ?_); refine gL (some 20) Tryd.func41 #[.slice A0 l0.length c0, .int .i64 a1] ?_; (with_reducible refine (octet_TakeUint.calls k _ _ l0 a1 t161 t162 t163 _ ?side1 ?side2 A3.out).mono ?_); (case side1 => repeat (exact HR0.out)); (case side2 => exact HC0.out); rintro e w' ⟨rfl, ⟨nd, rfl⟩⟩; refine ⟨_, rfl, ?_⟩) | ((with_reducible refine gd_ (N := 11) rfl ?_); refine bE 11 #[.int .i64 0, .int .i64 0, .int .i64 0] 110 ?_; intro gb164 hg w6 hbox hb; have n0_ := am_ (below_step (by repeat (with_reducible first | exact HB.out | apply bn_)) hb); have n1_ := am_ (hbox); have n2_ := am_ ((by rw [hg]; exact (bz_ (by repeat (with_reducible first | exact HB.out | apply bn_))) : w.heap.size ≤ gb164)); have n3_ := am_ ((by rw [hg]; exact (bz_ (by repeat (with_reducible first | exact HB.out | apply bn_))) : w.heap.size ≤ gb164)); clear HB; have HB := n0_; have BK164 := n1_; have GW164 := n2_; have GE164 := n3_; clear n0_ n1_ n2_ n3_; clear hb hbox hg; obtain ⟨hcz7_0, hcz7_1, hcz7_2, hfz7_0, hfz7_1, hfz7_2⟩ := cz3 BK164.out))
  go_loopg [8, 10, 32] k (fun kq v8 v10 v32 w' => ∃ (x8_1 : Int) (x10_1 : List (S110)) (x32_1 : Int) (x165000_1 : Int) (x165001_1 : Int) (x165002_1 : Int), v8 = .int .i64 x8_1 ∧ v32 = .int .i64 x32_1 ∧ Aside0 (span_Take.l0 kq l0 x8_1 x10_1 (wrap64 (t161)) x32_1 x165000_1 x165001_1 x165002_1 = some (r1, r2, r3)) ∧ Aside0 (kq ≤ k) ∧ Aside0 (Kd.R k110 110 w' w.heap.size (fun k_ => (w.heap.size ≤ k_) ∧ k_ ≠ gb164) v10 x10_1) ∧ Aside0 (w'.heap[gb164]? = some (.cells #[.int .i64 x165000_1, .int .i64 x165001_1, .int .i64 x165002_1] 110 (0, 0))) ∧ Aside0 (Below w.heap.size w w'))
  case atStart => exact ⟨(t162), (([] : List (S110))), (0), (0), (0), (0), (by rfl), (by rfl), H', ⟨Nat.le_refl _⟩, ⟨by exact Kd.R_nil _ _ _ _ _⟩, ⟨by refine blk_put (cs := #[.int .i64 0, .int .i64 0, .int .i64 0]) ?_ 2 _ rfl; refine blk_put (cs := #[.int .i64 0, .int .i64 0, .int .i64 0]) ?_ 1 _ rfl; refine blk_put (cs := #[.int .i64 0, .int .i64 0, .int .i64 0]) ?_ 0 _ rfl; exact BK164.out⟩, ⟨by repeat (with_reducible first | exact HB.out | refine bs_ ?_ GE164.out)⟩⟩
  case round =>
  clear H'
  try clear c4b0
  try clear c4b1
  try clear c5b0
  try clear hcz7_0
  try clear hcz7_1
  try clear hcz7_2
  try clear hfz7_0
  try clear hfz7_1
  try clear hfz7_2
  obtain ⟨x8_1, x10_1, x32_1, x165000_1, x165001_1, x165002_1, rfl, rfl, HA, HK1, HO_10, BK164, HB⟩ := hrel
  cases gk with
  | zero => exact absurd HA.out (by simp [span_Take.l0])
  | succ k1 =>
  have H := HA.out
  clear HA
  simp only [span_Take.l0] at H
  by_cases c8 : x32_1 < (wrap64 (t161))
  ·
   rw [if_pos c8] at H
   have c8b0 : decide (x32_1 < (wrap64 (t161))) = true := decide_eq_true c8
   clear c8
   replace H := Option.bind_eq_some_iff.mp H
   obtain ⟨⟨t168, t169, t170⟩, A90, H⟩ := H
   try dsimp only at H
   have A9 := am_ A90
   clear A90
   have HC10 := am_ H
   clear H
   go_upto_if 42 with (((with_reducible refine gate_callee (f := 41) rfl ?_); refine gL (some 37) Tryd.func41 #[.slice A0 l0.length c0, .int .i64 x8_1] ?_; (with_reducible refine (octet_TakeUint.calls k1 _ _ l0 x8_1 t168 t169 t170 _ ?side1 ?side2 A9.out).mono ?_); (case side1 => repeat (exact (Kd.C_below HR0.out HB.out))); (case side2 => exact HC0.out); rintro e w' ⟨rfl, ⟨nd, rfl⟩⟩; refine ⟨_, rfl, ?_⟩))
   (try simp only [Act.put, qa_, qb_, qc_])
   go_cut [8, 9, 13] (fun v8 v9 v13 wc => ∃ (kq : Nat) (x8_9 : Int) (x9_9 : Int) (x13_9 : Int), v8 = .int .i64 x8_9 ∧ v9 = .int .i64 x9_9 ∧ v13 = .int .u64 x13_9 ∧ Aside0 (span_Take.j1 kq l0 x8_9 x9_9 x10_1 t168 x13_9 (wrap64 (t161)) x32_1 x165000_1 x165001_1 x165002_1 = some (r1, r2, r3)) ∧ Aside0 (kq ≤ k1) ∧ Aside0 (Kd.R k110 110 wc w.heap.size (fun k_ => (w.heap.size ≤ k_) ∧ k_ ≠ gb164) u10 x10_1) ∧ Aside0 (wc.heap[gb164]? = some (.cells #[.int .i64 x165000_1, .int .i64 x165001_1, .int .i64 x165002_1] 110 (0, 0))) ∧ Aside0 (Below w.heap.size w wc))
   case first =>
    have H := HC10.out
    clear HC10
    by_cases c11 : t170 = 0
    ·
     rw [if_pos c11] at H
     have c11b0 : (t170 == 0) = true := beq_iff_eq.mpr c11
     have c11b1 : (t170 != 0) = false := bne_eq_false_iff_eq.mpr c11
     clear c11
     (first | rw [c11b0] | (simp only [i64_w, i32_w]; rw [c11b0]) | skip)
     replace H := Option.bind_eq_some_iff.mp H
     obtain ⟨⟨t171, t172, t173⟩, A120, H⟩ := H
     try dsimp only at H
     have A12 := am_ A120
     clear A120
     have H' := am_ H
     clear H
     go_wp2_with (((with_reducible refine gate_callee (f := 41) rfl ?_); refine gL (some 46) Tryd.func41 #[.slice A0 l0.length c0, .int .i64 t169] ?_; (with_reducible refine (octet_TakeUint.calls k1 _ _ l0 t169 t171 t172 t173 _ ?side1 ?side2 A12.out).mono ?_); (case side1 => repeat (first | exact (Kd.C_below HR0.out HB.out) | (with_reducible refine Kd.C_drewN ?_ _))); (case side2 => exact HC0.out); rintro e w' ⟨rfl, ⟨nd, rfl⟩⟩; refine ⟨_, rfl, ?_⟩))
     go_meet
     case rel => exact ⟨_, (t172), (t173), (t171), (by rfl), (by rfl), (by rfl), H', ⟨by have := HK1.out; omega⟩, ⟨by (with_reducible repeat (apply Kd.R_drewN)); exact HO_10.out⟩, ⟨by (with_reducible repeat (refine kn_ ?_ _)); exact BK164.out⟩, ⟨by repeat (with_reducible first | exact HB.out | apply bn_)⟩⟩
    rw [if_neg c11] at H
    have c11b0 : (t170 == 0) = false := beq_eq_false_iff_ne.mpr c11
    have c11b1 : (t170 != 0) = true := bne_iff_ne.mpr c11
    (first | rw [c11b0] | (simp only [i64_w, i32_w]; rw [c11b0]) | skip)
    have H' := am_ H
    clear H
    go_wp2
    go_meet
    case rel => exact ⟨_, (t169), (t170), (0), (by rfl), (by rfl), (by rfl), H', ⟨by have := HK1.out; omega⟩, ⟨by (with_reducible repeat (apply Kd.R_drewN)); exact HO_10.out⟩, ⟨by (with_reducible repeat (refine kn_ ?_ _)); exact BK164.out⟩, ⟨by repeat (with_reducible first | exact HB.out | apply bn_)⟩⟩
   case rest =>
   clear HC10
   try clear c4b0
   try clear c4b1
   try clear c5b0
   try clear c8b0
   try clear hcz7_0
   try clear hcz7_1
   try clear hcz7_2
   try clear hfz7_0
   try clear hfz7_1
   try clear hfz7_2
   obtain ⟨kq, x8_9, x9_9, x13_9, rfl, rfl, rfl, HA, HJ9, HO_10, BK164, HB⟩ := hcut
   cases kq with
   | zero => exact absurd HA.out (by simp [span_Take.j1])
   | succ kj9 =>
   have H := HA.out
   clear HA
   simp only [span_Take.j1] at H
   by_cases c13 : x9_9 = 0
   ·
    rw [if_pos c13] at H
    have c13b0 : (x9_9 == 0) = true := beq_iff_eq.mpr c13
    have c13b1 : (x9_9 != 0) = false := bne_eq_false_iff_eq.mpr c13
    clear c13
    by_cases c14 : x8_9 ≥ (l0.length : Int)
    ·
     rw [if_pos c14] at H
     have c14b0 : decide ((l0.length : Int) ≤ x8_9) = true := decide_eq_true c14
     clear c14
     simp only [Option.some.injEq, Prod.mk.injEq] at H
     obtain ⟨rfl, rfl, rfl⟩ := H
     go_wp2
     go_ret3
     exact ⟨_, by rfl, Kd.R_V (by exact Kd.R_nil _ _ _ 0 _), by repeat (with_reducible exact HB.out)⟩
    rw [if_neg c14] at H
    have c14b0 : decide ((l0.length : Int) ≤ x8_9) = false := decide_eq_false c14
    clear c14
    by_cases c15 : 0 ≤ x8_9
    ·
     rw [if_pos c15] at H
     have c15b0 : decide (0 ≤ x8_9) = true := decide_eq_true c15
     clear c15
     by_cases c16 : x8_9 < (l0.length : Int)
     ·
      rw [if_pos c16] at H
      have c16b0 : decide (x8_9 < (l0.length : Int)) = true := decide_eq_true c16
      clear c16
      by_cases c17 : t168 ≥ (IntKind.u64.wrap (wrap64 (1099511627776 - x165001_1)))
      ·
       rw [if_pos c17] at H
       have c17b0 : decide ((IntKind.u64.wrap (wrap64 (1099511627776 - x165001_1))) ≤ t168) = true := decide_eq_true c17
       clear c17
       simp only [Option.some.injEq, Prod.mk.injEq] at H
       obtain ⟨rfl, rfl, rfl⟩ := H
       have p174 : 0 ≤ (x8_9 : Int) := of_decide_eq_true (by (with_reducible assumption))
       have q174 : x8_9 < (l0.length : Int) := of_decide_eq_true (by (with_reducible assumption))
       obtain ⟨ad174, e174, hx174_0⟩ := Kd.at_int HR0.out x8_9 p174 q174
       cases e174
       replace hx174_0 := (HB.out.cell (World.block_lt_of_cell? w _ hx174_0)).trans hx174_0
       replace p174 := eq_true p174
       replace q174 := eq_true q174
       obtain ⟨hcz18_0, hcz18_1, hcz18_2, hfz18_0, hfz18_1, hfz18_2⟩ := cz3 BK164.out
       go_wp2
       go_ret3
       exact ⟨_, by rfl, Kd.R_V (by exact Kd.R_nil _ _ _ 0 _), by repeat (with_reducible exact HB.out)⟩
      rw [if_neg c17] at H
      have c17b0 : decide ((IntKind.u64.wrap (wrap64 (1099511627776 - x165001_1))) ≤ t168) = false := decide_eq_false c17
      clear c17
      by_cases c19 : x13_9 ≥ (IntKind.u64.wrap ((IntKind.u64.wrap (wrap64 (1099511627776 - x165001_1))) - t168))
      ·
       rw [if_pos c19] at H
       have c19b0 : decide ((IntKind.u64.wrap ((IntKind.u64.wrap (wrap64 (1099511627776 - x165001_1))) - t168)) ≤ x13_9) = true := decide_eq_true c19
       clear c19
       simp only [Option.some.injEq, Prod.mk.injEq] at H
       obtain ⟨rfl, rfl, rfl⟩ := H
       have p174 : 0 ≤ (x8_9 : Int) := of_decide_eq_true (by (with_reducible assumption))
       have q174 : x8_9 < (l0.length : Int) := of_decide_eq_true (by (with_reducible assumption))
       obtain ⟨ad174, e174, hx174_0⟩ := Kd.at_int HR0.out x8_9 p174 q174
       cases e174
       replace hx174_0 := (HB.out.cell (World.block_lt_of_cell? w _ hx174_0)).trans hx174_0
       replace p174 := eq_true p174
       replace q174 := eq_true q174
       obtain ⟨hcz20_0, hcz20_1, hcz20_2, hfz20_0, hfz20_1, hfz20_2⟩ := cz3 BK164.out
       go_wp2
       go_ret3
       exact ⟨_, by rfl, Kd.R_V (by exact Kd.R_nil _ _ _ 0 _), by repeat (with_reducible exact HB.out)⟩
      rw [if_neg c19] at H
      have c19b0 : decide ((IntKind.u64.wrap ((IntKind.u64.wrap (wrap64 (1099511627776 - x165001_1))) - t168)) ≤ x13_9) = false := decide_eq_false c19
      clear c19
      by_cases c21 : (wrap64 (rd l0 x8_9)) < 1
      ·
       rw [if_pos c21] at H
       have c21b0 : decide ((wrap64 (rd l0 x8_9)) < 1) = true := decide_eq_true c21
       clear c21
       simp only [Option.some.injEq, Prod.mk.injEq] at H
       obtain ⟨rfl, rfl, rfl⟩ := H
       have p174 : 0 ≤ (x8_9 : Int) := of_decide_eq_true (by (with_reducible assumption))
       have q174 : x8_9 < (l0.length : Int) := of_decide_eq_true (by (with_reducible assumption))
       obtain ⟨ad174, e174, hx174_0⟩ := Kd.at_int HR0.out x8_9 p174 q174
       cases e174
       replace hx174_0 := (HB.out.cell (World.block_lt_of_cell? w _ hx174_0)).trans hx174_0
       replace p174 := eq_true p174
       replace q174 := eq_true q174
       obtain ⟨hcz22_0, hcz22_1, hcz22_2, hfz22_0, hfz22_1, hfz22_2⟩ := cz3 BK164.out
       go_wp2
       go_ret3
       exact ⟨_, by rfl, Kd.R_V (by exact Kd.R_nil _ _ _ 0 _), by repeat (with_reducible exact HB.out)⟩
      rw [if_neg c21] at H
      have c21b0 : decide ((wrap64 (rd l0 x8_9)) < 1) = false := decide_eq_false c21
      clear c21
      by_cases c23 : (wrap64 (rd l0 x8_9)) > 3
      ·
       rw [if_pos c23] at H
       have c23b0 : decide (3 < (wrap64 (rd l0 x8_9))) = true := decide_eq_true c23
       clear c23
       simp only [Option.some.injEq, Prod.mk.injEq] at H
       obtain ⟨rfl, rfl, rfl⟩ := H
       have p174 : 0 ≤ (x8_9 : Int) := of_decide_eq_true (by (with_reducible assumption))
       have q174 : x8_9 < (l0.length : Int) := of_decide_eq_true (by (with_reducible assumption))
       obtain ⟨ad174, e174, hx174_0⟩ := Kd.at_int HR0.out x8_9 p174 q174
       cases e174
       replace hx174_0 := (HB.out.cell (World.block_lt_of_cell? w _ hx174_0)).trans hx174_0
       replace p174 := eq_true p174
       replace q174 := eq_true q174
       obtain ⟨hcz24_0, hcz24_1, hcz24_2, hfz24_0, hfz24_1, hfz24_2⟩ := cz3 BK164.out
       go_wp2
       go_ret3
       exact ⟨_, by rfl, Kd.R_V (by exact Kd.R_nil _ _ _ 0 _), by repeat (with_reducible exact HB.out)⟩
      rw [if_neg c23] at H
      have c23b0 : decide (3 < (wrap64 (rd l0 x8_9))) = false := decide_eq_false c23
      clear c23
      by_cases c25 : t168 = 0
      ·
       rw [if_pos c25] at H
       have c25b0 : (t168 == 0) = true := beq_iff_eq.mpr c25
       have c25b1 : (t168 != 0) = false := bne_eq_false_iff_eq.mpr c25
       clear c25
       by_cases c26 : (wrap64 (rd l0 x8_9)) = x165002_1
       ·
        rw [if_pos c26] at H
        have c26b0 : ((wrap64 (rd l0 x8_9)) == x165002_1) = true := beq_iff_eq.mpr c26
        have c26b1 : ((wrap64 (rd l0 x8_9)) != x165002_1) = false := bne_eq_false_iff_eq.mpr c26
        clear c26
        simp only [Option.some.injEq, Prod.mk.injEq] at H
        obtain ⟨rfl, rfl, rfl⟩ := H
        have p174 : 0 ≤ (x8_9 : Int) := of_decide_eq_true (by (with_reducible assumption))
        have q174 : x8_9 < (l0.length : Int) := of_decide_eq_true (by (with_reducible assumption))
        obtain ⟨ad174, e174, hx174_0⟩ := Kd.at_int HR0.out x8_9 p174 q174
        cases e174
        replace hx174_0 := (HB.out.cell (World.block_lt_of_cell? w _ hx174_0)).trans hx174_0
        replace p174 := eq_true p174
        replace q174 := eq_true q174
        obtain ⟨hcz27_0, hcz27_1, hcz27_2, hfz27_0, hfz27_1, hfz27_2⟩ := cz3 BK164.out
        go_wp2
        go_ret3
        exact ⟨_, by rfl, Kd.R_V (by exact Kd.R_nil _ _ _ 0 _), by repeat (with_reducible exact HB.out)⟩
       rw [if_neg c26] at H
       have c26b0 : ((wrap64 (rd l0 x8_9)) == x165002_1) = false := beq_eq_false_iff_ne.mpr c26
       have c26b1 : ((wrap64 (rd l0 x8_9)) != x165002_1) = true := bne_iff_ne.mpr c26
       by_cases c28 : x10_1.length < 5864062014805
       ·
        rw [if_pos c28] at H
        have LMc28 := am_ c28
        clear c28
        obtain ⟨y175, hy175⟩ : ∃ y_ : List (S110), y_ = (x10_1 ++ [(⟨wrap64 ((wrap64 (x165001_1 + 1)) + (wrap64 (t168))), wrap64 ((wrap64 ((wrap64 (x165001_1 + 1)) + (wrap64 (t168)))) + (wrap64 (x13_9))), wrap64 (rd l0 x8_9)⟩ : S110)]) := ⟨_, rfl⟩
        replace H : (span_Take.l0 kj9 l0 (wrap64 (x8_9 + 1)) y175 (wrap64 (t161)) (wrap64 (x32_1 + 1)) (wrap64 ((wrap64 (x165001_1 + 1)) + (wrap64 (t168)))) (wrap64 ((wrap64 ((wrap64 (x165001_1 + 1)) + (wrap64 (t168)))) + (wrap64 (x13_9)))) (wrap64 (rd l0 x8_9))) = some (r1, r2, r3) := by (rw [hy175]; with_reducible exact H)
        have Ny175 := am_ hy175
        clear hy175
        have H' := am_ H
        clear H
        have p174 : 0 ≤ (x8_9 : Int) := of_decide_eq_true (by (with_reducible assumption))
        have q174 : x8_9 < (l0.length : Int) := of_decide_eq_true (by (with_reducible assumption))
        obtain ⟨ad174, e174, hx174_0⟩ := Kd.at_int HR0.out x8_9 p174 q174
        cases e174
        replace hx174_0 := (HB.out.cell (World.block_lt_of_cell? w _ hx174_0)).trans hx174_0
        replace p174 := eq_true p174
        replace q174 := eq_true q174
        obtain ⟨hcz29_0, hcz29_1, hcz29_2, hfz29_0, hfz29_1, hfz29_2⟩ := cz3 BK164.out
        go_wp2_with (((with_reducible refine gate_builtin (b := .append) (xs := #[.tmp 111, .tmp 113]) rfl ?_); at_builtin; refine Kd.R_append k110 (w0 := w) w.heap.size rfl (.tmp 111) (.tmp 113) 34 110 (.agg #[(.int .i64 0), (.int .i64 0), (.int .i64 0)]) 24 rfl Tryd.underlying34 info110 rfl (by decide) (by omega) u10 x10_1 (⟨wrap64 ((wrap64 (x165001_1 + 1)) + (wrap64 (t168))), wrap64 ((wrap64 ((wrap64 (x165001_1 + 1)) + (wrap64 (t168)))) + (wrap64 (x13_9))), wrap64 (rd l0 x8_9)⟩ : S110) [.int .i64 (wrap64 ((wrap64 (x165001_1 + 1)) + (wrap64 (t168)))), .int .i64 (wrap64 ((wrap64 ((wrap64 (x165001_1 + 1)) + (wrap64 (t168)))) + (wrap64 (x13_9)))), .int .i64 (wrap64 (rd l0 x8_9))] (fun k_ => (w.heap.size ≤ k_) ∧ k_ ≠ gb164) (fun _ => False) rfl (by (go_simp; done)) ?aP (fun _ hk => hk.elim) ?aF ?aO ?aB ?aS ?aL ?_; (case aP => exact k110_mkM _ _ _ (⟨wrap64 ((wrap64 (x165001_1 + 1)) + (wrap64 (t168))), wrap64 ((wrap64 ((wrap64 (x165001_1 + 1)) + (wrap64 (t168)))) + (wrap64 (x13_9))), wrap64 (rd l0 x8_9)⟩ : S110)); (case aB => exact (by repeat (with_reducible first | exact HB.out | refine bs_ ?_ GE164.out))); (case aF => exact (fun k_ hk => ⟨(Nat.le_trans (bz_ (by repeat (with_reducible first | exact HB.out | refine bs_ ?_ GE164.out))) hk), Kd.freshB (g := gb164) (o := .cells #[.int .i64 (wrap64 ((wrap64 (x165001_1 + 1)) + (wrap64 (t168)))), .int .i64 (wrap64 ((wrap64 ((wrap64 (x165001_1 + 1)) + (wrap64 (t168)))) + (wrap64 (x13_9)))), .int .i64 (wrap64 (rd l0 x8_9))] 110 (0, 0)) (by refine blk_put (cs := #[.int .i64 (wrap64 ((wrap64 (x165001_1 + 1)) + (wrap64 (t168)))), .int .i64 (wrap64 ((wrap64 ((wrap64 (x165001_1 + 1)) + (wrap64 (t168)))) + (wrap64 (x13_9)))), .int .i64 x165002_1]) ?_ 2 _ rfl; refine blk_put (cs := #[.int .i64 (wrap64 ((wrap64 (x165001_1 + 1)) + (wrap64 (t168)))), .int .i64 x165001_1, .int .i64 x165002_1]) ?_ 1 _ rfl; refine blk_put (cs := #[.int .i64 x165000_1, .int .i64 x165001_1, .int .i64 x165002_1]) ?_ 0 _ rfl; exact BK164.out) k_ hk⟩)); (case aO => exact (by exact Kd.R_mono (Kd.R_far (p := ⟨gb164, 2, none⟩) (Kd.R_far (p := ⟨gb164, 1, none⟩) (Kd.R_far (p := ⟨gb164, 0, none⟩) (Kd.R_mono HO_10.out (fun k_ hk => (⟨hk, hk.2⟩ : _ ∧ k_ ≠ gb164))) (fun _ hk => hk.2) (.int .i64 (wrap64 ((wrap64 (x165001_1 + 1)) + (wrap64 (t168)))))) (fun _ hk => hk.2) (.int .i64 (wrap64 ((wrap64 ((wrap64 (x165001_1 + 1)) + (wrap64 (t168)))) + (wrap64 (x13_9)))))) (fun _ hk => hk.2) (.int .i64 (wrap64 (rd l0 x8_9)))) (fun _ hk => ⟨hk.1.1, hk.1.2⟩))); (case aS => exact (bz_ (by repeat (with_reducible first | exact HB.out | refine bs_ ?_ GE164.out)))); (case aL => have := LMc28.out; omega); intro v176 w30 ho hb hg hat; rw [← Ny175.out] at ho; have n0_ := am_ (blk_grown (g := gb164) (o := .cells #[.int .i64 (wrap64 ((wrap64 (x165001_1 + 1)) + (wrap64 (t168)))), .int .i64 (wrap64 ((wrap64 ((wrap64 (x165001_1 + 1)) + (wrap64 (t168)))) + (wrap64 (x13_9)))), .int .i64 (wrap64 (rd l0 x8_9))] 110 (0, 0)) (by refine blk_put (cs := #[.int .i64 (wrap64 ((wrap64 (x165001_1 + 1)) + (wrap64 (t168)))), .int .i64 (wrap64 ((wrap64 ((wrap64 (x165001_1 + 1)) + (wrap64 (t168)))) + (wrap64 (x13_9)))), .int .i64 x165002_1]) ?_ 2 _ rfl; refine blk_put (cs := #[.int .i64 (wrap64 ((wrap64 (x165001_1 + 1)) + (wrap64 (t168)))), .int .i64 x165001_1, .int .i64 x165002_1]) ?_ 1 _ rfl; refine blk_put (cs := #[.int .i64 x165000_1, .int .i64 x165001_1, .int .i64 x165002_1]) ?_ 0 _ rfl; exact BK164.out) hg (Kd.R_away HO_10.out (fun _ hk => hk.2))); have n1_ := am_ (hb); have n2_ := am_ (ho); clear BK164; clear HB; clear HO_10; have BK164 := n0_; have HB := n1_; have HO177 := n2_; clear n0_ n1_ n2_; clear ho hb hg hat))
        go_roundg kj9
        case measure => have := HK1.out; have := HJ9.out; omega
        case rel => exact ⟨(wrap64 (x8_9 + 1)), (y175), (wrap64 (x32_1 + 1)), (wrap64 ((wrap64 (x165001_1 + 1)) + (wrap64 (t168)))), (wrap64 ((wrap64 ((wrap64 (x165001_1 + 1)) + (wrap64 (t168)))) + (wrap64 (x13_9)))), (wrap64 (rd l0 x8_9)), (by rfl), (by rfl), H', ⟨by have := HK1.out; have := HJ9.out; omega⟩, ⟨by exact HO177.out⟩, ⟨by exact BK164.out⟩, ⟨by repeat (with_reducible exact HB.out)⟩⟩
       rw [if_neg c28] at H
       exact absurd H (by simp)
      rw [if_neg c25] at H
      have c25b0 : (t168 == 0) = false := beq_eq_false_iff_ne.mpr c25
      have c25b1 : (t168 != 0) = true := bne_iff_ne.mpr c25
      by_cases c31 : x10_1.length < 5864062014805
      ·
       rw [if_pos c31] at H
       have LMc31 := am_ c31
       clear c31
       obtain ⟨y178, hy178⟩ : ∃ y_ : List (S110), y_ = (x10_1 ++ [(⟨wrap64 ((wrap64 (x165001_1 + 1)) + (wrap64 (t168))), wrap64 ((wrap64 ((wrap64 (x165001_1 + 1)) + (wrap64 (t168)))) + (wrap64 (x13_9))), wrap64 (rd l0 x8_9)⟩ : S110)]) := ⟨_, rfl⟩
       replace H : (span_Take.l0 kj9 l0 (wrap64 (x8_9 + 1)) y178 (wrap64 (t161)) (wrap64 (x32_1 + 1)) (wrap64 ((wrap64 (x165001_1 + 1)) + (wrap64 (t168)))) (wrap64 ((wrap64 ((wrap64 (x165001_1 + 1)) + (wrap64 (t168)))) + (wrap64 (x13_9)))) (wrap64 (rd l0 x8_9))) = some (r1, r2, r3) := by (rw [hy178]; with_reducible exact H)
       have Ny178 := am_ hy178
       clear hy178
       have H' := am_ H
       clear H
       have p174 : 0 ≤ (x8_9 : Int) := of_decide_eq_true (by (with_reducible assumption))
       have q174 : x8_9 < (l0.length : Int) := of_decide_eq_true (by (with_reducible assumption))
       obtain ⟨ad174, e174, hx174_0⟩ := Kd.at_int HR0.out x8_9 p174 q174
       cases e174
       replace hx174_0 := (HB.out.cell (World.block_lt_of_cell? w _ hx174_0)).trans hx174_0
       replace p174 := eq_true p174
       replace q174 := eq_true q174
       obtain ⟨hcz32_0, hcz32_1, hcz32_2, hfz32_0, hfz32_1, hfz32_2⟩ := cz3 BK164.out
       go_wp2_with (((with_reducible refine gate_builtin (b := .append) (xs := #[.tmp 111, .tmp 113]) rfl ?_); at_builtin; refine Kd.R_append k110 (w0 := w) w.heap.size rfl (.tmp 111) (.tmp 113) 34 110 (.agg #[(.int .i64 0), (.int .i64 0), (.int .i64 0)]) 24 rfl Tryd.underlying34 info110 rfl (by decide) (by omega) u10 x10_1 (⟨wrap64 ((wrap64 (x165001_1 + 1)) + (wrap64 (t168))), wrap64 ((wrap64 ((wrap64 (x165001_1 + 1)) + (wrap64 (t168)))) + (wrap64 (x13_9))), wrap64 (rd l0 x8_9)⟩ : S110) [.int .i64 (wrap64 ((wrap64 (x165001_1 + 1)) + (wrap64 (t168)))), .int .i64 (wrap64 ((wrap64 ((wrap64 (x165001_1 + 1)) + (wrap64 (t168)))) + (wrap64 (x13_9)))), .int .i64 (wrap64 (rd l0 x8_9))] (fun k_ => (w.heap.size ≤ k_) ∧ k_ ≠ gb164) (fun _ => False) rfl (by (go_simp; done)) ?aP (fun _ hk => hk.elim) ?aF ?aO ?aB ?aS ?aL ?_; (case aP => exact k110_mkM _ _ _ (⟨wrap64 ((wrap64 (x165001_1 + 1)) + (wrap64 (t168))), wrap64 ((wrap64 ((wrap64 (x165001_1 + 1)) + (wrap64 (t168)))) + (wrap64 (x13_9))), wrap64 (rd l0 x8_9)⟩ : S110)); (case aB => exact (by repeat (with_reducible first | exact HB.out | refine bs_ ?_ GE164.out))); (case aF => exact (fun k_ hk => ⟨(Nat.le_trans (bz_ (by repeat (with_reducible first | exact HB.out | refine bs_ ?_ GE164.out))) hk), Kd.freshB (g := gb164) (o := .cells #[.int .i64 (wrap64 ((wrap64 (x165001_1 + 1)) + (wrap64 (t168)))), .int .i64 (wrap64 ((wrap64 ((wrap64 (x165001_1 + 1)) + (wrap64 (t168)))) + (wrap64 (x13_9)))), .int .i64 (wrap64 (rd l0 x8_9))] 110 (0, 0)) (by refine blk_put (cs := #[.int .i64 (wrap64 ((wrap64 (x165001_1 + 1)) + (wrap64 (t168)))), .int .i64 (wrap64 ((wrap64 ((wrap64 (x165001_1 + 1)) + (wrap64 (t168)))) + (wrap64 (x13_9)))), .int .i64 x165002_1]) ?_ 2 _ rfl; refine blk_put (cs := #[.int .i64 (wrap64 ((wrap64 (x165001_1 + 1)) + (wrap64 (t168)))), .int .i64 x165001_1, .int .i64 x165002_1]) ?_ 1 _ rfl; refine blk_put (cs := #[.int .i64 x165000_1, .int .i64 x165001_1, .int .i64 x165002_1]) ?_ 0 _ rfl; exact BK164.out) k_ hk⟩)); (case aO => exact (by exact Kd.R_mono (Kd.R_far (p := ⟨gb164, 2, none⟩) (Kd.R_far (p := ⟨gb164, 1, none⟩) (Kd.R_far (p := ⟨gb164, 0, none⟩) (Kd.R_mono HO_10.out (fun k_ hk => (⟨hk, hk.2⟩ : _ ∧ k_ ≠ gb164))) (fun _ hk => hk.2) (.int .i64 (wrap64 ((wrap64 (x165001_1 + 1)) + (wrap64 (t168)))))) (fun _ hk => hk.2) (.int .i64 (wrap64 ((wrap64 ((wrap64 (x165001_1 + 1)) + (wrap64 (t168)))) + (wrap64 (x13_9)))))) (fun _ hk => hk.2) (.int .i64 (wrap64 (rd l0 x8_9)))) (fun _ hk => ⟨hk.1.1, hk.1.2⟩))); (case aS => exact (bz_ (by repeat (with_reducible first | exact HB.out | refine bs_ ?_ GE164.out)))); (case aL => have := LMc31.out; omega); intro v179 w33 ho hb hg hat; rw [← Ny178.out] at ho; have n0_ := am_ (blk_grown (g := gb164) (o := .cells #[.int .i64 (wrap64 ((wrap64 (x165001_1 + 1)) + (wrap64 (t168)))), .int .i64 (wrap64 ((wrap64 ((wrap64 (x165001_1 + 1)) + (wrap64 (t168)))) + (wrap64 (x13_9)))), .int .i64 (wrap64 (rd l0 x8_9))] 110 (0, 0)) (by refine blk_put (cs := #[.int .i64 (wrap64 ((wrap64 (x165001_1 + 1)) + (wrap64 (t168)))), .int .i64 (wrap64 ((wrap64 ((wrap64 (x165001_1 + 1)) + (wrap64 (t168)))) + (wrap64 (x13_9)))), .int .i64 x165002_1]) ?_ 2 _ rfl; refine blk_put (cs := #[.int .i64 (wrap64 ((wrap64 (x165001_1 + 1)) + (wrap64 (t168)))), .int .i64 x165001_1, .int .i64 x165002_1]) ?_ 1 _ rfl; refine blk_put (cs := #[.int .i64 x165000_1, .int .i64 x165001_1, .int .i64 x165002_1]) ?_ 0 _ rfl; exact BK164.out) hg (Kd.R_away HO_10.out (fun _ hk => hk.2))); have n1_ := am_ (hb); have n2_ := am_ (ho); clear BK164; clear HB; clear HO_10; have BK164 := n0_; have HB := n1_; have HO180 := n2_; clear n0_ n1_ n2_; clear ho hb hg hat))
       go_roundg kj9
       case measure => have := HK1.out; have := HJ9.out; omega
       case rel => exact ⟨(wrap64 (x8_9 + 1)), (y178), (wrap64 (x32_1 + 1)), (wrap64 ((wrap64 (x165001_1 + 1)) + (wrap64 (t168)))), (wrap64 ((wrap64 ((wrap64 (x165001_1 + 1)) + (wrap64 (t168)))) + (wrap64 (x13_9)))), (wrap64 (rd l0 x8_9)), (by rfl), (by rfl), H', ⟨by have := HK1.out; have := HJ9.out; omega⟩, ⟨by exact HO180.out⟩, ⟨by exact BK164.out⟩, ⟨by repeat (with_reducible exact HB.out)⟩⟩
      rw [if_neg c31] at H
      exact absurd H (by simp)
     rw [if_neg c16] at H
     exact absurd H (by simp)
    rw [if_neg c15] at H
    exact absurd H (by simp)
   rw [if_neg c13] at H
   have c13b0 : (x9_9 == 0) = false := beq_eq_false_iff_ne.mpr c13
   have c13b1 : (x9_9 != 0) = true := bne_iff_ne.mpr c13
   simp only [Option.some.injEq, Prod.mk.injEq] at H
   obtain ⟨rfl, rfl, rfl⟩ := H
   go_wp2
   go_ret3
   exact ⟨_, by rfl, Kd.R_V (by exact Kd.R_nil _ _ _ 0 _), by repeat (with_reducible exact HB.out)⟩
  rw [if_neg c8] at H
  have c8b0 : decide (x32_1 < (wrap64 (t161))) = false := decide_eq_false c8
  clear c8
  replace H := Option.bind_eq_some_iff.mp H
  obtain ⟨t165, A340, H⟩ := H
  try dsimp only at H
  have A34 := am_ A340
  clear A340
  simp only [Option.some.injEq, Prod.mk.injEq] at H
  obtain ⟨rfl, rfl, rfl⟩ := H
  obtain ⟨Ao35, co35, eo35⟩ := Kd.R_slice HO_10.out
  subst eo35
  go_wp2_with (((with_reducible refine gate_callee (f := 59) rfl ?_); refine gL (some 117) Tryd.func59 #[.slice Ao35 x10_1.length co35] ?_; (with_reducible refine (api_Span.calls (fun k_ => some k_ = (.slice Ao35 x10_1.length co35 : Value).ownBlock) _ _ x10_1 t165 _ ?side1 A34.out).mono ?_); (case side1 => exact Kd.R_V (Kd.R_tight rfl (HO_10.out))); rintro e w36 ⟨v166, rfl, ho0, hb⟩; refine ⟨_, rfl, ?_⟩; have n0_ := am_ (Kd.R_below HO_10.out hb); have n1_ := am_ (Kd.V_lower (Kd.V_mono (ok' := fun k_ => (w.heap.size ≤ k_) ∧ k_ ≠ gb164) ho0 (fun k_ hk_ => ⟨Or.elim hk_ (fun hs_ => ((HO_10.out).1 k_ hs_.symm).1) (fun hn_ => (Nat.le_trans (bz_ HB.out) hn_)), Or.elim hk_ (fun hs_ => ((HO_10.out).1 k_ hs_.symm).2) (fun hn_ => (Kd.freshB (g := gb164) (o := .cells #[.int .i64 x165000_1, .int .i64 x165001_1, .int .i64 x165002_1] 110 (0, 0)) BK164.out k_ hn_))⟩)) (bz_ HB.out)); have n2_ := am_ (blk_below (g := gb164) (o := .cells #[.int .i64 x165000_1, .int .i64 x165001_1, .int .i64 x165002_1] 110 (0, 0)) BK164.out hb); have n3_ := am_ (below_step HB.out hb); clear HO_10; clear BK164; clear HB; have HO_10 := n0_; have HO167 := n1_; have BK164 := n2_; have HB := n3_; clear n0_ n1_ n2_ n3_; (try clear hb); (try clear ho0)))
  go_ret3
  exact ⟨_, by rfl, by exact Kd.V_mono HO167.out (fun _ hk => hk.1), by repeat (with_reducible exact HB.out)⟩
 rw [if_neg c4] at H
 have c4b0 : (t163 == 0) = false := beq_eq_false_iff_ne.mpr c4
 have c4b1 : (t163 != 0) = true := bne_iff_ne.mpr c4
 simp only [Option.some.injEq, Prod.mk.injEq] at H
 obtain ⟨rfl, rfl, rfl⟩ := H
 go_enter Tryd.func53, Tryd.ntmps53
 go_wp2_with (((with_reducible refine gate_callee (f := 41) rfl ?_); refine gL (some 20) Tryd.func41 #[.slice A0 l0.length c0, .int .i64 a1] ?_; (with_reducible refine (octet_TakeUint.calls k _ _ l0 a1 t161 t162 t163 _ ?side1 ?side2 A3.out).mono ?_); (case side1 => repeat (exact HR0.out)); (case side2 => exact HC0.out); rintro e w' ⟨rfl, ⟨nd, rfl⟩⟩; refine ⟨_, rfl, ?_⟩))
 go_ret3
 exact ⟨_, by rfl, Kd.R_V (by exact Kd.R_nil _ _ _ 0 _), by repeat (with_reducible first | exact HB.out | apply bn_)⟩
end Go.Proofs.YtoandmnefgimoaaDoor.PL
