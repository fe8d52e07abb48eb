-- PRINTED by gprint.py (a session's own driver over the kit's print): not trusted; Lean checks it.
import Derived.Test.YtpeacoppclmmlaaPTPPx0
import Derived.Test.YtpeacoppclmmlaaPTPPx6
namespace Go.Proofs.Ytpeacoppclmmlaa.PP
open Go.RowKit Go.Proofs.YtpeacoppclmmlaaW.PrintWords Go.Proofs.YtpeacoppclmmlaaW.PrintLast Go.Proofs.YtpeacoppclmmlaaW.PrintMore
attribute [local go_sem] max2_int min2_int max_two min_two max_three min_three max_four min_four   -- for this text's walks alone
set_option linter.unusedVariables false
set_option linter.unusedSimpArgs false
/-! ### grapevinelaw13_live: function 44 -/
def grapevinelaw13_live.f (k : Nat)  : Option (Bool) := (parcel_Put.f k 2 1 0 7 5 300 ([] : List (S43)) ([] : List (S62))).bind fun bt136 => (if bt136.2 = 0 then (some ((strOfNums bt136.1).toList == ([2, 1, 5, 172, 2] : List UInt8))) else (some false))
theorem grapevinelaw13_live.mono : ∀ k, LeO (grapevinelaw13_live.f k ) (grapevinelaw13_live.f (k + 1) ) := by
 intro  k
 unfold grapevinelaw13_live.f
 repeat' first
  | (with_reducible exact parcel_Put.mono _ _ _ _ _ _ _ _ _)
  | (with_reducible exact LeO.refl _)
  | (with_reducible exact LeO.none _)
  | (with_reducible refine LeO.ite ?_ ?_)
  | (with_reducible refine LeO.bind ?_ (fun _ => ?_))
  | exact parcel_Put.mono _ _ _ _ _ _ _ _ _
  | exact LeO.none _
  | refine LeO.ite ?_ ?_
  | refine LeO.bind ?_ (fun _ => ?_)
set_option maxHeartbeats 8000000 in
set_option maxRecDepth 100000 in
theorem grapevinelaw13_live.calls (k : Nat)  (r : Bool) (w : World) (h : grapevinelaw13_live.f k  = some r) :
 Calls Try.prog 44 #[] w fun e w' => e = .returned (.bool r) ∧ Below w.heap.size w w' := by
 have hu51 := Try.underlying51
 have HB := Aside0.mk (Below.refl w.heap.size w)
 have H : ((parcel_Put.f k 2 1 0 7 5 300 ([] : List (S43)) ([] : List (S62))).bind fun bt136 => (if bt136.2 = 0 then (some ((strOfNums bt136.1).toList == ([2, 1, 5, 172, 2] : List UInt8))) else (some false))) = some r := h
 clear h
 replace H := Option.bind_eq_some_iff.mp H
 obtain ⟨⟨t136, t139⟩, A10, H⟩ := H
 replace H : (if t139 = 0 then (some ((strOfNums t136).toList == ([2, 1, 5, 172, 2] : List UInt8))) else (some false)) = some r := H
 have A1 := Aside0.mk A10
 clear A10
 by_cases c2 : t139 = 0
 ·
  rw [if_pos c2] at H
  have c2b0 : (t139 == 0) = true := beq_iff_eq.mpr c2
  have c2b1 : (t139 != 0) = false := bne_eq_false_iff_eq.mpr c2
  clear c2
  obtain rfl := Option.some.inj H
  go_enter Try.func44, Try.ntmps44
  go_wp2_with (((with_reducible refine gate_callee (f := 47) rfl ?_); refine goesL_ (some 5) rfl rfl Try.func47 (by kernel_rfl) rfl #[.agg #[.int .i64 2, .int .i64 1, .int .i64 0, .int .i64 7, .int .i64 5, .int .i64 300, .slice none 0 0, .slice none 0 0]] rfl (by (try simp only [List.map_toArray, List.map_cons, List.map_nil]); rfl) ?_; (refine (parcel_Put.calls k 2 1 0 7 5 300 _ _ ([] : List (S43)) _ _ ([] : List (S62)) t136 t139 _ ?side1 ?side2 ?side3 ?side4 A1.out).mono ?_); (case side1 => exact Kd.C_nil _ _); (case side2 => exact Nat.le_refl _); (case side3 => exact Kd.C_nil _ _); (case side4 => exact Nat.le_refl _); rintro e w3 ⟨v137, rfl, ho0, hb⟩; refine ⟨_, rfl, ?_⟩; have n0_ := Aside0.mk (Kd.R_lower ho0 (below_size (by repeat (with_reducible exact HB.out)))); have n1_ := Aside0.mk (below_step (by repeat (with_reducible exact HB.out)) hb); clear HB; have HO138 := n0_; have HB := n1_; clear n0_ n1_; (try clear hb); (try clear ho0); have hcv4 := own_string (P := Try.prog) Try.underlying44 Try.underlying5 Try.underlying9 (Kd.own_of_R HO138.out)))
  go_ret
  exact ⟨by rfl, by repeat (with_reducible exact HB.out)⟩
 rw [if_neg c2] at H
 have c2b0 : (t139 == 0) = false := beq_eq_false_iff_ne.mpr c2
 have c2b1 : (t139 != 0) = true := bne_iff_ne.mpr c2
 obtain rfl := Option.some.inj H
 go_enter Try.func44, Try.ntmps44
 go_wp2_with (((with_reducible refine gate_callee (f := 47) rfl ?_); refine goesL_ (some 5) rfl rfl Try.func47 (by kernel_rfl) rfl #[.agg #[.int .i64 2, .int .i64 1, .int .i64 0, .int .i64 7, .int .i64 5, .int .i64 300, .slice none 0 0, .slice none 0 0]] rfl (by (try simp only [List.map_toArray, List.map_cons, List.map_nil]); rfl) ?_; (refine (parcel_Put.calls k 2 1 0 7 5 300 _ _ ([] : List (S43)) _ _ ([] : List (S62)) t136 t139 _ ?side1 ?side2 ?side3 ?side4 A1.out).mono ?_); (case side1 => exact Kd.C_nil _ _); (case side2 => exact Nat.le_refl _); (case side3 => exact Kd.C_nil _ _); (case side4 => exact Nat.le_refl _); rintro e w5 ⟨v137, rfl, ho0, hb⟩; refine ⟨_, rfl, ?_⟩; have n0_ := Aside0.mk (Kd.R_lower ho0 (below_size (by repeat (with_reducible exact HB.out)))); have n1_ := Aside0.mk (below_step (by repeat (with_reducible exact HB.out)) hb); clear HB; have HO138 := n0_; have HB := n1_; clear n0_ n1_; (try clear hb); (try clear ho0)))
 go_ret
 exact ⟨by rfl, by repeat (with_reducible exact HB.out)⟩
/-! ### grapevineref08_Right: function 34 -/
mutual
def grapevineref08_Right.l0 : Nat → List (S43) → Int → Option (Bool)
 | 0, _, _ => none
 | k + 1, x0, x3 => if x3 < (x0.length : Int) then (if 0 ≤ x3 then (if ((rd_T43 x0 x3).f2) < 1 then (grapevineref08_Right.j1 k x0 x3 true) else (if ((rd_T43 x0 x3).f2) > 3 then (grapevineref08_Right.j1 k x0 x3 true) else (if ((rd_T43 x0 x3).f0) < 1 then (grapevineref08_Right.j1 k x0 x3 true) else (if ((rd_T43 x0 x3).f1) < ((rd_T43 x0 x3).f0) then (grapevineref08_Right.j1 k x0 x3 true) else (grapevineref08_Right.j1 k x0 x3 (decide (((rd_T43 x0 x3).f1) > 1099511627776))))))) else (none)) else (some true)
def grapevineref08_Right.j1 : Nat → List (S43) → Int → Bool → Option (Bool)
 | 0, _, _, _ => none
 | k + 1, x0, x3, x52 => if x52 = true then (some false) else (if x3 > 0 then (if 0 ≤ x3 then (if x3 < (x0.length : Int) then (if 0 ≤ (wrap64 (x3 - 1)) then (if (wrap64 (x3 - 1)) < (x0.length : Int) then (if ((rd_T43 x0 x3).f0) ≤ ((rd_T43 x0 (wrap64 (x3 - 1))).f1) then (some false) else (if (wrap64 (((rd_T43 x0 x3).f0) - 1)) = ((rd_T43 x0 (wrap64 (x3 - 1))).f1) then (if ((rd_T43 x0 x3).f2) = ((rd_T43 x0 (wrap64 (x3 - 1))).f2) then (some false) else (grapevineref08_Right.l0 k x0 (wrap64 (x3 + 1)))) else (grapevineref08_Right.l0 k x0 (wrap64 (x3 + 1))))) else (none)) else (none)) else (none)) else (none)) else (grapevineref08_Right.l0 k x0 (wrap64 (x3 + 1))))
end
def grapevineref08_Right.f (k : Nat) (l0 : List (S43)) : Option (Bool) := grapevineref08_Right.l0 k l0 0
set_option maxHeartbeats 8000000 in
set_option maxRecDepth 100000 in
theorem grapevineref08_Right.calls (k : Nat) (A0 : Option Addr) (c0 : Nat) (l0 : List (S43)) (r : Bool) (w : World) (hr0 : Kd.C k43 w A0 l0.length l0) (hc0 : l0.length ≤ c0) (h : grapevineref08_Right.f k l0 = some r) :
 Calls Try.prog 34 #[.slice A0 l0.length c0] w fun e w' => e = .returned (.bool r) ∧ Drawn0 w w' := by
 have HR0 := Aside0.mk hr0
 have HC0 := Aside0.mk hc0
 clear hr0 hc0
 have H : (grapevineref08_Right.l0 k l0 0) = some r := h
 clear h
 have H' := Aside0.mk H
 clear H
 go_enter Try.func34, Try.ntmps34
 go_wp2
 repeat (go_quiet (fail); try go_wp2)
 go_loopg [3] k (fun kq v3 w' => ∃ (x3_1 : Int), v3 = .int .i64 x3_1 ∧ Aside0 (grapevineref08_Right.l0 kq l0 x3_1 = some r) ∧ Aside0 (kq ≤ k) ∧ Drawn0 w w')
 case atStart => exact ⟨(0), (by rfl), H', ⟨Nat.le_refl _⟩, by repeat (exact Drawn0.refl _)⟩
 case round =>
 clear H'
 obtain ⟨x3_1, rfl, HA, HK1, ⟨m1, rfl⟩⟩ := hrel
 cases gk with
 | zero => exact absurd HA.out (by simp [grapevineref08_Right.l0])
 | succ k1 =>
 have H := HA.out
 clear HA
 simp only [grapevineref08_Right.l0] at H
 by_cases c2 : x3_1 < (l0.length : Int)
 ·
  rw [if_pos c2] at H
  have c2b0 : decide (x3_1 < (l0.length : Int)) = true := decide_eq_true c2
  clear c2
  have HC3 := Aside0.mk H
  clear H
  go_upto_region 4 with (fail)
  repeat (go_quiet (fail); go_upto_region 4 with (fail))
  go_cut [52] (fun v52 wc => ∃ (kq : Nat) (x52_2 : Bool), v52 = .bool x52_2 ∧ Aside0 (grapevineref08_Right.j1 kq l0 x3_1 x52_2 = some r) ∧ Aside0 (kq ≤ k1) ∧ Drawn0 w wc)
  case first =>
   have H := HC3.out
   clear HC3
   by_cases c4 : 0 ≤ x3_1
   ·
    rw [if_pos c4] at H
    have c4b0 : decide (0 ≤ x3_1) = true := decide_eq_true c4
    clear c4
    (skip)
    by_cases c5 : ((rd_T43 l0 x3_1).f2) < 1
    ·
     rw [if_pos c5] at H
     have c5b0 : decide (((rd_T43 l0 x3_1).f2) < 1) = true := decide_eq_true c5
     clear c5
     have H' := Aside0.mk H
     clear H
     have p140 : 0 ≤ (x3_1 : Int) := of_decide_eq_true (by (with_reducible assumption))
     have q140 : x3_1 < (l0.length : Int) := of_decide_eq_true (by (with_reducible assumption))
     obtain ⟨ad140, e140, hx140_0, hx140_1, hx140_2⟩ := at_T43 HR0.out x3_1 p140 q140
     cases e140
     replace p140 := eq_true p140
     replace q140 := eq_true q140
     go_wp2
     repeat (go_quiet (fail); try go_wp2)
     go_meet
     case rel => exact ⟨_, (true), (by rfl), H', ⟨by have := HK1.out; omega⟩, by repeat (first | exact Drawn0.refl _ | apply Drawn0.step)⟩
    rw [if_neg c5] at H
    have c5b0 : decide (((rd_T43 l0 x3_1).f2) < 1) = false := decide_eq_false c5
    clear c5
    by_cases c6 : ((rd_T43 l0 x3_1).f2) > 3
    ·
     rw [if_pos c6] at H
     have c6b0 : decide (3 < ((rd_T43 l0 x3_1).f2)) = true := decide_eq_true c6
     clear c6
     have H' := Aside0.mk H
     clear H
     have p140 : 0 ≤ (x3_1 : Int) := of_decide_eq_true (by (with_reducible assumption))
     have q140 : x3_1 < (l0.length : Int) := of_decide_eq_true (by (with_reducible assumption))
     obtain ⟨ad140, e140, hx140_0, hx140_1, hx140_2⟩ := at_T43 HR0.out x3_1 p140 q140
     cases e140
     replace p140 := eq_true p140
     replace q140 := eq_true q140
     have p141 : 0 ≤ (x3_1 : Int) := of_decide_eq_true (by (with_reducible assumption))
     have q141 : x3_1 < (l0.length : Int) := of_decide_eq_true (by (with_reducible assumption))
     obtain ⟨ad141, e141, hx141_0, hx141_1, hx141_2⟩ := at_T43 HR0.out x3_1 p141 q141
     obtain rfl : ad140 = ad141 := (by injection e141)
     replace p141 := eq_true p141
     replace q141 := eq_true q141
     go_wp2
     repeat (go_quiet (fail); try go_wp2)
     go_meet
     case rel => exact ⟨_, (true), (by rfl), H', ⟨by have := HK1.out; omega⟩, by repeat (first | exact Drawn0.refl _ | apply Drawn0.step)⟩
    rw [if_neg c6] at H
    have c6b0 : decide (3 < ((rd_T43 l0 x3_1).f2)) = false := decide_eq_false c6
    clear c6
    by_cases c7 : ((rd_T43 l0 x3_1).f0) < 1
    ·
     rw [if_pos c7] at H
     have c7b0 : decide (((rd_T43 l0 x3_1).f0) < 1) = true := decide_eq_true c7
     clear c7
     have H' := Aside0.mk H
     clear H
     have p140 : 0 ≤ (x3_1 : Int) := of_decide_eq_true (by (with_reducible assumption))
     have q140 : x3_1 < (l0.length : Int) := of_decide_eq_true (by (with_reducible assumption))
     obtain ⟨ad140, e140, hx140_0, hx140_1, hx140_2⟩ := at_T43 HR0.out x3_1 p140 q140
     cases e140
     replace p140 := eq_true p140
     replace q140 := eq_true q140
     have p141 : 0 ≤ (x3_1 : Int) := of_decide_eq_true (by (with_reducible assumption))
     have q141 : x3_1 < (l0.length : Int) := of_decide_eq_true (by (with_reducible assumption))
     obtain ⟨ad141, e141, hx141_0, hx141_1, hx141_2⟩ := at_T43 HR0.out x3_1 p141 q141
     obtain rfl : ad140 = ad141 := (by injection e141)
     replace p141 := eq_true p141
     replace q141 := eq_true q141
     have p142 : 0 ≤ (x3_1 : Int) := of_decide_eq_true (by (with_reducible assumption))
     have q142 : x3_1 < (l0.length : Int) := of_decide_eq_true (by (with_reducible assumption))
     obtain ⟨ad142, e142, hx142_0, hx142_1, hx142_2⟩ := at_T43 HR0.out x3_1 p142 q142
     obtain rfl : ad140 = ad142 := (by injection e142)
     replace p142 := eq_true p142
     replace q142 := eq_true q142
     go_wp2
     repeat (go_quiet (fail); try go_wp2)
     go_meet
     case rel => exact ⟨_, (true), (by rfl), H', ⟨by have := HK1.out; omega⟩, by repeat (first | exact Drawn0.refl _ | apply Drawn0.step)⟩
    rw [if_neg c7] at H
    have c7b0 : decide (((rd_T43 l0 x3_1).f0) < 1) = false := decide_eq_false c7
    clear c7
    by_cases c8 : ((rd_T43 l0 x3_1).f1) < ((rd_T43 l0 x3_1).f0)
    ·
     rw [if_pos c8] at H
     have c8b0 : decide (((rd_T43 l0 x3_1).f1) < ((rd_T43 l0 x3_1).f0)) = true := decide_eq_true c8
     clear c8
     have H' := Aside0.mk H
     clear H
     have p140 : 0 ≤ (x3_1 : Int) := of_decide_eq_true (by (with_reducible assumption))
     have q140 : x3_1 < (l0.length : Int) := of_decide_eq_true (by (with_reducible assumption))
     obtain ⟨ad140, e140, hx140_0, hx140_1, hx140_2⟩ := at_T43 HR0.out x3_1 p140 q140
     cases e140
     replace p140 := eq_true p140
     replace q140 := eq_true q140
     have p141 : 0 ≤ (x3_1 : Int) := of_decide_eq_true (by (with_reducible assumption))
     have q141 : x3_1 < (l0.length : Int) := of_decide_eq_true (by (with_reducible assumption))
     obtain ⟨ad141, e141, hx141_0, hx141_1, hx141_2⟩ := at_T43 HR0.out x3_1 p141 q141
     obtain rfl : ad140 = ad141 := (by injection e141)
     replace p141 := eq_true p141
     replace q141 := eq_true q141
     have p142 : 0 ≤ (x3_1 : Int) := of_decide_eq_true (by (with_reducible assumption))
     have q142 : x3_1 < (l0.length : Int) := of_decide_eq_true (by (with_reducible assumption))
     obtain ⟨ad142, e142, hx142_0, hx142_1, hx142_2⟩ := at_T43 HR0.out x3_1 p142 q142
     obtain rfl : ad140 = ad142 := (by injection e142)
     replace p142 := eq_true p142
     replace q142 := eq_true q142
     have p143 : 0 ≤ (x3_1 : Int) := of_decide_eq_true (by (with_reducible assumption))
     have q143 : x3_1 < (l0.length : Int) := of_decide_eq_true (by (with_reducible assumption))
     obtain ⟨ad143, e143, hx143_0, hx143_1, hx143_2⟩ := at_T43 HR0.out x3_1 p143 q143
     obtain rfl : ad140 = ad143 := (by injection e143)
     replace p143 := eq_true p143
     replace q143 := eq_true q143
     have p144 : 0 ≤ (x3_1 : Int) := of_decide_eq_true (by (with_reducible assumption))
     have q144 : x3_1 < (l0.length : Int) := of_decide_eq_true (by (with_reducible assumption))
     obtain ⟨ad144, e144, hx144_0, hx144_1, hx144_2⟩ := at_T43 HR0.out x3_1 p144 q144
     obtain rfl : ad140 = ad144 := (by injection e144)
     replace p144 := eq_true p144
     replace q144 := eq_true q144
     go_wp2
     repeat (go_quiet (fail); try go_wp2)
     go_meet
     case rel => exact ⟨_, (true), (by rfl), H', ⟨by have := HK1.out; omega⟩, by repeat (first | exact Drawn0.refl _ | apply Drawn0.step)⟩
    rw [if_neg c8] at H
    have c8b0 : decide (((rd_T43 l0 x3_1).f1) < ((rd_T43 l0 x3_1).f0)) = false := decide_eq_false c8
    clear c8
    have H' := Aside0.mk H
    clear H
    have p140 : 0 ≤ (x3_1 : Int) := of_decide_eq_true (by (with_reducible assumption))
    have q140 : x3_1 < (l0.length : Int) := of_decide_eq_true (by (with_reducible assumption))
    obtain ⟨ad140, e140, hx140_0, hx140_1, hx140_2⟩ := at_T43 HR0.out x3_1 p140 q140
    cases e140
    replace p140 := eq_true p140
    replace q140 := eq_true q140
    have p141 : 0 ≤ (x3_1 : Int) := of_decide_eq_true (by (with_reducible assumption))
    have q141 : x3_1 < (l0.length : Int) := of_decide_eq_true (by (with_reducible assumption))
    obtain ⟨ad141, e141, hx141_0, hx141_1, hx141_2⟩ := at_T43 HR0.out x3_1 p141 q141
    obtain rfl : ad140 = ad141 := (by injection e141)
    replace p141 := eq_true p141
    replace q141 := eq_true q141
    have p142 : 0 ≤ (x3_1 : Int) := of_decide_eq_true (by (with_reducible assumption))
    have q142 : x3_1 < (l0.length : Int) := of_decide_eq_true (by (with_reducible assumption))
    obtain ⟨ad142, e142, hx142_0, hx142_1, hx142_2⟩ := at_T43 HR0.out x3_1 p142 q142
    obtain rfl : ad140 = ad142 := (by injection e142)
    replace p142 := eq_true p142
    replace q142 := eq_true q142
    have p143 : 0 ≤ (x3_1 : Int) := of_decide_eq_true (by (with_reducible assumption))
    have q143 : x3_1 < (l0.length : Int) := of_decide_eq_true (by (with_reducible assumption))
    obtain ⟨ad143, e143, hx143_0, hx143_1, hx143_2⟩ := at_T43 HR0.out x3_1 p143 q143
    obtain rfl : ad140 = ad143 := (by injection e143)
    replace p143 := eq_true p143
    replace q143 := eq_true q143
    have p144 : 0 ≤ (x3_1 : Int) := of_decide_eq_true (by (with_reducible assumption))
    have q144 : x3_1 < (l0.length : Int) := of_decide_eq_true (by (with_reducible assumption))
    obtain ⟨ad144, e144, hx144_0, hx144_1, hx144_2⟩ := at_T43 HR0.out x3_1 p144 q144
    obtain rfl : ad140 = ad144 := (by injection e144)
    replace p144 := eq_true p144
    replace q144 := eq_true q144
    have p145 : 0 ≤ (x3_1 : Int) := of_decide_eq_true (by (with_reducible assumption))
    have q145 : x3_1 < (l0.length : Int) := of_decide_eq_true (by (with_reducible assumption))
    obtain ⟨ad145, e145, hx145_0, hx145_1, hx145_2⟩ := at_T43 HR0.out x3_1 p145 q145
    obtain rfl : ad140 = ad145 := (by injection e145)
    replace p145 := eq_true p145
    replace q145 := eq_true q145
    go_wp2
    repeat (go_quiet (fail); try go_wp2)
    go_meet
    case rel => exact ⟨_, (decide (((rd_T43 l0 x3_1).f1) > 1099511627776)), (by rfl), H', ⟨by have := HK1.out; omega⟩, by repeat (first | exact Drawn0.refl _ | apply Drawn0.step)⟩
   rw [if_neg c4] at H
   exact absurd H (by simp)
  case rest =>
  clear HC3
  repeat (go_quiet (fail); try go_wp2)
  repeat (go_quiet (fail); try go_wp2)
  repeat (go_quiet (fail); try go_wp2)
  repeat (go_quiet (fail); try go_wp2)
  try clear c2b0
  repeat (go_quiet (fail); try go_wp2)
  repeat (go_quiet (fail); try go_wp2)
  repeat (go_quiet (fail); try go_wp2)
  repeat (go_quiet (fail); try go_wp2)
  repeat (go_quiet (fail); try go_wp2)
  repeat (go_quiet (fail); try go_wp2)
  repeat (go_quiet (fail); try go_wp2)
  repeat (go_quiet (fail); try go_wp2)
  repeat (go_quiet (fail); try go_wp2)
  repeat (go_quiet (fail); try go_wp2)
  repeat (go_quiet (fail); try go_wp2)
  repeat (go_quiet (fail); try go_wp2)
  repeat (go_quiet (fail); try go_wp2)
  repeat (go_quiet (fail); try go_wp2)
  repeat (go_quiet (fail); try go_wp2)
  repeat (go_quiet (fail); try go_wp2)
  repeat (go_quiet (fail); try go_wp2)
  repeat (go_quiet (fail); try go_wp2)
  repeat (go_quiet (fail); try go_wp2)
  repeat (go_quiet (fail); try go_wp2)
  repeat (go_quiet (fail); try go_wp2)
  repeat (go_quiet (fail); try go_wp2)
  repeat (go_quiet (fail); try go_wp2)
  repeat (go_quiet (fail); try go_wp2)
  repeat (go_quiet (fail); try go_wp2)
  repeat (go_quiet (fail); try go_wp2)
  repeat (go_quiet (fail); try go_wp2)
  repeat (go_quiet (fail); try go_wp2)
  repeat (go_quiet (fail); try go_wp2)
  repeat (go_quiet (fail); try go_wp2)
  repeat (go_quiet (fail); try go_wp2)
  repeat (go_quiet (fail); try go_wp2)
  repeat (go_quiet (fail); try go_wp2)
  repeat (go_quiet (fail); try go_wp2)
  repeat (go_quiet (fail); try go_wp2)
  repeat (go_quiet (fail); try go_wp2)
  repeat (go_quiet (fail); try go_wp2)
  repeat (go_quiet (fail); try go_wp2)
  repeat (go_quiet (fail); try go_wp2)
  repeat (go_quiet (fail); try go_wp2)
  repeat (go_quiet (fail); try go_wp2)
  repeat (go_quiet (fail); try go_wp2)
  obtain ⟨kq, x52_2, rfl, HA, HJ2, ⟨mc2, rfl⟩⟩ := hcut
  cases kq with
  | zero => exact absurd HA.out (by simp [grapevineref08_Right.j1])
  | succ kj2 =>
  have H := HA.out
  clear HA
  simp only [grapevineref08_Right.j1] at H
  by_cases c9 : x52_2 = true
  ·
   subst c9
   have H1 : (some false) = some r := by rw [if_pos rfl] at H; exact H
   clear H
   have H := H1
   clear H1
   obtain rfl := Option.some.inj H
   go_wp2
   repeat (go_quiet (fail); try go_wp2)
   go_ret
   exact ⟨by rfl, by repeat (first | exact Drawn0.refl _ | apply Drawn0.step)⟩
  replace c9 := Bool.eq_false_iff.mpr c9
  subst c9
  have H1 : (if x3_1 > 0 then (if 0 ≤ x3_1 then (if x3_1 < (l0.length : Int) then (if 0 ≤ (wrap64 (x3_1 - 1)) then (if (wrap64 (x3_1 - 1)) < (l0.length : Int) then (if ((rd_T43 l0 x3_1).f0) ≤ ((rd_T43 l0 (wrap64 (x3_1 - 1))).f1) then (some false) else (if (wrap64 (((rd_T43 l0 x3_1).f0) - 1)) = ((rd_T43 l0 (wrap64 (x3_1 - 1))).f1) then (if ((rd_T43 l0 x3_1).f2) = ((rd_T43 l0 (wrap64 (x3_1 - 1))).f2) then (some false) else (grapevineref08_Right.l0 kj2 l0 (wrap64 (x3_1 + 1)))) else (grapevineref08_Right.l0 kj2 l0 (wrap64 (x3_1 + 1))))) else (none)) else (none)) else (none)) else (none)) else (grapevineref08_Right.l0 kj2 l0 (wrap64 (x3_1 + 1)))) = some r := by rw [if_neg (show ¬ (false = true) by decide)] at H; exact H
  clear H
  have H := H1
  clear H1
  by_cases c10 : x3_1 > 0
  ·
   rw [if_pos c10] at H
   have c10b0 : decide (0 < x3_1) = true := decide_eq_true c10
   clear c10
   by_cases c11 : 0 ≤ x3_1
   ·
    rw [if_pos c11] at H
    have c11b0 : decide (0 ≤ x3_1) = true := decide_eq_true c11
    clear c11
    by_cases c12 : x3_1 < (l0.length : Int)
    ·
     rw [if_pos c12] at H
     have c12b0 : decide (x3_1 < (l0.length : Int)) = true := decide_eq_true c12
     clear c12
     obtain ⟨ji13, hji13⟩ : ∃ j_ : Int, (wrap64 (x3_1 - 1)) = j_ := ⟨_, rfl⟩
     replace H : (if 0 ≤ (ji13) then (if (ji13) < (l0.length : Int) then (if ((rd_T43 l0 x3_1).f0) ≤ ((rd_T43 l0 (ji13)).f1) then (some false) else (if (wrap64 (((rd_T43 l0 x3_1).f0) - 1)) = ((rd_T43 l0 (ji13)).f1) then (if ((rd_T43 l0 x3_1).f2) = ((rd_T43 l0 (ji13)).f2) then (some false) else (grapevineref08_Right.l0 kj2 l0 (wrap64 (x3_1 + 1)))) else (grapevineref08_Right.l0 kj2 l0 (wrap64 (x3_1 + 1))))) else (none)) else (none)) = some r := by (rw [hji13] at H; exact H)
     have hji13w : (IntKind.i64.wrap (x3_1 - 1)) = ji13 := (i64_w _).trans hji13
     by_cases c14 : 0 ≤ (ji13)
     ·
      rw [if_pos c14] at H
      have c14b0 : decide (0 ≤ (ji13)) = true := decide_eq_true c14
      clear c14
      by_cases c15 : (ji13) < (l0.length : Int)
      ·
       rw [if_pos c15] at H
       have c15b0 : decide ((ji13) < (l0.length : Int)) = true := decide_eq_true c15
       clear c15
       by_cases c16 : ((rd_T43 l0 x3_1).f0) ≤ ((rd_T43 l0 (ji13)).f1)
       ·
        rw [if_pos c16] at H
        have c16b0 : decide (((rd_T43 l0 x3_1).f0) ≤ ((rd_T43 l0 (ji13)).f1)) = true := decide_eq_true c16
        clear c16
        obtain rfl := Option.some.inj H
        have p146 : 0 ≤ (x3_1 : Int) := of_decide_eq_true (by (with_reducible assumption))
        have q146 : x3_1 < (l0.length : Int) := of_decide_eq_true (by (with_reducible assumption))
        obtain ⟨ad146, e146, hx146_0, hx146_1, hx146_2⟩ := at_T43 HR0.out x3_1 p146 q146
        cases e146
        replace p146 := eq_true p146
        replace q146 := eq_true q146
        have p147 : 0 ≤ ((ji13) : Int) := of_decide_eq_true (by (with_reducible assumption))
        have q147 : (ji13) < (l0.length : Int) := of_decide_eq_true (by (with_reducible assumption))
        obtain ⟨ad147, e147, hx147_0, hx147_1, hx147_2⟩ := at_T43 HR0.out (ji13) p147 q147
        obtain rfl : ad146 = ad147 := (by injection e147)
        replace p147 := eq_true p147
        replace q147 := eq_true q147
        go_wp2
        repeat (go_quiet (fail); try go_wp2)
        go_ret
        exact ⟨by rfl, by repeat (first | exact Drawn0.refl _ | apply Drawn0.step)⟩
       rw [if_neg c16] at H
       have c16b0 : decide (((rd_T43 l0 x3_1).f0) ≤ ((rd_T43 l0 (ji13)).f1)) = false := decide_eq_false c16
       clear c16
       by_cases c17 : (wrap64 (((rd_T43 l0 x3_1).f0) - 1)) = ((rd_T43 l0 (ji13)).f1)
       ·
        rw [if_pos c17] at H
        have c17b0 : ((wrap64 (((rd_T43 l0 x3_1).f0) - 1)) == ((rd_T43 l0 (ji13)).f1)) = true := beq_iff_eq.mpr c17
        have c17b1 : ((wrap64 (((rd_T43 l0 x3_1).f0) - 1)) != ((rd_T43 l0 (ji13)).f1)) = false := bne_eq_false_iff_eq.mpr c17
        clear c17
        by_cases c18 : ((rd_T43 l0 x3_1).f2) = ((rd_T43 l0 (ji13)).f2)
        ·
         rw [if_pos c18] at H
         have c18b0 : (((rd_T43 l0 x3_1).f2) == ((rd_T43 l0 (ji13)).f2)) = true := beq_iff_eq.mpr c18
         have c18b1 : (((rd_T43 l0 x3_1).f2) != ((rd_T43 l0 (ji13)).f2)) = false := bne_eq_false_iff_eq.mpr c18
         clear c18
         obtain rfl := Option.some.inj H
         have p146 : 0 ≤ (x3_1 : Int) := of_decide_eq_true (by (with_reducible assumption))
         have q146 : x3_1 < (l0.length : Int) := of_decide_eq_true (by (with_reducible assumption))
         obtain ⟨ad146, e146, hx146_0, hx146_1, hx146_2⟩ := at_T43 HR0.out x3_1 p146 q146
         cases e146
         replace p146 := eq_true p146
         replace q146 := eq_true q146
         have p147 : 0 ≤ ((ji13) : Int) := of_decide_eq_true (by (with_reducible assumption))
         have q147 : (ji13) < (l0.length : Int) := of_decide_eq_true (by (with_reducible assumption))
         obtain ⟨ad147, e147, hx147_0, hx147_1, hx147_2⟩ := at_T43 HR0.out (ji13) p147 q147
         obtain rfl : ad146 = ad147 := (by injection e147)
         replace p147 := eq_true p147
         replace q147 := eq_true q147
         have p148 : 0 ≤ (x3_1 : Int) := of_decide_eq_true (by (with_reducible assumption))
         have q148 : x3_1 < (l0.length : Int) := of_decide_eq_true (by (with_reducible assumption))
         obtain ⟨ad148, e148, hx148_0, hx148_1, hx148_2⟩ := at_T43 HR0.out x3_1 p148 q148
         obtain rfl : ad146 = ad148 := (by injection e148)
         replace p148 := eq_true p148
         replace q148 := eq_true q148
         have p149 : 0 ≤ ((ji13) : Int) := of_decide_eq_true (by (with_reducible assumption))
         have q149 : (ji13) < (l0.length : Int) := of_decide_eq_true (by (with_reducible assumption))
         obtain ⟨ad149, e149, hx149_0, hx149_1, hx149_2⟩ := at_T43 HR0.out (ji13) p149 q149
         obtain rfl : ad146 = ad149 := (by injection e149)
         replace p149 := eq_true p149
         replace q149 := eq_true q149
         have p150 : 0 ≤ (x3_1 : Int) := of_decide_eq_true (by (with_reducible assumption))
         have q150 : x3_1 < (l0.length : Int) := of_decide_eq_true (by (with_reducible assumption))
         obtain ⟨ad150, e150, hx150_0, hx150_1, hx150_2⟩ := at_T43 HR0.out x3_1 p150 q150
         obtain rfl : ad146 = ad150 := (by injection e150)
         replace p150 := eq_true p150
         replace q150 := eq_true q150
         have p151 : 0 ≤ ((ji13) : Int) := of_decide_eq_true (by (with_reducible assumption))
         have q151 : (ji13) < (l0.length : Int) := of_decide_eq_true (by (with_reducible assumption))
         obtain ⟨ad151, e151, hx151_0, hx151_1, hx151_2⟩ := at_T43 HR0.out (ji13) p151 q151
         obtain rfl : ad146 = ad151 := (by injection e151)
         replace p151 := eq_true p151
         replace q151 := eq_true q151
         go_wp2
         repeat (go_quiet (fail); try go_wp2)
         go_ret
         exact ⟨by rfl, by repeat (first | exact Drawn0.refl _ | apply Drawn0.step)⟩
        rw [if_neg c18] at H
        have c18b0 : (((rd_T43 l0 x3_1).f2) == ((rd_T43 l0 (ji13)).f2)) = false := beq_eq_false_iff_ne.mpr c18
        have c18b1 : (((rd_T43 l0 x3_1).f2) != ((rd_T43 l0 (ji13)).f2)) = true := bne_iff_ne.mpr c18
        have H' := Aside0.mk H
        clear H
        have p146 : 0 ≤ (x3_1 : Int) := of_decide_eq_true (by (with_reducible assumption))
        have q146 : x3_1 < (l0.length : Int) := of_decide_eq_true (by (with_reducible assumption))
        obtain ⟨ad146, e146, hx146_0, hx146_1, hx146_2⟩ := at_T43 HR0.out x3_1 p146 q146
        cases e146
        replace p146 := eq_true p146
        replace q146 := eq_true q146
        have p147 : 0 ≤ ((ji13) : Int) := of_decide_eq_true (by (with_reducible assumption))
        have q147 : (ji13) < (l0.length : Int) := of_decide_eq_true (by (with_reducible assumption))
        obtain ⟨ad147, e147, hx147_0, hx147_1, hx147_2⟩ := at_T43 HR0.out (ji13) p147 q147
        obtain rfl : ad146 = ad147 := (by injection e147)
        replace p147 := eq_true p147
        replace q147 := eq_true q147
        have p148 : 0 ≤ (x3_1 : Int) := of_decide_eq_true (by (with_reducible assumption))
        have q148 : x3_1 < (l0.length : Int) := of_decide_eq_true (by (with_reducible assumption))
        obtain ⟨ad148, e148, hx148_0, hx148_1, hx148_2⟩ := at_T43 HR0.out x3_1 p148 q148
        obtain rfl : ad146 = ad148 := (by injection e148)
        replace p148 := eq_true p148
        replace q148 := eq_true q148
        have p149 : 0 ≤ ((ji13) : Int) := of_decide_eq_true (by (with_reducible assumption))
        have q149 : (ji13) < (l0.length : Int) := of_decide_eq_true (by (with_reducible assumption))
        obtain ⟨ad149, e149, hx149_0, hx149_1, hx149_2⟩ := at_T43 HR0.out (ji13) p149 q149
        obtain rfl : ad146 = ad149 := (by injection e149)
        replace p149 := eq_true p149
        replace q149 := eq_true q149
        have p150 : 0 ≤ (x3_1 : Int) := of_decide_eq_true (by (with_reducible assumption))
        have q150 : x3_1 < (l0.length : Int) := of_decide_eq_true (by (with_reducible assumption))
        obtain ⟨ad150, e150, hx150_0, hx150_1, hx150_2⟩ := at_T43 HR0.out x3_1 p150 q150
        obtain rfl : ad146 = ad150 := (by injection e150)
        replace p150 := eq_true p150
        replace q150 := eq_true q150
        have p151 : 0 ≤ ((ji13) : Int) := of_decide_eq_true (by (with_reducible assumption))
        have q151 : (ji13) < (l0.length : Int) := of_decide_eq_true (by (with_reducible assumption))
        obtain ⟨ad151, e151, hx151_0, hx151_1, hx151_2⟩ := at_T43 HR0.out (ji13) p151 q151
        obtain rfl : ad146 = ad151 := (by injection e151)
        replace p151 := eq_true p151
        replace q151 := eq_true q151
        go_wp2
        repeat (go_quiet (fail); try go_wp2)
        go_roundg kj2
        case measure => have := HK1.out; have := HJ2.out; omega
        case rel => exact ⟨(wrap64 (x3_1 + 1)), (by rfl), H', ⟨by have := HK1.out; have := HJ2.out; omega⟩, by repeat (first | exact Drawn0.refl _ | apply Drawn0.step)⟩
       rw [if_neg c17] at H
       have c17b0 : ((wrap64 (((rd_T43 l0 x3_1).f0) - 1)) == ((rd_T43 l0 (ji13)).f1)) = false := beq_eq_false_iff_ne.mpr c17
       have c17b1 : ((wrap64 (((rd_T43 l0 x3_1).f0) - 1)) != ((rd_T43 l0 (ji13)).f1)) = true := bne_iff_ne.mpr c17
       have H' := Aside0.mk H
       clear H
       have p146 : 0 ≤ (x3_1 : Int) := of_decide_eq_true (by (with_reducible assumption))
       have q146 : x3_1 < (l0.length : Int) := of_decide_eq_true (by (with_reducible assumption))
       obtain ⟨ad146, e146, hx146_0, hx146_1, hx146_2⟩ := at_T43 HR0.out x3_1 p146 q146
       cases e146
       replace p146 := eq_true p146
       replace q146 := eq_true q146
       have p147 : 0 ≤ ((ji13) : Int) := of_decide_eq_true (by (with_reducible assumption))
       have q147 : (ji13) < (l0.length : Int) := of_decide_eq_true (by (with_reducible assumption))
       obtain ⟨ad147, e147, hx147_0, hx147_1, hx147_2⟩ := at_T43 HR0.out (ji13) p147 q147
       obtain rfl : ad146 = ad147 := (by injection e147)
       replace p147 := eq_true p147
       replace q147 := eq_true q147
       have p148 : 0 ≤ (x3_1 : Int) := of_decide_eq_true (by (with_reducible assumption))
       have q148 : x3_1 < (l0.length : Int) := of_decide_eq_true (by (with_reducible assumption))
       obtain ⟨ad148, e148, hx148_0, hx148_1, hx148_2⟩ := at_T43 HR0.out x3_1 p148 q148
       obtain rfl : ad146 = ad148 := (by injection e148)
       replace p148 := eq_true p148
       replace q148 := eq_true q148
       have p149 : 0 ≤ ((ji13) : Int) := of_decide_eq_true (by (with_reducible assumption))
       have q149 : (ji13) < (l0.length : Int) := of_decide_eq_true (by (with_reducible assumption))
       obtain ⟨ad149, e149, hx149_0, hx149_1, hx149_2⟩ := at_T43 HR0.out (ji13) p149 q149
       obtain rfl : ad146 = ad149 := (by injection e149)
       replace p149 := eq_true p149
       replace q149 := eq_true q149
       go_wp2
       repeat (go_quiet (fail); try go_wp2)
       go_roundg kj2
       case measure => have := HK1.out; have := HJ2.out; omega
       case rel => exact ⟨(wrap64 (x3_1 + 1)), (by rfl), H', ⟨by have := HK1.out; have := HJ2.out; omega⟩, by repeat (first | exact Drawn0.refl _ | apply Drawn0.step)⟩
      rw [if_neg c15] at H
      exact absurd H (by simp)
     rw [if_neg c14] at H
     exact absurd H (by simp)
    rw [if_neg c12] at H
    exact absurd H (by simp)
   rw [if_neg c11] at H
   exact absurd H (by simp)
  rw [if_neg c10] at H
  have c10b0 : decide (0 < x3_1) = false := decide_eq_false c10
  clear c10
  have H' := Aside0.mk H
  clear H
  go_wp2
  repeat (go_quiet (fail); try go_wp2)
  go_roundg kj2
  case measure => have := HK1.out; have := HJ2.out; omega
  case rel => exact ⟨(wrap64 (x3_1 + 1)), (by rfl), H', ⟨by have := HK1.out; have := HJ2.out; omega⟩, by repeat (first | exact Drawn0.refl _ | apply Drawn0.step)⟩
 rw [if_neg c2] at H
 have c2b0 : decide (x3_1 < (l0.length : Int)) = false := decide_eq_false c2
 clear c2
 obtain rfl := Option.some.inj H
 go_wp2
 repeat (go_quiet (fail); try go_wp2)
 go_ret
 exact ⟨by rfl, by repeat (first | exact Drawn0.refl _ | apply Drawn0.step)⟩
/-! ### grapevineref08_At: function 35 -/
def grapevineref08_At.l0 : Nat → List (S43) → Int → Int → Option (Int)
 | 0, _, _, _ => none
 | k + 1, x0, x1, x5 => if x5 < (x0.length : Int) then (if 0 ≤ x5 then (if ((rd_T43 x0 x5).f0) ≤ x1 then (if x1 ≤ ((rd_T43 x0 x5).f1) then (some ((rd_T43 x0 x5).f2)) else (grapevineref08_At.l0 k x0 x1 (wrap64 (x5 + 1)))) else (grapevineref08_At.l0 k x0 x1 (wrap64 (x5 + 1)))) else (none)) else (some 0)
def grapevineref08_At.f (k : Nat) (l0 : List (S43)) (a1 : Int) : Option (Int) := grapevineref08_At.l0 k l0 a1 0
set_option maxHeartbeats 8000000 in
set_option maxRecDepth 100000 in
theorem grapevineref08_At.calls (k : Nat) (A0 : Option Addr) (c0 : Nat) (l0 : List (S43)) (a1 : Int) (r : Int) (w : World) (hr0 : Kd.C k43 w A0 l0.length l0) (hc0 : l0.length ≤ c0) (h : grapevineref08_At.f k l0 a1 = some r) :
 Calls Try.prog 35 #[.slice A0 l0.length c0, .int .i64 a1] w fun e w' => e = .returned (.int .i64 r) ∧ Drawn0 w w' := by
 have HR0 := Aside0.mk hr0
 have HC0 := Aside0.mk hc0
 clear hr0 hc0
 have H : (grapevineref08_At.l0 k l0 a1 0) = some r := h
 clear h
 have H' := Aside0.mk H
 clear H
 go_enter Try.func35, Try.ntmps35
 go_wp2
 go_loopg [5] k (fun kq v5 w' => ∃ (x5_1 : Int), v5 = .int .i64 x5_1 ∧ Aside0 (grapevineref08_At.l0 kq l0 a1 x5_1 = some r) ∧ Aside0 (kq ≤ k) ∧ Drawn0 w w')
 case atStart => exact ⟨(0), (by rfl), H', ⟨Nat.le_refl _⟩, by repeat (exact Drawn0.refl _)⟩
 case round =>
 clear H'
 repeat (go_quiet (fail); try go_wp2)
 obtain ⟨x5_1, rfl, HA, HK1, ⟨m1, rfl⟩⟩ := hrel
 cases gk with
 | zero => exact absurd HA.out (by simp [grapevineref08_At.l0])
 | succ k1 =>
 have H := HA.out
 clear HA
 simp only [grapevineref08_At.l0] at H
 by_cases c3 : x5_1 < (l0.length : Int)
 ·
  rw [if_pos c3] at H
  have c3b0 : decide (x5_1 < (l0.length : Int)) = true := decide_eq_true c3
  clear c3
  by_cases c4 : 0 ≤ x5_1
  ·
   rw [if_pos c4] at H
   have c4b0 : decide (0 ≤ x5_1) = true := decide_eq_true c4
   clear c4
   by_cases c5 : ((rd_T43 l0 x5_1).f0) ≤ a1
   ·
    rw [if_pos c5] at H
    have c5b0 : decide (((rd_T43 l0 x5_1).f0) ≤ a1) = true := decide_eq_true c5
    clear c5
    by_cases c6 : a1 ≤ ((rd_T43 l0 x5_1).f1)
    ·
     rw [if_pos c6] at H
     have c6b0 : decide (a1 ≤ ((rd_T43 l0 x5_1).f1)) = true := decide_eq_true c6
     clear c6
     obtain rfl := Option.some.inj H
     have p152 : 0 ≤ (x5_1 : Int) := of_decide_eq_true (by (with_reducible assumption))
     have q152 : x5_1 < (l0.length : Int) := of_decide_eq_true (by (with_reducible assumption))
     obtain ⟨ad152, e152, hx152_0, hx152_1, hx152_2⟩ := at_T43 HR0.out x5_1 p152 q152
     cases e152
     replace p152 := eq_true p152
     replace q152 := eq_true q152
     have p153 : 0 ≤ (x5_1 : Int) := of_decide_eq_true (by (with_reducible assumption))
     have q153 : x5_1 < (l0.length : Int) := of_decide_eq_true (by (with_reducible assumption))
     obtain ⟨ad153, e153, hx153_0, hx153_1, hx153_2⟩ := at_T43 HR0.out x5_1 p153 q153
     obtain rfl : ad152 = ad153 := (by injection e153)
     replace p153 := eq_true p153
     replace q153 := eq_true q153
     have p154 : 0 ≤ (x5_1 : Int) := of_decide_eq_true (by (with_reducible assumption))
     have q154 : x5_1 < (l0.length : Int) := of_decide_eq_true (by (with_reducible assumption))
     obtain ⟨ad154, e154, hx154_0, hx154_1, hx154_2⟩ := at_T43 HR0.out x5_1 p154 q154
     obtain rfl : ad152 = ad154 := (by injection e154)
     replace p154 := eq_true p154
     replace q154 := eq_true q154
     go_wp2
     go_ret
     exact ⟨by rfl, by repeat (first | exact Drawn0.refl _ | apply Drawn0.step)⟩
    rw [if_neg c6] at H
    have c6b0 : decide (a1 ≤ ((rd_T43 l0 x5_1).f1)) = false := decide_eq_false c6
    clear c6
    have H' := Aside0.mk H
    clear H
    have p152 : 0 ≤ (x5_1 : Int) := of_decide_eq_true (by (with_reducible assumption))
    have q152 : x5_1 < (l0.length : Int) := of_decide_eq_true (by (with_reducible assumption))
    obtain ⟨ad152, e152, hx152_0, hx152_1, hx152_2⟩ := at_T43 HR0.out x5_1 p152 q152
    cases e152
    replace p152 := eq_true p152
    replace q152 := eq_true q152
    have p153 : 0 ≤ (x5_1 : Int) := of_decide_eq_true (by (with_reducible assumption))
    have q153 : x5_1 < (l0.length : Int) := of_decide_eq_true (by (with_reducible assumption))
    obtain ⟨ad153, e153, hx153_0, hx153_1, hx153_2⟩ := at_T43 HR0.out x5_1 p153 q153
    obtain rfl : ad152 = ad153 := (by injection e153)
    replace p153 := eq_true p153
    replace q153 := eq_true q153
    go_wp2
    go_roundg k1
    case measure => have := HK1.out; omega
    case rel => exact ⟨(wrap64 (x5_1 + 1)), (by rfl), H', ⟨by have := HK1.out; omega⟩, by repeat (first | exact Drawn0.refl _ | apply Drawn0.step)⟩
   rw [if_neg c5] at H
   have c5b0 : decide (((rd_T43 l0 x5_1).f0) ≤ a1) = false := decide_eq_false c5
   clear c5
   have H' := Aside0.mk H
   clear H
   have p152 : 0 ≤ (x5_1 : Int) := of_decide_eq_true (by (with_reducible assumption))
   have q152 : x5_1 < (l0.length : Int) := of_decide_eq_true (by (with_reducible assumption))
   obtain ⟨ad152, e152, hx152_0, hx152_1, hx152_2⟩ := at_T43 HR0.out x5_1 p152 q152
   cases e152
   replace p152 := eq_true p152
   replace q152 := eq_true q152
   go_wp2
   go_roundg k1
   case measure => have := HK1.out; omega
   case rel => exact ⟨(wrap64 (x5_1 + 1)), (by rfl), H', ⟨by have := HK1.out; omega⟩, by repeat (first | exact Drawn0.refl _ | apply Drawn0.step)⟩
  rw [if_neg c4] at H
  exact absurd H (by simp)
 rw [if_neg c3] at H
 have c3b0 : decide (x5_1 < (l0.length : Int)) = false := decide_eq_false c3
 clear c3
 obtain rfl := Option.some.inj H
 go_wp2
 go_ret
 exact ⟨by rfl, by repeat (first | exact Drawn0.refl _ | apply Drawn0.step)⟩
/-! ### grapevineref13_ranged: function 68 -/
def grapevineref13_ranged.f (a0 : Int) : Option (Bool) := if a0 = 1 then (some true) else (some (a0 == 2))
set_option maxHeartbeats 8000000 in
set_option maxRecDepth 100000 in
theorem grapevineref13_ranged.calls (a0 : Int) (r : Bool) (w : World) (h : grapevineref13_ranged.f a0 = some r) :
 Calls Try.prog 68 #[.int .i64 a0] w fun e w' => e = .returned (.bool r) ∧ Drawn0 w w' := by
 have H : (if a0 = 1 then (some true) else (some (a0 == 2))) = some r := h
 clear h
 by_cases c2 : a0 = 1
 ·
  rw [if_pos c2] at H
  have c2b0 : (a0 == 1) = true := beq_iff_eq.mpr c2
  have c2b1 : (a0 != 1) = false := bne_eq_false_iff_eq.mpr c2
  clear c2
  obtain rfl := Option.some.inj H
  go_enter Try.func68, Try.ntmps68
  go_wp2
  go_ret
  exact ⟨by rfl, by repeat (first | exact Drawn0.refl _ | apply Drawn0.step)⟩
 rw [if_neg c2] at H
 have c2b0 : (a0 == 1) = false := beq_eq_false_iff_ne.mpr c2
 have c2b1 : (a0 != 1) = true := bne_iff_ne.mpr c2
 obtain rfl := Option.some.inj H
 go_enter Try.func68, Try.ntmps68
 go_wp2
 go_ret
 exact ⟨by rfl, by repeat (first | exact Drawn0.refl _ | apply Drawn0.step)⟩
/-! ### grapevineref13_named: function 69 -/
def grapevineref13_named.f (a0 : Int) : Option (Bool) := if a0 = 3 then (some true) else (if a0 = 4 then (some true) else (if a0 = 5 then (some true) else (some (a0 == 6))))
set_option maxHeartbeats 8000000 in
set_option maxRecDepth 100000 in
theorem grapevineref13_named.calls (a0 : Int) (r : Bool) (w : World) (h : grapevineref13_named.f a0 = some r) :
 Calls Try.prog 69 #[.int .i64 a0] w fun e w' => e = .returned (.bool r) ∧ Drawn0 w w' := by
 have H : (if a0 = 3 then (some true) else (if a0 = 4 then (some true) else (if a0 = 5 then (some true) else (some (a0 == 6))))) = some r := h
 clear h
 by_cases c2 : a0 = 3
 ·
  rw [if_pos c2] at H
  have c2b0 : (a0 == 3) = true := beq_iff_eq.mpr c2
  have c2b1 : (a0 != 3) = false := bne_eq_false_iff_eq.mpr c2
  clear c2
  obtain rfl := Option.some.inj H
  go_enter Try.func69, Try.ntmps69
  go_wp2
  go_ret
  exact ⟨by rfl, by repeat (first | exact Drawn0.refl _ | apply Drawn0.step)⟩
 rw [if_neg c2] at H
 have c2b0 : (a0 == 3) = false := beq_eq_false_iff_ne.mpr c2
 have c2b1 : (a0 != 3) = true := bne_iff_ne.mpr c2
 by_cases c3 : a0 = 4
 ·
  rw [if_pos c3] at H
  have c3b0 : (a0 == 4) = true := beq_iff_eq.mpr c3
  have c3b1 : (a0 != 4) = false := bne_eq_false_iff_eq.mpr c3
  clear c3
  obtain rfl := Option.some.inj H
  go_enter Try.func69, Try.ntmps69
  go_wp2
  go_ret
  exact ⟨by rfl, by repeat (first | exact Drawn0.refl _ | apply Drawn0.step)⟩
 rw [if_neg c3] at H
 have c3b0 : (a0 == 4) = false := beq_eq_false_iff_ne.mpr c3
 have c3b1 : (a0 != 4) = true := bne_iff_ne.mpr c3
 by_cases c4 : a0 = 5
 ·
  rw [if_pos c4] at H
  have c4b0 : (a0 == 5) = true := beq_iff_eq.mpr c4
  have c4b1 : (a0 != 5) = false := bne_eq_false_iff_eq.mpr c4
  clear c4
  obtain rfl := Option.some.inj H
  go_enter Try.func69, Try.ntmps69
  go_wp2
  go_ret
  exact ⟨by rfl, by repeat (first | exact Drawn0.refl _ | apply Drawn0.step)⟩
 rw [if_neg c4] at H
 have c4b0 : (a0 == 5) = false := beq_eq_false_iff_ne.mpr c4
 have c4b1 : (a0 != 5) = true := bne_iff_ne.mpr c4
 obtain rfl := Option.some.inj H
 go_enter Try.func69, Try.ntmps69
 go_wp2
 go_ret
 exact ⟨by rfl, by repeat (first | exact Drawn0.refl _ | apply Drawn0.step)⟩
/-! ### grapevineref13_from: function 70 -/
def grapevineref13_from.f (a0 : Int) : Option (Bool) := (grapevineref13_ranged.f a0).bind fun t155 => (if t155 = true then (some true) else (if a0 = 3 then (some true) else (some (a0 == 5))))
set_option maxHeartbeats 8000000 in
set_option maxRecDepth 100000 in
theorem grapevineref13_from.calls (a0 : Int) (r : Bool) (w : World) (h : grapevineref13_from.f a0 = some r) :
 Calls Try.prog 70 #[.int .i64 a0] w fun e w' => e = .returned (.bool r) ∧ Drawn0 w w' := by
 have H : ((grapevineref13_ranged.f a0).bind fun t155 => (if t155 = true then (some true) else (if a0 = 3 then (some true) else (some (a0 == 5))))) = some r := h
 clear h
 replace H := Option.bind_eq_some_iff.mp H
 obtain ⟨t155, A20, H⟩ := H
 replace H : (if t155 = true then (some true) else (if a0 = 3 then (some true) else (some (a0 == 5)))) = some r := H
 have A2 := Aside0.mk A20
 clear A20
 by_cases c3 : t155 = true
 ·
  subst c3
  have H1 : (some true) = some r := by rw [if_pos rfl] at H; exact H
  clear H
  have H := H1
  clear H1
  obtain rfl := Option.some.inj H
  go_enter Try.func70, Try.ntmps70
  go_wp2_with (((with_reducible refine gate_callee (f := 68) rfl ?_); refine goesL_ (some 4) rfl rfl Try.func68 (by kernel_rfl) rfl #[.int .i64 a0] rfl (by (try simp only [List.map_toArray, List.map_cons, List.map_nil]); rfl) ?_; (with_reducible refine (grapevineref13_ranged.calls a0 true _ A2.out).mono ?_); rintro e w' ⟨rfl, ⟨nd, rfl⟩⟩; refine ⟨_, rfl, ?_⟩))
  go_ret
  exact ⟨by rfl, by repeat (first | exact Drawn0.refl _ | apply Drawn0.step)⟩
 replace c3 := Bool.eq_false_iff.mpr c3
 subst c3
 have H1 : (if a0 = 3 then (some true) else (some (a0 == 5))) = some r := by rw [if_neg (show ¬ (false = true) by decide)] at H; exact H
 clear H
 have H := H1
 clear H1
 by_cases c4 : a0 = 3
 ·
  rw [if_pos c4] at H
  have c4b0 : (a0 == 3) = true := beq_iff_eq.mpr c4
  have c4b1 : (a0 != 3) = false := bne_eq_false_iff_eq.mpr c4
  clear c4
  obtain rfl := Option.some.inj H
  go_enter Try.func70, Try.ntmps70
  go_wp2_with (((with_reducible refine gate_callee (f := 68) rfl ?_); refine goesL_ (some 4) rfl rfl Try.func68 (by kernel_rfl) rfl #[.int .i64 a0] rfl (by (try simp only [List.map_toArray, List.map_cons, List.map_nil]); rfl) ?_; (with_reducible refine (grapevineref13_ranged.calls a0 false _ A2.out).mono ?_); rintro e w' ⟨rfl, ⟨nd, rfl⟩⟩; refine ⟨_, rfl, ?_⟩))
  go_ret
  exact ⟨by rfl, by repeat (first | exact Drawn0.refl _ | apply Drawn0.step)⟩
 rw [if_neg c4] at H
 have c4b0 : (a0 == 3) = false := beq_eq_false_iff_ne.mpr c4
 have c4b1 : (a0 != 3) = true := bne_iff_ne.mpr c4
 obtain rfl := Option.some.inj H
 go_enter Try.func70, Try.ntmps70
 go_wp2_with (((with_reducible refine gate_callee (f := 68) rfl ?_); refine goesL_ (some 4) rfl rfl Try.func68 (by kernel_rfl) rfl #[.int .i64 a0] rfl (by (try simp only [List.map_toArray, List.map_cons, List.map_nil]); rfl) ?_; (with_reducible refine (grapevineref13_ranged.calls a0 false _ A2.out).mono ?_); rintro e w' ⟨rfl, ⟨nd, rfl⟩⟩; refine ⟨_, rfl, ?_⟩))
 go_ret
 exact ⟨by rfl, by repeat (first | exact Drawn0.refl _ | apply Drawn0.step)⟩
end Go.Proofs.Ytpeacoppclmmlaa.PP
