-- PRINTED by gprint.py (a session's own driver over the kit's print): not trusted; Lean checks it.
import Derived.Test.YtffefaiaifhokaaSOPTx0
namespace Go.Proofs.Ytffefaiaifhokaa.PT
open Go.RowKit Go.Proofs.YtffefaiaifhokaaW.PrintWords Go.Proofs.YtffefaiaifhokaaW.PrintLast Go.Proofs.YtffefaiaifhokaaW.PrintMore
attribute [local go_sem] max2_int min2_int max_two min_two max_three min_three max_four min_four   -- for this text's walks alone
set_option linter.unusedVariables false
set_option linter.unusedSimpArgs false

/-! ### grapevineref08_Right: function 25 -/
mutual
def grapevineref08_Right.l0 : Nat → List (S38) → Int → Option (Bool)
 | 0, _, _ => none
 | k + 1, x0, x3 => if x3 < (x0.length : Int) then (if 0 ≤ x3 then (if ((rd_T38 x0 x3).f2) < 1 then (grapevineref08_Right.j1 k x0 x3 true) else (if ((rd_T38 x0 x3).f2) > 3 then (grapevineref08_Right.j1 k x0 x3 true) else (if ((rd_T38 x0 x3).f0) < 1 then (grapevineref08_Right.j1 k x0 x3 true) else (if ((rd_T38 x0 x3).f1) < ((rd_T38 x0 x3).f0) then (grapevineref08_Right.j1 k x0 x3 true) else (grapevineref08_Right.j1 k x0 x3 (decide (((rd_T38 x0 x3).f1) > 1099511627776))))))) else (none)) else (some true)
def grapevineref08_Right.j1 : Nat → List (S38) → Int → Bool → Option (Bool)
 | 0, _, _, _ => none
 | k + 1, x0, x3, x52 => if x52 = true then (some false) else (if x3 > 0 then (if 0 ≤ x3 then (if x3 < (x0.length : Int) then (if 0 ≤ (wrap64 (x3 - 1)) then (if (wrap64 (x3 - 1)) < (x0.length : Int) then (if ((rd_T38 x0 x3).f0) ≤ ((rd_T38 x0 (wrap64 (x3 - 1))).f1) then (some false) else (if (wrap64 (((rd_T38 x0 x3).f0) - 1)) = ((rd_T38 x0 (wrap64 (x3 - 1))).f1) then (if ((rd_T38 x0 x3).f2) = ((rd_T38 x0 (wrap64 (x3 - 1))).f2) then (some false) else (grapevineref08_Right.l0 k x0 (wrap64 (x3 + 1)))) else (grapevineref08_Right.l0 k x0 (wrap64 (x3 + 1))))) else (none)) else (none)) else (none)) else (none)) else (grapevineref08_Right.l0 k x0 (wrap64 (x3 + 1))))
end
def grapevineref08_Right.f (k : Nat) (l0 : List (S38)) : Option (Bool) := grapevineref08_Right.l0 k l0 0
theorem grapevineref08_Right.mono_l : ∀ k, (∀ y0 y1, LeO (grapevineref08_Right.l0 k y0 y1) (grapevineref08_Right.l0 (k + 1) y0 y1)) ∧ (∀ y0 y1 y2, LeO (grapevineref08_Right.j1 k y0 y1 y2) (grapevineref08_Right.j1 (k + 1) y0 y1 y2))
 | 0 => ⟨fun _ _ r h => by simp [grapevineref08_Right.l0] at h, fun _ _ _ r h => by simp [grapevineref08_Right.j1] at h⟩
 | k + 1 => by
  obtain ⟨ih0, ih1⟩ := grapevineref08_Right.mono_l k
  refine ⟨?_, ?_⟩
  ·
   intro y0 y1
   unfold grapevineref08_Right.l0
   repeat' first
   | (with_reducible exact ih0 _ _)
   | (with_reducible exact ih1 _ _ _)
   | (with_reducible exact LeO.refl _)
   | (with_reducible exact LeO.none _)
   | (with_reducible refine LeO.ite ?_ ?_)
   | (with_reducible refine LeO.bind ?_ (fun _ => ?_))
   | exact ih0 _ _
   | exact ih1 _ _ _
   | exact LeO.none _
   | refine LeO.ite ?_ ?_
   | refine LeO.bind ?_ (fun _ => ?_)
  intro y0 y1 y2
  unfold grapevineref08_Right.j1
  repeat' first
  | (with_reducible exact ih0 _ _)
  | (with_reducible exact ih1 _ _ _)
  | (with_reducible exact LeO.refl _)
  | (with_reducible exact LeO.none _)
  | (with_reducible refine LeO.ite ?_ ?_)
  | (with_reducible refine LeO.bind ?_ (fun _ => ?_))
  | exact ih0 _ _
  | exact ih1 _ _ _
  | exact LeO.none _
  | refine LeO.ite ?_ ?_
  | refine LeO.bind ?_ (fun _ => ?_)
theorem grapevineref08_Right.mono : ∀ a0 k, LeO (grapevineref08_Right.f k a0) (grapevineref08_Right.f (k + 1) a0) := by
 intro a0 k
 obtain ⟨ih0, ih1⟩ := grapevineref08_Right.mono_l k
 unfold grapevineref08_Right.f
 repeat' first
  | (with_reducible exact ih0 _ _)
  | (with_reducible exact ih1 _ _ _)
  | (with_reducible exact LeO.refl _)
  | (with_reducible exact LeO.none _)
  | (with_reducible refine LeO.ite ?_ ?_)
  | (with_reducible refine LeO.bind ?_ (fun _ => ?_))
  | exact ih0 _ _
  | exact ih1 _ _ _
  | exact LeO.none _
  | refine LeO.ite ?_ ?_
  | refine LeO.bind ?_ (fun _ => ?_)
set_option maxHeartbeats 8000000 in
set_option maxRecDepth 100000 in
theorem grapevineref08_Right.calls (k : Nat) (A0 : Option Addr) (c0 : Nat) (l0 : List (S38)) (r : Bool) (w : World) (hr0 : Kd.C k38 w A0 l0.length l0) (hc0 : l0.length ≤ c0) (h : grapevineref08_Right.f k l0 = some r) :
 Calls Try.prog 25 #[.slice A0 l0.length c0] w fun e w' => e = .returned (.bool r) ∧ Drawn0 w w' := by
 have HR0 := Aside0.mk hr0
 have HC0 := Aside0.mk hc0
 clear hr0 hc0
 have H : (grapevineref08_Right.l0 k l0 0) = some r := h
 clear h
 have H' := Aside0.mk H
 clear H
 go_enter Try.func25, Try.ntmps25
 go_wp2
 repeat (go_quiet (fail); try go_wp2)
 go_loopg [3] k (fun kq v3 w' => ∃ (x3_1 : Int), v3 = .int .i64 x3_1 ∧ Aside0 (grapevineref08_Right.l0 kq l0 x3_1 = some r) ∧ Aside0 (kq ≤ k) ∧ Drawn0 w w')
 case atStart => exact ⟨(0), (by rfl), H', ⟨Nat.le_refl _⟩, by repeat (exact Drawn0.refl _)⟩
 case round =>
  clear H'
  obtain ⟨x3_1, rfl, HA, HK1, ⟨m1, rfl⟩⟩ := hrel
  cases gk with
  | zero => exact absurd HA.out (by simp [grapevineref08_Right.l0])
  | succ k1 =>
   have H := HA.out
   clear HA
   simp only [grapevineref08_Right.l0] at H
   by_cases c2 : x3_1 < (l0.length : Int)
   ·
    rw [if_pos c2] at H
    have c2b0 : decide (x3_1 < (l0.length : Int)) = true := decide_eq_true c2
    clear c2
    have HC3 := Aside0.mk H
    clear H
    go_upto_region 4 with (fail)
    repeat (go_quiet (fail); go_upto_region 4 with (fail))
    go_cut [52] (fun v52 wc => ∃ (kq : Nat) (x52_2 : Bool), v52 = .bool x52_2 ∧ Aside0 (grapevineref08_Right.j1 kq l0 x3_1 x52_2 = some r) ∧ Aside0 (kq ≤ k1) ∧ Drawn0 w wc)
    case first =>
     have H := HC3.out
     clear HC3
     by_cases c4 : 0 ≤ x3_1
     ·
      rw [if_pos c4] at H
      have c4b0 : decide (0 ≤ x3_1) = true := decide_eq_true c4
      clear c4
      (skip)
      by_cases c5 : ((rd_T38 l0 x3_1).f2) < 1
      ·
       rw [if_pos c5] at H
       have c5b0 : decide (((rd_T38 l0 x3_1).f2) < 1) = true := decide_eq_true c5
       clear c5
       have H' := Aside0.mk H
       clear H
       have p124 : 0 ≤ (x3_1 : Int) := of_decide_eq_true (by (with_reducible assumption))
       have q124 : x3_1 < (l0.length : Int) := of_decide_eq_true (by (with_reducible assumption))
       obtain ⟨ad124, e124, hx124_0, hx124_1, hx124_2⟩ := at_T38 HR0.out x3_1 p124 q124
       cases e124
       replace p124 := eq_true p124
       replace q124 := eq_true q124
       go_wp2
       repeat (go_quiet (fail); try go_wp2)
       go_meet
       case rel => exact ⟨_, (true), (by rfl), H', ⟨by have := HK1.out; omega⟩, by repeat (first | exact Drawn0.refl _ | apply Drawn0.step)⟩
      rw [if_neg c5] at H
      have c5b0 : decide (((rd_T38 l0 x3_1).f2) < 1) = false := decide_eq_false c5
      clear c5
      by_cases c6 : ((rd_T38 l0 x3_1).f2) > 3
      ·
       rw [if_pos c6] at H
       have c6b0 : decide (3 < ((rd_T38 l0 x3_1).f2)) = true := decide_eq_true c6
       clear c6
       have H' := Aside0.mk H
       clear H
       have p124 : 0 ≤ (x3_1 : Int) := of_decide_eq_true (by (with_reducible assumption))
       have q124 : x3_1 < (l0.length : Int) := of_decide_eq_true (by (with_reducible assumption))
       obtain ⟨ad124, e124, hx124_0, hx124_1, hx124_2⟩ := at_T38 HR0.out x3_1 p124 q124
       cases e124
       replace p124 := eq_true p124
       replace q124 := eq_true q124
       have p125 : 0 ≤ (x3_1 : Int) := of_decide_eq_true (by (with_reducible assumption))
       have q125 : x3_1 < (l0.length : Int) := of_decide_eq_true (by (with_reducible assumption))
       obtain ⟨ad125, e125, hx125_0, hx125_1, hx125_2⟩ := at_T38 HR0.out x3_1 p125 q125
       obtain rfl : ad124 = ad125 := (by injection e125)
       replace p125 := eq_true p125
       replace q125 := eq_true q125
       go_wp2
       repeat (go_quiet (fail); try go_wp2)
       go_meet
       case rel => exact ⟨_, (true), (by rfl), H', ⟨by have := HK1.out; omega⟩, by repeat (first | exact Drawn0.refl _ | apply Drawn0.step)⟩
      rw [if_neg c6] at H
      have c6b0 : decide (3 < ((rd_T38 l0 x3_1).f2)) = false := decide_eq_false c6
      clear c6
      by_cases c7 : ((rd_T38 l0 x3_1).f0) < 1
      ·
       rw [if_pos c7] at H
       have c7b0 : decide (((rd_T38 l0 x3_1).f0) < 1) = true := decide_eq_true c7
       clear c7
       have H' := Aside0.mk H
       clear H
       have p124 : 0 ≤ (x3_1 : Int) := of_decide_eq_true (by (with_reducible assumption))
       have q124 : x3_1 < (l0.length : Int) := of_decide_eq_true (by (with_reducible assumption))
       obtain ⟨ad124, e124, hx124_0, hx124_1, hx124_2⟩ := at_T38 HR0.out x3_1 p124 q124
       cases e124
       replace p124 := eq_true p124
       replace q124 := eq_true q124
       have p125 : 0 ≤ (x3_1 : Int) := of_decide_eq_true (by (with_reducible assumption))
       have q125 : x3_1 < (l0.length : Int) := of_decide_eq_true (by (with_reducible assumption))
       obtain ⟨ad125, e125, hx125_0, hx125_1, hx125_2⟩ := at_T38 HR0.out x3_1 p125 q125
       obtain rfl : ad124 = ad125 := (by injection e125)
       replace p125 := eq_true p125
       replace q125 := eq_true q125
       have p126 : 0 ≤ (x3_1 : Int) := of_decide_eq_true (by (with_reducible assumption))
       have q126 : x3_1 < (l0.length : Int) := of_decide_eq_true (by (with_reducible assumption))
       obtain ⟨ad126, e126, hx126_0, hx126_1, hx126_2⟩ := at_T38 HR0.out x3_1 p126 q126
       obtain rfl : ad124 = ad126 := (by injection e126)
       replace p126 := eq_true p126
       replace q126 := eq_true q126
       go_wp2
       repeat (go_quiet (fail); try go_wp2)
       go_meet
       case rel => exact ⟨_, (true), (by rfl), H', ⟨by have := HK1.out; omega⟩, by repeat (first | exact Drawn0.refl _ | apply Drawn0.step)⟩
      rw [if_neg c7] at H
      have c7b0 : decide (((rd_T38 l0 x3_1).f0) < 1) = false := decide_eq_false c7
      clear c7
      by_cases c8 : ((rd_T38 l0 x3_1).f1) < ((rd_T38 l0 x3_1).f0)
      ·
       rw [if_pos c8] at H
       have c8b0 : decide (((rd_T38 l0 x3_1).f1) < ((rd_T38 l0 x3_1).f0)) = true := decide_eq_true c8
       clear c8
       have H' := Aside0.mk H
       clear H
       have p124 : 0 ≤ (x3_1 : Int) := of_decide_eq_true (by (with_reducible assumption))
       have q124 : x3_1 < (l0.length : Int) := of_decide_eq_true (by (with_reducible assumption))
       obtain ⟨ad124, e124, hx124_0, hx124_1, hx124_2⟩ := at_T38 HR0.out x3_1 p124 q124
       cases e124
       replace p124 := eq_true p124
       replace q124 := eq_true q124
       have p125 : 0 ≤ (x3_1 : Int) := of_decide_eq_true (by (with_reducible assumption))
       have q125 : x3_1 < (l0.length : Int) := of_decide_eq_true (by (with_reducible assumption))
       obtain ⟨ad125, e125, hx125_0, hx125_1, hx125_2⟩ := at_T38 HR0.out x3_1 p125 q125
       obtain rfl : ad124 = ad125 := (by injection e125)
       replace p125 := eq_true p125
       replace q125 := eq_true q125
       have p126 : 0 ≤ (x3_1 : Int) := of_decide_eq_true (by (with_reducible assumption))
       have q126 : x3_1 < (l0.length : Int) := of_decide_eq_true (by (with_reducible assumption))
       obtain ⟨ad126, e126, hx126_0, hx126_1, hx126_2⟩ := at_T38 HR0.out x3_1 p126 q126
       obtain rfl : ad124 = ad126 := (by injection e126)
       replace p126 := eq_true p126
       replace q126 := eq_true q126
       have p127 : 0 ≤ (x3_1 : Int) := of_decide_eq_true (by (with_reducible assumption))
       have q127 : x3_1 < (l0.length : Int) := of_decide_eq_true (by (with_reducible assumption))
       obtain ⟨ad127, e127, hx127_0, hx127_1, hx127_2⟩ := at_T38 HR0.out x3_1 p127 q127
       obtain rfl : ad124 = ad127 := (by injection e127)
       replace p127 := eq_true p127
       replace q127 := eq_true q127
       have p128 : 0 ≤ (x3_1 : Int) := of_decide_eq_true (by (with_reducible assumption))
       have q128 : x3_1 < (l0.length : Int) := of_decide_eq_true (by (with_reducible assumption))
       obtain ⟨ad128, e128, hx128_0, hx128_1, hx128_2⟩ := at_T38 HR0.out x3_1 p128 q128
       obtain rfl : ad124 = ad128 := (by injection e128)
       replace p128 := eq_true p128
       replace q128 := eq_true q128
       go_wp2
       repeat (go_quiet (fail); try go_wp2)
       go_meet
       case rel => exact ⟨_, (true), (by rfl), H', ⟨by have := HK1.out; omega⟩, by repeat (first | exact Drawn0.refl _ | apply Drawn0.step)⟩
      rw [if_neg c8] at H
      have c8b0 : decide (((rd_T38 l0 x3_1).f1) < ((rd_T38 l0 x3_1).f0)) = false := decide_eq_false c8
      clear c8
      have H' := Aside0.mk H
      clear H
      have p124 : 0 ≤ (x3_1 : Int) := of_decide_eq_true (by (with_reducible assumption))
      have q124 : x3_1 < (l0.length : Int) := of_decide_eq_true (by (with_reducible assumption))
      obtain ⟨ad124, e124, hx124_0, hx124_1, hx124_2⟩ := at_T38 HR0.out x3_1 p124 q124
      cases e124
      replace p124 := eq_true p124
      replace q124 := eq_true q124
      have p125 : 0 ≤ (x3_1 : Int) := of_decide_eq_true (by (with_reducible assumption))
      have q125 : x3_1 < (l0.length : Int) := of_decide_eq_true (by (with_reducible assumption))
      obtain ⟨ad125, e125, hx125_0, hx125_1, hx125_2⟩ := at_T38 HR0.out x3_1 p125 q125
      obtain rfl : ad124 = ad125 := (by injection e125)
      replace p125 := eq_true p125
      replace q125 := eq_true q125
      have p126 : 0 ≤ (x3_1 : Int) := of_decide_eq_true (by (with_reducible assumption))
      have q126 : x3_1 < (l0.length : Int) := of_decide_eq_true (by (with_reducible assumption))
      obtain ⟨ad126, e126, hx126_0, hx126_1, hx126_2⟩ := at_T38 HR0.out x3_1 p126 q126
      obtain rfl : ad124 = ad126 := (by injection e126)
      replace p126 := eq_true p126
      replace q126 := eq_true q126
      have p127 : 0 ≤ (x3_1 : Int) := of_decide_eq_true (by (with_reducible assumption))
      have q127 : x3_1 < (l0.length : Int) := of_decide_eq_true (by (with_reducible assumption))
      obtain ⟨ad127, e127, hx127_0, hx127_1, hx127_2⟩ := at_T38 HR0.out x3_1 p127 q127
      obtain rfl : ad124 = ad127 := (by injection e127)
      replace p127 := eq_true p127
      replace q127 := eq_true q127
      have p128 : 0 ≤ (x3_1 : Int) := of_decide_eq_true (by (with_reducible assumption))
      have q128 : x3_1 < (l0.length : Int) := of_decide_eq_true (by (with_reducible assumption))
      obtain ⟨ad128, e128, hx128_0, hx128_1, hx128_2⟩ := at_T38 HR0.out x3_1 p128 q128
      obtain rfl : ad124 = ad128 := (by injection e128)
      replace p128 := eq_true p128
      replace q128 := eq_true q128
      have p129 : 0 ≤ (x3_1 : Int) := of_decide_eq_true (by (with_reducible assumption))
      have q129 : x3_1 < (l0.length : Int) := of_decide_eq_true (by (with_reducible assumption))
      obtain ⟨ad129, e129, hx129_0, hx129_1, hx129_2⟩ := at_T38 HR0.out x3_1 p129 q129
      obtain rfl : ad124 = ad129 := (by injection e129)
      replace p129 := eq_true p129
      replace q129 := eq_true q129
      go_wp2
      repeat (go_quiet (fail); try go_wp2)
      go_meet
      case rel => exact ⟨_, (decide (((rd_T38 l0 x3_1).f1) > 1099511627776)), (by rfl), H', ⟨by have := HK1.out; omega⟩, by repeat (first | exact Drawn0.refl _ | apply Drawn0.step)⟩
     rw [if_neg c4] at H
     exact absurd H (by simp)
    case rest =>
     clear HC3
     try clear c2b0
     try clear c5b0
     try clear c6b0
     obtain ⟨kq, x52_2, rfl, HA, HJ2, ⟨mc2, rfl⟩⟩ := hcut
     cases kq with
     | zero => exact absurd HA.out (by simp [grapevineref08_Right.j1])
     | succ kj2 =>
      have H := HA.out
      clear HA
      simp only [grapevineref08_Right.j1] at H
      by_cases c9 : x52_2 = true
      ·
       subst c9
       have H1 : (some false) = some r := by rw [if_pos rfl] at H; exact H
       clear H
       have H := H1
       clear H1
       obtain rfl := Option.some.inj H
       go_wp2
       repeat (go_quiet (fail); try go_wp2)
       go_ret
       exact ⟨by rfl, by repeat (first | exact Drawn0.refl _ | apply Drawn0.step)⟩
      replace c9 := Bool.eq_false_iff.mpr c9
      subst c9
      have H1 : (if x3_1 > 0 then (if 0 ≤ x3_1 then (if x3_1 < (l0.length : Int) then (if 0 ≤ (wrap64 (x3_1 - 1)) then (if (wrap64 (x3_1 - 1)) < (l0.length : Int) then (if ((rd_T38 l0 x3_1).f0) ≤ ((rd_T38 l0 (wrap64 (x3_1 - 1))).f1) then (some false) else (if (wrap64 (((rd_T38 l0 x3_1).f0) - 1)) = ((rd_T38 l0 (wrap64 (x3_1 - 1))).f1) then (if ((rd_T38 l0 x3_1).f2) = ((rd_T38 l0 (wrap64 (x3_1 - 1))).f2) then (some false) else (grapevineref08_Right.l0 kj2 l0 (wrap64 (x3_1 + 1)))) else (grapevineref08_Right.l0 kj2 l0 (wrap64 (x3_1 + 1))))) else (none)) else (none)) else (none)) else (none)) else (grapevineref08_Right.l0 kj2 l0 (wrap64 (x3_1 + 1)))) = some r := by rw [if_neg (show ¬ (false = true) by decide)] at H; exact H
      clear H
      have H := H1
      clear H1
      by_cases c10 : x3_1 > 0
      ·
       rw [if_pos c10] at H
       have c10b0 : decide (0 < x3_1) = true := decide_eq_true c10
       clear c10
       by_cases c11 : 0 ≤ x3_1
       ·
        rw [if_pos c11] at H
        have c11b0 : decide (0 ≤ x3_1) = true := decide_eq_true c11
        clear c11
        by_cases c12 : x3_1 < (l0.length : Int)
        ·
         rw [if_pos c12] at H
         have c12b0 : decide (x3_1 < (l0.length : Int)) = true := decide_eq_true c12
         clear c12
         obtain ⟨ji13, hji13⟩ : ∃ j_ : Int, (wrap64 (x3_1 - 1)) = j_ := ⟨_, rfl⟩
         replace H : (if 0 ≤ (ji13) then (if (ji13) < (l0.length : Int) then (if ((rd_T38 l0 x3_1).f0) ≤ ((rd_T38 l0 (ji13)).f1) then (some false) else (if (wrap64 (((rd_T38 l0 x3_1).f0) - 1)) = ((rd_T38 l0 (ji13)).f1) then (if ((rd_T38 l0 x3_1).f2) = ((rd_T38 l0 (ji13)).f2) then (some false) else (grapevineref08_Right.l0 kj2 l0 (wrap64 (x3_1 + 1)))) else (grapevineref08_Right.l0 kj2 l0 (wrap64 (x3_1 + 1))))) else (none)) else (none)) = some r := by (rw [hji13] at H; exact H)
         have hji13w : (IntKind.i64.wrap (x3_1 - 1)) = ji13 := (i64_w _).trans hji13
         by_cases c14 : 0 ≤ (ji13)
         ·
          rw [if_pos c14] at H
          have c14b0 : decide (0 ≤ (ji13)) = true := decide_eq_true c14
          clear c14
          by_cases c15 : (ji13) < (l0.length : Int)
          ·
           rw [if_pos c15] at H
           have c15b0 : decide ((ji13) < (l0.length : Int)) = true := decide_eq_true c15
           clear c15
           by_cases c16 : ((rd_T38 l0 x3_1).f0) ≤ ((rd_T38 l0 (ji13)).f1)
           ·
            rw [if_pos c16] at H
            have c16b0 : decide (((rd_T38 l0 x3_1).f0) ≤ ((rd_T38 l0 (ji13)).f1)) = true := decide_eq_true c16
            clear c16
            obtain rfl := Option.some.inj H
            have p130 : 0 ≤ (x3_1 : Int) := of_decide_eq_true (by (with_reducible assumption))
            have q130 : x3_1 < (l0.length : Int) := of_decide_eq_true (by (with_reducible assumption))
            obtain ⟨ad130, e130, hx130_0, hx130_1, hx130_2⟩ := at_T38 HR0.out x3_1 p130 q130
            cases e130
            replace p130 := eq_true p130
            replace q130 := eq_true q130
            have p131 : 0 ≤ ((ji13) : Int) := of_decide_eq_true (by (with_reducible assumption))
            have q131 : (ji13) < (l0.length : Int) := of_decide_eq_true (by (with_reducible assumption))
            obtain ⟨ad131, e131, hx131_0, hx131_1, hx131_2⟩ := at_T38 HR0.out (ji13) p131 q131
            obtain rfl : ad130 = ad131 := (by injection e131)
            replace p131 := eq_true p131
            replace q131 := eq_true q131
            go_wp2
            repeat (go_quiet (fail); try go_wp2)
            go_ret
            exact ⟨by rfl, by repeat (first | exact Drawn0.refl _ | apply Drawn0.step)⟩
           rw [if_neg c16] at H
           have c16b0 : decide (((rd_T38 l0 x3_1).f0) ≤ ((rd_T38 l0 (ji13)).f1)) = false := decide_eq_false c16
           clear c16
           by_cases c17 : (wrap64 (((rd_T38 l0 x3_1).f0) - 1)) = ((rd_T38 l0 (ji13)).f1)
           ·
            rw [if_pos c17] at H
            have c17b0 : ((wrap64 (((rd_T38 l0 x3_1).f0) - 1)) == ((rd_T38 l0 (ji13)).f1)) = true := beq_iff_eq.mpr c17
            have c17b1 : ((wrap64 (((rd_T38 l0 x3_1).f0) - 1)) != ((rd_T38 l0 (ji13)).f1)) = false := bne_eq_false_iff_eq.mpr c17
            clear c17
            by_cases c18 : ((rd_T38 l0 x3_1).f2) = ((rd_T38 l0 (ji13)).f2)
            ·
             rw [if_pos c18] at H
             have c18b0 : (((rd_T38 l0 x3_1).f2) == ((rd_T38 l0 (ji13)).f2)) = true := beq_iff_eq.mpr c18
             have c18b1 : (((rd_T38 l0 x3_1).f2) != ((rd_T38 l0 (ji13)).f2)) = false := bne_eq_false_iff_eq.mpr c18
             clear c18
             obtain rfl := Option.some.inj H
             have p130 : 0 ≤ (x3_1 : Int) := of_decide_eq_true (by (with_reducible assumption))
             have q130 : x3_1 < (l0.length : Int) := of_decide_eq_true (by (with_reducible assumption))
             obtain ⟨ad130, e130, hx130_0, hx130_1, hx130_2⟩ := at_T38 HR0.out x3_1 p130 q130
             cases e130
             replace p130 := eq_true p130
             replace q130 := eq_true q130
             have p131 : 0 ≤ ((ji13) : Int) := of_decide_eq_true (by (with_reducible assumption))
             have q131 : (ji13) < (l0.length : Int) := of_decide_eq_true (by (with_reducible assumption))
             obtain ⟨ad131, e131, hx131_0, hx131_1, hx131_2⟩ := at_T38 HR0.out (ji13) p131 q131
             obtain rfl : ad130 = ad131 := (by injection e131)
             replace p131 := eq_true p131
             replace q131 := eq_true q131
             have p132 : 0 ≤ (x3_1 : Int) := of_decide_eq_true (by (with_reducible assumption))
             have q132 : x3_1 < (l0.length : Int) := of_decide_eq_true (by (with_reducible assumption))
             obtain ⟨ad132, e132, hx132_0, hx132_1, hx132_2⟩ := at_T38 HR0.out x3_1 p132 q132
             obtain rfl : ad130 = ad132 := (by injection e132)
             replace p132 := eq_true p132
             replace q132 := eq_true q132
             have p133 : 0 ≤ ((ji13) : Int) := of_decide_eq_true (by (with_reducible assumption))
             have q133 : (ji13) < (l0.length : Int) := of_decide_eq_true (by (with_reducible assumption))
             obtain ⟨ad133, e133, hx133_0, hx133_1, hx133_2⟩ := at_T38 HR0.out (ji13) p133 q133
             obtain rfl : ad130 = ad133 := (by injection e133)
             replace p133 := eq_true p133
             replace q133 := eq_true q133
             have p134 : 0 ≤ (x3_1 : Int) := of_decide_eq_true (by (with_reducible assumption))
             have q134 : x3_1 < (l0.length : Int) := of_decide_eq_true (by (with_reducible assumption))
             obtain ⟨ad134, e134, hx134_0, hx134_1, hx134_2⟩ := at_T38 HR0.out x3_1 p134 q134
             obtain rfl : ad130 = ad134 := (by injection e134)
             replace p134 := eq_true p134
             replace q134 := eq_true q134
             have p135 : 0 ≤ ((ji13) : Int) := of_decide_eq_true (by (with_reducible assumption))
             have q135 : (ji13) < (l0.length : Int) := of_decide_eq_true (by (with_reducible assumption))
             obtain ⟨ad135, e135, hx135_0, hx135_1, hx135_2⟩ := at_T38 HR0.out (ji13) p135 q135
             obtain rfl : ad130 = ad135 := (by injection e135)
             replace p135 := eq_true p135
             replace q135 := eq_true q135
             go_wp2
             repeat (go_quiet (fail); try go_wp2)
             go_ret
             exact ⟨by rfl, by repeat (first | exact Drawn0.refl _ | apply Drawn0.step)⟩
            rw [if_neg c18] at H
            have c18b0 : (((rd_T38 l0 x3_1).f2) == ((rd_T38 l0 (ji13)).f2)) = false := beq_eq_false_iff_ne.mpr c18
            have c18b1 : (((rd_T38 l0 x3_1).f2) != ((rd_T38 l0 (ji13)).f2)) = true := bne_iff_ne.mpr c18
            have H' := Aside0.mk H
            clear H
            have p130 : 0 ≤ (x3_1 : Int) := of_decide_eq_true (by (with_reducible assumption))
            have q130 : x3_1 < (l0.length : Int) := of_decide_eq_true (by (with_reducible assumption))
            obtain ⟨ad130, e130, hx130_0, hx130_1, hx130_2⟩ := at_T38 HR0.out x3_1 p130 q130
            cases e130
            replace p130 := eq_true p130
            replace q130 := eq_true q130
            have p131 : 0 ≤ ((ji13) : Int) := of_decide_eq_true (by (with_reducible assumption))
            have q131 : (ji13) < (l0.length : Int) := of_decide_eq_true (by (with_reducible assumption))
            obtain ⟨ad131, e131, hx131_0, hx131_1, hx131_2⟩ := at_T38 HR0.out (ji13) p131 q131
            obtain rfl : ad130 = ad131 := (by injection e131)
            replace p131 := eq_true p131
            replace q131 := eq_true q131
            have p132 : 0 ≤ (x3_1 : Int) := of_decide_eq_true (by (with_reducible assumption))
            have q132 : x3_1 < (l0.length : Int) := of_decide_eq_true (by (with_reducible assumption))
            obtain ⟨ad132, e132, hx132_0, hx132_1, hx132_2⟩ := at_T38 HR0.out x3_1 p132 q132
            obtain rfl : ad130 = ad132 := (by injection e132)
            replace p132 := eq_true p132
            replace q132 := eq_true q132
            have p133 : 0 ≤ ((ji13) : Int) := of_decide_eq_true (by (with_reducible assumption))
            have q133 : (ji13) < (l0.length : Int) := of_decide_eq_true (by (with_reducible assumption))
            obtain ⟨ad133, e133, hx133_0, hx133_1, hx133_2⟩ := at_T38 HR0.out (ji13) p133 q133
            obtain rfl : ad130 = ad133 := (by injection e133)
            replace p133 := eq_true p133
            replace q133 := eq_true q133
            have p134 : 0 ≤ (x3_1 : Int) := of_decide_eq_true (by (with_reducible assumption))
            have q134 : x3_1 < (l0.length : Int) := of_decide_eq_true (by (with_reducible assumption))
            obtain ⟨ad134, e134, hx134_0, hx134_1, hx134_2⟩ := at_T38 HR0.out x3_1 p134 q134
            obtain rfl : ad130 = ad134 := (by injection e134)
            replace p134 := eq_true p134
            replace q134 := eq_true q134
            have p135 : 0 ≤ ((ji13) : Int) := of_decide_eq_true (by (with_reducible assumption))
            have q135 : (ji13) < (l0.length : Int) := of_decide_eq_true (by (with_reducible assumption))
            obtain ⟨ad135, e135, hx135_0, hx135_1, hx135_2⟩ := at_T38 HR0.out (ji13) p135 q135
            obtain rfl : ad130 = ad135 := (by injection e135)
            replace p135 := eq_true p135
            replace q135 := eq_true q135
            go_wp2
            repeat (go_quiet (fail); try go_wp2)
            go_roundg kj2
            case measure => have := HK1.out; have := HJ2.out; omega
            case rel => exact ⟨(wrap64 (x3_1 + 1)), (by rfl), H', ⟨by have := HK1.out; have := HJ2.out; omega⟩, by repeat (first | exact Drawn0.refl _ | apply Drawn0.step)⟩
           rw [if_neg c17] at H
           have c17b0 : ((wrap64 (((rd_T38 l0 x3_1).f0) - 1)) == ((rd_T38 l0 (ji13)).f1)) = false := beq_eq_false_iff_ne.mpr c17
           have c17b1 : ((wrap64 (((rd_T38 l0 x3_1).f0) - 1)) != ((rd_T38 l0 (ji13)).f1)) = true := bne_iff_ne.mpr c17
           have H' := Aside0.mk H
           clear H
           have p130 : 0 ≤ (x3_1 : Int) := of_decide_eq_true (by (with_reducible assumption))
           have q130 : x3_1 < (l0.length : Int) := of_decide_eq_true (by (with_reducible assumption))
           obtain ⟨ad130, e130, hx130_0, hx130_1, hx130_2⟩ := at_T38 HR0.out x3_1 p130 q130
           cases e130
           replace p130 := eq_true p130
           replace q130 := eq_true q130
           have p131 : 0 ≤ ((ji13) : Int) := of_decide_eq_true (by (with_reducible assumption))
           have q131 : (ji13) < (l0.length : Int) := of_decide_eq_true (by (with_reducible assumption))
           obtain ⟨ad131, e131, hx131_0, hx131_1, hx131_2⟩ := at_T38 HR0.out (ji13) p131 q131
           obtain rfl : ad130 = ad131 := (by injection e131)
           replace p131 := eq_true p131
           replace q131 := eq_true q131
           have p132 : 0 ≤ (x3_1 : Int) := of_decide_eq_true (by (with_reducible assumption))
           have q132 : x3_1 < (l0.length : Int) := of_decide_eq_true (by (with_reducible assumption))
           obtain ⟨ad132, e132, hx132_0, hx132_1, hx132_2⟩ := at_T38 HR0.out x3_1 p132 q132
           obtain rfl : ad130 = ad132 := (by injection e132)
           replace p132 := eq_true p132
           replace q132 := eq_true q132
           have p133 : 0 ≤ ((ji13) : Int) := of_decide_eq_true (by (with_reducible assumption))
           have q133 : (ji13) < (l0.length : Int) := of_decide_eq_true (by (with_reducible assumption))
           obtain ⟨ad133, e133, hx133_0, hx133_1, hx133_2⟩ := at_T38 HR0.out (ji13) p133 q133
           obtain rfl : ad130 = ad133 := (by injection e133)
           replace p133 := eq_true p133
           replace q133 := eq_true q133
           go_wp2
           repeat (go_quiet (fail); try go_wp2)
           go_roundg kj2
           case measure => have := HK1.out; have := HJ2.out; omega
           case rel => exact ⟨(wrap64 (x3_1 + 1)), (by rfl), H', ⟨by have := HK1.out; have := HJ2.out; omega⟩, by repeat (first | exact Drawn0.refl _ | apply Drawn0.step)⟩
          rw [if_neg c15] at H
          exact absurd H (by simp)
         rw [if_neg c14] at H
         exact absurd H (by simp)
        rw [if_neg c12] at H
        exact absurd H (by simp)
       rw [if_neg c11] at H
       exact absurd H (by simp)
      rw [if_neg c10] at H
      have c10b0 : decide (0 < x3_1) = false := decide_eq_false c10
      clear c10
      have H' := Aside0.mk H
      clear H
      go_wp2
      repeat (go_quiet (fail); try go_wp2)
      go_roundg kj2
      case measure => have := HK1.out; have := HJ2.out; omega
      case rel => exact ⟨(wrap64 (x3_1 + 1)), (by rfl), H', ⟨by have := HK1.out; have := HJ2.out; omega⟩, by repeat (first | exact Drawn0.refl _ | apply Drawn0.step)⟩
   rw [if_neg c2] at H
   have c2b0 : decide (x3_1 < (l0.length : Int)) = false := decide_eq_false c2
   clear c2
   obtain rfl := Option.some.inj H
   go_wp2
   repeat (go_quiet (fail); try go_wp2)
   go_ret
   exact ⟨by rfl, by repeat (first | exact Drawn0.refl _ | apply Drawn0.step)⟩

/-! ### grapevineref13_ranged: function 64 -/
def grapevineref13_ranged.f (a0 : Int) : Option (Bool) := if a0 = 1 then (some true) else (some (a0 == 2))
set_option maxHeartbeats 8000000 in
set_option maxRecDepth 100000 in
theorem grapevineref13_ranged.calls (a0 : Int) (r : Bool) (w : World) (h : grapevineref13_ranged.f a0 = some r) :
 Calls Try.prog 64 #[.int .i64 a0] w fun e w' => e = .returned (.bool r) ∧ Drawn0 w w' := by
 have H : (if a0 = 1 then (some true) else (some (a0 == 2))) = some r := h
 clear h
 by_cases c2 : a0 = 1
 ·
  rw [if_pos c2] at H
  have c2b0 : (a0 == 1) = true := beq_iff_eq.mpr c2
  have c2b1 : (a0 != 1) = false := bne_eq_false_iff_eq.mpr c2
  clear c2
  obtain rfl := Option.some.inj H
  go_enter Try.func64, Try.ntmps64
  go_wp2
  go_ret
  exact ⟨by rfl, by repeat (first | exact Drawn0.refl _ | apply Drawn0.step)⟩
 rw [if_neg c2] at H
 have c2b0 : (a0 == 1) = false := beq_eq_false_iff_ne.mpr c2
 have c2b1 : (a0 != 1) = true := bne_iff_ne.mpr c2
 obtain rfl := Option.some.inj H
 go_enter Try.func64, Try.ntmps64
 go_wp2
 go_ret
 exact ⟨by rfl, by repeat (first | exact Drawn0.refl _ | apply Drawn0.step)⟩

/-! ### grapevineref13_named: function 65 -/
def grapevineref13_named.f (a0 : Int) : Option (Bool) := if a0 = 3 then (some true) else (if a0 = 4 then (some true) else (if a0 = 5 then (some true) else (some (a0 == 6))))
set_option maxHeartbeats 8000000 in
set_option maxRecDepth 100000 in
theorem grapevineref13_named.calls (a0 : Int) (r : Bool) (w : World) (h : grapevineref13_named.f a0 = some r) :
 Calls Try.prog 65 #[.int .i64 a0] w fun e w' => e = .returned (.bool r) ∧ Drawn0 w w' := by
 have H : (if a0 = 3 then (some true) else (if a0 = 4 then (some true) else (if a0 = 5 then (some true) else (some (a0 == 6))))) = some r := h
 clear h
 by_cases c2 : a0 = 3
 ·
  rw [if_pos c2] at H
  have c2b0 : (a0 == 3) = true := beq_iff_eq.mpr c2
  have c2b1 : (a0 != 3) = false := bne_eq_false_iff_eq.mpr c2
  clear c2
  obtain rfl := Option.some.inj H
  go_enter Try.func65, Try.ntmps65
  go_wp2
  go_ret
  exact ⟨by rfl, by repeat (first | exact Drawn0.refl _ | apply Drawn0.step)⟩
 rw [if_neg c2] at H
 have c2b0 : (a0 == 3) = false := beq_eq_false_iff_ne.mpr c2
 have c2b1 : (a0 != 3) = true := bne_iff_ne.mpr c2
 by_cases c3 : a0 = 4
 ·
  rw [if_pos c3] at H
  have c3b0 : (a0 == 4) = true := beq_iff_eq.mpr c3
  have c3b1 : (a0 != 4) = false := bne_eq_false_iff_eq.mpr c3
  clear c3
  obtain rfl := Option.some.inj H
  go_enter Try.func65, Try.ntmps65
  go_wp2
  go_ret
  exact ⟨by rfl, by repeat (first | exact Drawn0.refl _ | apply Drawn0.step)⟩
 rw [if_neg c3] at H
 have c3b0 : (a0 == 4) = false := beq_eq_false_iff_ne.mpr c3
 have c3b1 : (a0 != 4) = true := bne_iff_ne.mpr c3
 by_cases c4 : a0 = 5
 ·
  rw [if_pos c4] at H
  have c4b0 : (a0 == 5) = true := beq_iff_eq.mpr c4
  have c4b1 : (a0 != 5) = false := bne_eq_false_iff_eq.mpr c4
  clear c4
  obtain rfl := Option.some.inj H
  go_enter Try.func65, Try.ntmps65
  go_wp2
  go_ret
  exact ⟨by rfl, by repeat (first | exact Drawn0.refl _ | apply Drawn0.step)⟩
 rw [if_neg c4] at H
 have c4b0 : (a0 == 5) = false := beq_eq_false_iff_ne.mpr c4
 have c4b1 : (a0 != 5) = true := bne_iff_ne.mpr c4
 obtain rfl := Option.some.inj H
 go_enter Try.func65, Try.ntmps65
 go_wp2
 go_ret
 exact ⟨by rfl, by repeat (first | exact Drawn0.refl _ | apply Drawn0.step)⟩

/-! ### grapevineref13_from: function 66 -/
def grapevineref13_from.f (a0 : Int) : Option (Bool) := (grapevineref13_ranged.f a0).bind fun t136 => (if t136 = true then (some true) else (if a0 = 3 then (some true) else (some (a0 == 5))))
set_option maxHeartbeats 8000000 in
set_option maxRecDepth 100000 in
theorem grapevineref13_from.calls (a0 : Int) (r : Bool) (w : World) (h : grapevineref13_from.f a0 = some r) :
 Calls Try.prog 66 #[.int .i64 a0] w fun e w' => e = .returned (.bool r) ∧ Drawn0 w w' := by
 have H : ((grapevineref13_ranged.f a0).bind fun t136 => (if t136 = true then (some true) else (if a0 = 3 then (some true) else (some (a0 == 5))))) = some r := h
 clear h
 replace H := Option.bind_eq_some_iff.mp H
 obtain ⟨t136, A20, H⟩ := H
 replace H : (if t136 = true then (some true) else (if a0 = 3 then (some true) else (some (a0 == 5)))) = some r := H
 have A2 := Aside0.mk A20
 clear A20
 by_cases c3 : t136 = true
 ·
  subst c3
  have H1 : (some true) = some r := by rw [if_pos rfl] at H; exact H
  clear H
  have H := H1
  clear H1
  obtain rfl := Option.some.inj H
  go_enter Try.func66, Try.ntmps66
  go_wp2_with (((with_reducible refine gate_callee (f := 64) rfl ?_); refine goesL_ (some 4) rfl rfl Try.func64 (by kernel_rfl) rfl #[.int .i64 a0] rfl (by (try simp only [List.map_toArray, List.map_cons, List.map_nil]); rfl) ?_; (with_reducible refine (grapevineref13_ranged.calls a0 true _ A2.out).mono ?_); rintro e w' ⟨rfl, ⟨nd, rfl⟩⟩; refine ⟨_, rfl, ?_⟩))
  go_ret
  exact ⟨by rfl, by repeat (first | exact Drawn0.refl _ | apply Drawn0.step)⟩
 replace c3 := Bool.eq_false_iff.mpr c3
 subst c3
 have H1 : (if a0 = 3 then (some true) else (some (a0 == 5))) = some r := by rw [if_neg (show ¬ (false = true) by decide)] at H; exact H
 clear H
 have H := H1
 clear H1
 by_cases c4 : a0 = 3
 ·
  rw [if_pos c4] at H
  have c4b0 : (a0 == 3) = true := beq_iff_eq.mpr c4
  have c4b1 : (a0 != 3) = false := bne_eq_false_iff_eq.mpr c4
  clear c4
  obtain rfl := Option.some.inj H
  go_enter Try.func66, Try.ntmps66
  go_wp2_with (((with_reducible refine gate_callee (f := 64) rfl ?_); refine goesL_ (some 4) rfl rfl Try.func64 (by kernel_rfl) rfl #[.int .i64 a0] rfl (by (try simp only [List.map_toArray, List.map_cons, List.map_nil]); rfl) ?_; (with_reducible refine (grapevineref13_ranged.calls a0 false _ A2.out).mono ?_); rintro e w' ⟨rfl, ⟨nd, rfl⟩⟩; refine ⟨_, rfl, ?_⟩))
  go_ret
  exact ⟨by rfl, by repeat (first | exact Drawn0.refl _ | apply Drawn0.step)⟩
 rw [if_neg c4] at H
 have c4b0 : (a0 == 3) = false := beq_eq_false_iff_ne.mpr c4
 have c4b1 : (a0 != 3) = true := bne_iff_ne.mpr c4
 obtain rfl := Option.some.inj H
 go_enter Try.func66, Try.ntmps66
 go_wp2_with (((with_reducible refine gate_callee (f := 64) rfl ?_); refine goesL_ (some 4) rfl rfl Try.func64 (by kernel_rfl) rfl #[.int .i64 a0] rfl (by (try simp only [List.map_toArray, List.map_cons, List.map_nil]); rfl) ?_; (with_reducible refine (grapevineref13_ranged.calls a0 false _ A2.out).mono ?_); rintro e w' ⟨rfl, ⟨nd, rfl⟩⟩; refine ⟨_, rfl, ?_⟩))
 go_ret
 exact ⟨by rfl, by repeat (first | exact Drawn0.refl _ | apply Drawn0.step)⟩

end Go.Proofs.Ytffefaiaifhokaa.PT
