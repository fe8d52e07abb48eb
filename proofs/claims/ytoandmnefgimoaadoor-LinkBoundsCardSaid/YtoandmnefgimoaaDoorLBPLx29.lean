import Derived.Test.YtoandmnefgimoaaDoorLBPLx0
namespace Go.Proofs.YtoandmnefgimoaaDoor.PL
open Go.RowKit Go.Proofs.YtoandmnefgimoaaDoorW.PrintWords Go.Proofs.YtoandmnefgimoaaDoorW.PrintLast Go.Proofs.YtoandmnefgimoaaDoorW.PrintMore
attribute [local go_sem] max2_int min2_int max_two min_two max_three min_three max_four min_four
set_option linter.unusedVariables false
set_option linter.unusedSimpArgs false
mutual
def grapevineref08_Right.l0 : Nat → List (S110) → Int → Option (Bool)
 | 0, _, _ => none
 | k + 1, x0, x3 => if x3 < (x0.length : Int) then (if 0 ≤ x3 then (if ((rd_T110 x0 x3).f2) < 1 then (grapevineref08_Right.j1 k x0 x3 true) else (if ((rd_T110 x0 x3).f2) > 3 then (grapevineref08_Right.j1 k x0 x3 true) else (if ((rd_T110 x0 x3).f0) < 1 then (grapevineref08_Right.j1 k x0 x3 true) else (if ((rd_T110 x0 x3).f1) < ((rd_T110 x0 x3).f0) then (grapevineref08_Right.j1 k x0 x3 true) else (grapevineref08_Right.j1 k x0 x3 (decide (((rd_T110 x0 x3).f1) > 1099511627776))))))) else (none)) else (some true)
def grapevineref08_Right.j1 : Nat → List (S110) → Int → Bool → Option (Bool)
 | 0, _, _, _ => none
 | k + 1, x0, x3, x52 => if x52 = true then (some false) else (if x3 > 0 then (if 0 ≤ x3 then (if x3 < (x0.length : Int) then (if 0 ≤ (wrap64 (x3 - 1)) then (if (wrap64 (x3 - 1)) < (x0.length : Int) then (if ((rd_T110 x0 x3).f0) ≤ ((rd_T110 x0 (wrap64 (x3 - 1))).f1) then (some false) else (if (wrap64 (((rd_T110 x0 x3).f0) - 1)) = ((rd_T110 x0 (wrap64 (x3 - 1))).f1) then (if ((rd_T110 x0 x3).f2) = ((rd_T110 x0 (wrap64 (x3 - 1))).f2) then (some false) else (grapevineref08_Right.l0 k x0 (wrap64 (x3 + 1)))) else (grapevineref08_Right.l0 k x0 (wrap64 (x3 + 1))))) else (none)) else (none)) else (none)) else (none)) else (grapevineref08_Right.l0 k x0 (wrap64 (x3 + 1))))
end
def grapevineref08_Right.f (k : Nat) (l0 : List (S110)) : Option (Bool) := grapevineref08_Right.l0 k l0 0
set_option maxHeartbeats 8000000 in
set_option maxRecDepth 100000 in
theorem grapevineref08_Right.calls (k : Nat) (A0 : Option Addr) (c0 : Nat) (l0 : List (S110)) (r : Bool) (w : World) (hr0 : Kd.C k110 w A0 l0.length l0) (hc0 : l0.length ≤ c0) (h : grapevineref08_Right.f k l0 = some r) :
 Calls Tryd.prog 57 #[.slice A0 l0.length c0] w fun e w' => e = .returned (.bool r) ∧ Drawn0 w w' := by
 have HR0 := am_ hr0
 have HC0 := am_ hc0
 clear hr0 hc0
 have H : (grapevineref08_Right.l0 k l0 0) = some r := h
 clear h
 have H' := am_ H
 clear H
 go_enter Tryd.func57, Tryd.ntmps57
 go_wp2
 repeat (go_quiet (fail); try go_wp2)
 go_loopg [3] k (fun kq v3 w' => ∃ (x3_1 : Int), v3 = .int .i64 x3_1 ∧ Aside0 (grapevineref08_Right.l0 kq l0 x3_1 = some r) ∧ Aside0 (kq ≤ k) ∧ Drawn0 w w')
 case atStart => exact ⟨(0), (by rfl), H', ⟨Nat.le_refl _⟩, by repeat (exact Drawn0.refl _)⟩
 case round =>
 clear H'
 obtain ⟨x3_1, rfl, HA, HK1, ⟨m1, rfl⟩⟩ := hrel
 cases gk with
 | zero => exact absurd HA.out (by simp [grapevineref08_Right.l0])
 | succ k1 =>
 have H := HA.out
 clear HA
 simp only [grapevineref08_Right.l0] at H
 by_cases c2 : x3_1 < (l0.length : Int)
 ·
  rw [if_pos c2] at H
  have c2b0 : decide (x3_1 < (l0.length : Int)) = true := decide_eq_true c2
  clear c2
  have HC3 := am_ H
  clear H
  go_upto_region 4 with (fail)
  repeat (go_quiet (fail); go_upto_region 4 with (fail))
  go_cut [52] (fun v52 wc => ∃ (kq : Nat) (x52_2 : Bool), v52 = .bool x52_2 ∧ Aside0 (grapevineref08_Right.j1 kq l0 x3_1 x52_2 = some r) ∧ Aside0 (kq ≤ k1) ∧ Drawn0 w wc)
  case first =>
   have H := HC3.out
   clear HC3
   by_cases c4 : 0 ≤ x3_1
   ·
    rw [if_pos c4] at H
    have c4b0 : decide (0 ≤ x3_1) = true := decide_eq_true c4
    clear c4
    (skip)
    by_cases c5 : ((rd_T110 l0 x3_1).f2) < 1
    ·
     rw [if_pos c5] at H
     have c5b0 : decide (((rd_T110 l0 x3_1).f2) < 1) = true := decide_eq_true c5
     clear c5
     have H' := am_ H
     clear H
     have p248 : 0 ≤ (x3_1 : Int) := of_decide_eq_true (by (with_reducible assumption))
     have q248 : x3_1 < (l0.length : Int) := of_decide_eq_true (by (with_reducible assumption))
     obtain ⟨ad248, e248, hx248_0, hx248_1, hx248_2⟩ := at_T110 HR0.out x3_1 p248 q248
     cases e248
     replace p248 := eq_true p248
     replace q248 := eq_true q248
     go_wp2
     repeat (go_quiet (fail); try go_wp2)
     go_meet
     case rel => exact ⟨_, (true), (by rfl), H', ⟨by have := HK1.out; omega⟩, by repeat (first | exact Drawn0.refl _ | apply Drawn0.step)⟩
    rw [if_neg c5] at H
    have c5b0 : decide (((rd_T110 l0 x3_1).f2) < 1) = false := decide_eq_false c5
    clear c5
    by_cases c6 : ((rd_T110 l0 x3_1).f2) > 3
    ·
     rw [if_pos c6] at H
     have c6b0 : decide (3 < ((rd_T110 l0 x3_1).f2)) = true := decide_eq_true c6
     clear c6
     have H' := am_ H
     clear H
     have p248 : 0 ≤ (x3_1 : Int) := of_decide_eq_true (by (with_reducible assumption))
     have q248 : x3_1 < (l0.length : Int) := of_decide_eq_true (by (with_reducible assumption))
     obtain ⟨ad248, e248, hx248_0, hx248_1, hx248_2⟩ := at_T110 HR0.out x3_1 p248 q248
     cases e248
     replace p248 := eq_true p248
     replace q248 := eq_true q248
     have p249 : 0 ≤ (x3_1 : Int) := of_decide_eq_true (by (with_reducible assumption))
     have q249 : x3_1 < (l0.length : Int) := of_decide_eq_true (by (with_reducible assumption))
     obtain ⟨ad249, e249, hx249_0, hx249_1, hx249_2⟩ := at_T110 HR0.out x3_1 p249 q249
     obtain rfl : ad248 = ad249 := (by injection e249)
     replace p249 := eq_true p249
     replace q249 := eq_true q249
     go_wp2
     repeat (go_quiet (fail); try go_wp2)
     go_meet
     case rel => exact ⟨_, (true), (by rfl), H', ⟨by have := HK1.out; omega⟩, by repeat (first | exact Drawn0.refl _ | apply Drawn0.step)⟩
    rw [if_neg c6] at H
    have c6b0 : decide (3 < ((rd_T110 l0 x3_1).f2)) = false := decide_eq_false c6
    clear c6
    by_cases c7 : ((rd_T110 l0 x3_1).f0) < 1
    ·
     rw [if_pos c7] at H
     have c7b0 : decide (((rd_T110 l0 x3_1).f0) < 1) = true := decide_eq_true c7
     clear c7
     have H' := am_ H
     clear H
     have p248 : 0 ≤ (x3_1 : Int) := of_decide_eq_true (by (with_reducible assumption))
     have q248 : x3_1 < (l0.length : Int) := of_decide_eq_true (by (with_reducible assumption))
     obtain ⟨ad248, e248, hx248_0, hx248_1, hx248_2⟩ := at_T110 HR0.out x3_1 p248 q248
     cases e248
     replace p248 := eq_true p248
     replace q248 := eq_true q248
     have p249 : 0 ≤ (x3_1 : Int) := of_decide_eq_true (by (with_reducible assumption))
     have q249 : x3_1 < (l0.length : Int) := of_decide_eq_true (by (with_reducible assumption))
     obtain ⟨ad249, e249, hx249_0, hx249_1, hx249_2⟩ := at_T110 HR0.out x3_1 p249 q249
     obtain rfl : ad248 = ad249 := (by injection e249)
     replace p249 := eq_true p249
     replace q249 := eq_true q249
     have p250 : 0 ≤ (x3_1 : Int) := of_decide_eq_true (by (with_reducible assumption))
     have q250 : x3_1 < (l0.length : Int) := of_decide_eq_true (by (with_reducible assumption))
     obtain ⟨ad250, e250, hx250_0, hx250_1, hx250_2⟩ := at_T110 HR0.out x3_1 p250 q250
     obtain rfl : ad248 = ad250 := (by injection e250)
     replace p250 := eq_true p250
     replace q250 := eq_true q250
     go_wp2
     repeat (go_quiet (fail); try go_wp2)
     go_meet
     case rel => exact ⟨_, (true), (by rfl), H', ⟨by have := HK1.out; omega⟩, by repeat (first | exact Drawn0.refl _ | apply Drawn0.step)⟩
    rw [if_neg c7] at H
    have c7b0 : decide (((rd_T110 l0 x3_1).f0) < 1) = false := decide_eq_false c7
    clear c7
    by_cases c8 : ((rd_T110 l0 x3_1).f1) < ((rd_T110 l0 x3_1).f0)
    ·
     rw [if_pos c8] at H
     have c8b0 : decide (((rd_T110 l0 x3_1).f1) < ((rd_T110 l0 x3_1).f0)) = true := decide_eq_true c8
     clear c8
     have H' := am_ H
     clear H
     have p248 : 0 ≤ (x3_1 : Int) := of_decide_eq_true (by (with_reducible assumption))
     have q248 : x3_1 < (l0.length : Int) := of_decide_eq_true (by (with_reducible assumption))
     obtain ⟨ad248, e248, hx248_0, hx248_1, hx248_2⟩ := at_T110 HR0.out x3_1 p248 q248
     cases e248
     replace p248 := eq_true p248
     replace q248 := eq_true q248
     have p249 : 0 ≤ (x3_1 : Int) := of_decide_eq_true (by (with_reducible assumption))
     have q249 : x3_1 < (l0.length : Int) := of_decide_eq_true (by (with_reducible assumption))
     obtain ⟨ad249, e249, hx249_0, hx249_1, hx249_2⟩ := at_T110 HR0.out x3_1 p249 q249
     obtain rfl : ad248 = ad249 := (by injection e249)
     replace p249 := eq_true p249
     replace q249 := eq_true q249
     have p250 : 0 ≤ (x3_1 : Int) := of_decide_eq_true (by (with_reducible assumption))
     have q250 : x3_1 < (l0.length : Int) := of_decide_eq_true (by (with_reducible assumption))
     obtain ⟨ad250, e250, hx250_0, hx250_1, hx250_2⟩ := at_T110 HR0.out x3_1 p250 q250
     obtain rfl : ad248 = ad250 := (by injection e250)
     replace p250 := eq_true p250
     replace q250 := eq_true q250
     have p251 : 0 ≤ (x3_1 : Int) := of_decide_eq_true (by (with_reducible assumption))
     have q251 : x3_1 < (l0.length : Int) := of_decide_eq_true (by (with_reducible assumption))
     obtain ⟨ad251, e251, hx251_0, hx251_1, hx251_2⟩ := at_T110 HR0.out x3_1 p251 q251
     obtain rfl : ad248 = ad251 := (by injection e251)
     replace p251 := eq_true p251
     replace q251 := eq_true q251
     have p252 : 0 ≤ (x3_1 : Int) := of_decide_eq_true (by (with_reducible assumption))
     have q252 : x3_1 < (l0.length : Int) := of_decide_eq_true (by (with_reducible assumption))
     obtain ⟨ad252, e252, hx252_0, hx252_1, hx252_2⟩ := at_T110 HR0.out x3_1 p252 q252
     obtain rfl : ad248 = ad252 := (by injection e252)
     replace p252 := eq_true p252
     replace q252 := eq_true q252
     go_wp2
     repeat (go_quiet (fail); try go_wp2)
     go_meet
     case rel => exact ⟨_, (true), (by rfl), H', ⟨by have := HK1.out; omega⟩, by repeat (first | exact Drawn0.refl _ | apply Drawn0.step)⟩
    rw [if_neg c8] at H
    have c8b0 : decide (((rd_T110 l0 x3_1).f1) < ((rd_T110 l0 x3_1).f0)) = false := decide_eq_false c8
    clear c8
    have H' := am_ H
    clear H
    have p248 : 0 ≤ (x3_1 : Int) := of_decide_eq_true (by (with_reducible assumption))
    have q248 : x3_1 < (l0.length : Int) := of_decide_eq_true (by (with_reducible assumption))
    obtain ⟨ad248, e248, hx248_0, hx248_1, hx248_2⟩ := at_T110 HR0.out x3_1 p248 q248
    cases e248
    replace p248 := eq_true p248
    replace q248 := eq_true q248
    have p249 : 0 ≤ (x3_1 : Int) := of_decide_eq_true (by (with_reducible assumption))
    have q249 : x3_1 < (l0.length : Int) := of_decide_eq_true (by (with_reducible assumption))
    obtain ⟨ad249, e249, hx249_0, hx249_1, hx249_2⟩ := at_T110 HR0.out x3_1 p249 q249
    obtain rfl : ad248 = ad249 := (by injection e249)
    replace p249 := eq_true p249
    replace q249 := eq_true q249
    have p250 : 0 ≤ (x3_1 : Int) := of_decide_eq_true (by (with_reducible assumption))
    have q250 : x3_1 < (l0.length : Int) := of_decide_eq_true (by (with_reducible assumption))
    obtain ⟨ad250, e250, hx250_0, hx250_1, hx250_2⟩ := at_T110 HR0.out x3_1 p250 q250
    obtain rfl : ad248 = ad250 := (by injection e250)
    replace p250 := eq_true p250
    replace q250 := eq_true q250
    have p251 : 0 ≤ (x3_1 : Int) := of_decide_eq_true (by (with_reducible assumption))
    have q251 : x3_1 < (l0.length : Int) := of_decide_eq_true (by (with_reducible assumption))
    obtain ⟨ad251, e251, hx251_0, hx251_1, hx251_2⟩ := at_T110 HR0.out x3_1 p251 q251
    obtain rfl : ad248 = ad251 := (by injection e251)
    replace p251 := eq_true p251
    replace q251 := eq_true q251
    have p252 : 0 ≤ (x3_1 : Int) := of_decide_eq_true (by (with_reducible assumption))
    have q252 : x3_1 < (l0.length : Int) := of_decide_eq_true (by (with_reducible assumption))
    obtain ⟨ad252, e252, hx252_0, hx252_1, hx252_2⟩ := at_T110 HR0.out x3_1 p252 q252
    obtain rfl : ad248 = ad252 := (by injection e252)
    replace p252 := eq_true p252
    replace q252 := eq_true q252
    have p253 : 0 ≤ (x3_1 : Int) := of_decide_eq_true (by (with_reducible assumption))
    have q253 : x3_1 < (l0.length : Int) := of_decide_eq_true (by (with_reducible assumption))
    obtain ⟨ad253, e253, hx253_0, hx253_1, hx253_2⟩ := at_T110 HR0.out x3_1 p253 q253
    obtain rfl : ad248 = ad253 := (by injection e253)
    replace p253 := eq_true p253
    replace q253 := eq_true q253
    go_wp2
    repeat (go_quiet (fail); try go_wp2)
    go_meet
    case rel => exact ⟨_, (decide (((rd_T110 l0 x3_1).f1) > 1099511627776)), (by rfl), H', ⟨by have := HK1.out; omega⟩, by repeat (first | exact Drawn0.refl _ | apply Drawn0.step)⟩
   rw [if_neg c4] at H
   exact absurd H (by simp)
  case rest =>
  clear HC3
  try clear c2b0
  try clear c4b0
  try clear c5b0
  try clear c8b0
  obtain ⟨kq, x52_2, rfl, HA, HJ2, ⟨mc2, rfl⟩⟩ := hcut
  cases kq with
  | zero => exact absurd HA.out (by simp [grapevineref08_Right.j1])
  | succ kj2 =>
  have H := HA.out
  clear HA
  simp only [grapevineref08_Right.j1] at H
  by_cases c9 : x52_2 = true
  ·
   subst c9
   rw [if_pos rfl] at H
   obtain rfl := Option.some.inj H
   go_wp2
   repeat (go_quiet (fail); try go_wp2)
   go_ret
   exact ⟨by first | rfl | (simp; done) | (simp [*]; done), by repeat (first | exact Drawn0.refl _ | apply Drawn0.step)⟩
  replace c9 := Bool.eq_false_iff.mpr c9
  subst c9
  rw [if_neg (show ¬ (false = true) by decide)] at H
  by_cases c10 : x3_1 > 0
  ·
   rw [if_pos c10] at H
   have c10b0 : decide (0 < x3_1) = true := decide_eq_true c10
   clear c10
   by_cases c11 : 0 ≤ x3_1
   ·
    rw [if_pos c11] at H
    have c11b0 : decide (0 ≤ x3_1) = true := decide_eq_true c11
    clear c11
    by_cases c12 : x3_1 < (l0.length : Int)
    ·
     rw [if_pos c12] at H
     have c12b0 : decide (x3_1 < (l0.length : Int)) = true := decide_eq_true c12
     clear c12
     obtain ⟨ji13, hji13⟩ : ∃ j_ : Int, (wrap64 (x3_1 - 1)) = j_ := ⟨_, rfl⟩
     replace H : (if 0 ≤ (ji13) then (if (ji13) < (l0.length : Int) then (if ((rd_T110 l0 x3_1).f0) ≤ ((rd_T110 l0 (ji13)).f1) then (some false) else (if (wrap64 (((rd_T110 l0 x3_1).f0) - 1)) = ((rd_T110 l0 (ji13)).f1) then (if ((rd_T110 l0 x3_1).f2) = ((rd_T110 l0 (ji13)).f2) then (some false) else (grapevineref08_Right.l0 kj2 l0 (wrap64 (x3_1 + 1)))) else (grapevineref08_Right.l0 kj2 l0 (wrap64 (x3_1 + 1))))) else (none)) else (none)) = some r := by (rw [hji13] at H; exact H)
     have hji13w : (IntKind.i64.wrap (x3_1 - 1)) = ji13 := (i64_w _).trans hji13
     by_cases c14 : 0 ≤ (ji13)
     ·
      rw [if_pos c14] at H
      have c14b0 : decide (0 ≤ (ji13)) = true := decide_eq_true c14
      clear c14
      by_cases c15 : (ji13) < (l0.length : Int)
      ·
       rw [if_pos c15] at H
       have c15b0 : decide ((ji13) < (l0.length : Int)) = true := decide_eq_true c15
       clear c15
       by_cases c16 : ((rd_T110 l0 x3_1).f0) ≤ ((rd_T110 l0 (ji13)).f1)
       ·
        rw [if_pos c16] at H
        have c16b0 : decide (((rd_T110 l0 x3_1).f0) ≤ ((rd_T110 l0 (ji13)).f1)) = true := decide_eq_true c16
        clear c16
        obtain rfl := Option.some.inj H
        have p254 : 0 ≤ (x3_1 : Int) := of_decide_eq_true (by (with_reducible assumption))
        have q254 : x3_1 < (l0.length : Int) := of_decide_eq_true (by (with_reducible assumption))
        obtain ⟨ad254, e254, hx254_0, hx254_1, hx254_2⟩ := at_T110 HR0.out x3_1 p254 q254
        cases e254
        replace p254 := eq_true p254
        replace q254 := eq_true q254
        have p255 : 0 ≤ ((ji13) : Int) := of_decide_eq_true (by (with_reducible assumption))
        have q255 : (ji13) < (l0.length : Int) := of_decide_eq_true (by (with_reducible assumption))
        obtain ⟨ad255, e255, hx255_0, hx255_1, hx255_2⟩ := at_T110 HR0.out (ji13) p255 q255
        obtain rfl : ad254 = ad255 := (by injection e255)
        replace p255 := eq_true p255
        replace q255 := eq_true q255
        go_wp2
        repeat (go_quiet (fail); try go_wp2)
        go_ret
        exact ⟨by rfl, by repeat (first | exact Drawn0.refl _ | apply Drawn0.step)⟩
       rw [if_neg c16] at H
       have c16b0 : decide (((rd_T110 l0 x3_1).f0) ≤ ((rd_T110 l0 (ji13)).f1)) = false := decide_eq_false c16
       clear c16
       by_cases c17 : (wrap64 (((rd_T110 l0 x3_1).f0) - 1)) = ((rd_T110 l0 (ji13)).f1)
       ·
        rw [if_pos c17] at H
        have c17b0 : ((wrap64 (((rd_T110 l0 x3_1).f0) - 1)) == ((rd_T110 l0 (ji13)).f1)) = true := beq_iff_eq.mpr c17
        have c17b1 : ((wrap64 (((rd_T110 l0 x3_1).f0) - 1)) != ((rd_T110 l0 (ji13)).f1)) = false := bne_eq_false_iff_eq.mpr c17
        clear c17
        by_cases c18 : ((rd_T110 l0 x3_1).f2) = ((rd_T110 l0 (ji13)).f2)
        ·
         rw [if_pos c18] at H
         have c18b0 : (((rd_T110 l0 x3_1).f2) == ((rd_T110 l0 (ji13)).f2)) = true := beq_iff_eq.mpr c18
         have c18b1 : (((rd_T110 l0 x3_1).f2) != ((rd_T110 l0 (ji13)).f2)) = false := bne_eq_false_iff_eq.mpr c18
         clear c18
         obtain rfl := Option.some.inj H
         have p254 : 0 ≤ (x3_1 : Int) := of_decide_eq_true (by (with_reducible assumption))
         have q254 : x3_1 < (l0.length : Int) := of_decide_eq_true (by (with_reducible assumption))
         obtain ⟨ad254, e254, hx254_0, hx254_1, hx254_2⟩ := at_T110 HR0.out x3_1 p254 q254
         cases e254
         replace p254 := eq_true p254
         replace q254 := eq_true q254
         have p255 : 0 ≤ ((ji13) : Int) := of_decide_eq_true (by (with_reducible assumption))
         have q255 : (ji13) < (l0.length : Int) := of_decide_eq_true (by (with_reducible assumption))
         obtain ⟨ad255, e255, hx255_0, hx255_1, hx255_2⟩ := at_T110 HR0.out (ji13) p255 q255
         obtain rfl : ad254 = ad255 := (by injection e255)
         replace p255 := eq_true p255
         replace q255 := eq_true q255
         have p256 : 0 ≤ (x3_1 : Int) := of_decide_eq_true (by (with_reducible assumption))
         have q256 : x3_1 < (l0.length : Int) := of_decide_eq_true (by (with_reducible assumption))
         obtain ⟨ad256, e256, hx256_0, hx256_1, hx256_2⟩ := at_T110 HR0.out x3_1 p256 q256
         obtain rfl : ad254 = ad256 := (by injection e256)
         replace p256 := eq_true p256
         replace q256 := eq_true q256
         have p257 : 0 ≤ ((ji13) : Int) := of_decide_eq_true (by (with_reducible assumption))
         have q257 : (ji13) < (l0.length : Int) := of_decide_eq_true (by (with_reducible assumption))
         obtain ⟨ad257, e257, hx257_0, hx257_1, hx257_2⟩ := at_T110 HR0.out (ji13) p257 q257
         obtain rfl : ad254 = ad257 := (by injection e257)
         replace p257 := eq_true p257
         replace q257 := eq_true q257
         have p258 : 0 ≤ (x3_1 : Int) := of_decide_eq_true (by (with_reducible assumption))
         have q258 : x3_1 < (l0.length : Int) := of_decide_eq_true (by (with_reducible assumption))
         obtain ⟨ad258, e258, hx258_0, hx258_1, hx258_2⟩ := at_T110 HR0.out x3_1 p258 q258
         obtain rfl : ad254 = ad258 := (by injection e258)
         replace p258 := eq_true p258
         replace q258 := eq_true q258
         have p259 : 0 ≤ ((ji13) : Int) := of_decide_eq_true (by (with_reducible assumption))
         have q259 : (ji13) < (l0.length : Int) := of_decide_eq_true (by (with_reducible assumption))
         obtain ⟨ad259, e259, hx259_0, hx259_1, hx259_2⟩ := at_T110 HR0.out (ji13) p259 q259
         obtain rfl : ad254 = ad259 := (by injection e259)
         replace p259 := eq_true p259
         replace q259 := eq_true q259
         go_wp2
         repeat (go_quiet (fail); try go_wp2)
         go_ret
         exact ⟨by rfl, by repeat (first | exact Drawn0.refl _ | apply Drawn0.step)⟩
        rw [if_neg c18] at H
        have c18b0 : (((rd_T110 l0 x3_1).f2) == ((rd_T110 l0 (ji13)).f2)) = false := beq_eq_false_iff_ne.mpr c18
        have c18b1 : (((rd_T110 l0 x3_1).f2) != ((rd_T110 l0 (ji13)).f2)) = true := bne_iff_ne.mpr c18
        have H' := am_ H
        clear H
        have p254 : 0 ≤ (x3_1 : Int) := of_decide_eq_true (by (with_reducible assumption))
        have q254 : x3_1 < (l0.length : Int) := of_decide_eq_true (by (with_reducible assumption))
        obtain ⟨ad254, e254, hx254_0, hx254_1, hx254_2⟩ := at_T110 HR0.out x3_1 p254 q254
        cases e254
        replace p254 := eq_true p254
        replace q254 := eq_true q254
        have p255 : 0 ≤ ((ji13) : Int) := of_decide_eq_true (by (with_reducible assumption))
        have q255 : (ji13) < (l0.length : Int) := of_decide_eq_true (by (with_reducible assumption))
        obtain ⟨ad255, e255, hx255_0, hx255_1, hx255_2⟩ := at_T110 HR0.out (ji13) p255 q255
        obtain rfl : ad254 = ad255 := (by injection e255)
        replace p255 := eq_true p255
        replace q255 := eq_true q255
        have p256 : 0 ≤ (x3_1 : Int) := of_decide_eq_true (by (with_reducible assumption))
        have q256 : x3_1 < (l0.length : Int) := of_decide_eq_true (by (with_reducible assumption))
        obtain ⟨ad256, e256, hx256_0, hx256_1, hx256_2⟩ := at_T110 HR0.out x3_1 p256 q256
        obtain rfl : ad254 = ad256 := (by injection e256)
        replace p256 := eq_true p256
        replace q256 := eq_true q256
        have p257 : 0 ≤ ((ji13) : Int) := of_decide_eq_true (by (with_reducible assumption))
        have q257 : (ji13) < (l0.length : Int) := of_decide_eq_true (by (with_reducible assumption))
        obtain ⟨ad257, e257, hx257_0, hx257_1, hx257_2⟩ := at_T110 HR0.out (ji13) p257 q257
        obtain rfl : ad254 = ad257 := (by injection e257)
        replace p257 := eq_true p257
        replace q257 := eq_true q257
        have p258 : 0 ≤ (x3_1 : Int) := of_decide_eq_true (by (with_reducible assumption))
        have q258 : x3_1 < (l0.length : Int) := of_decide_eq_true (by (with_reducible assumption))
        obtain ⟨ad258, e258, hx258_0, hx258_1, hx258_2⟩ := at_T110 HR0.out x3_1 p258 q258
        obtain rfl : ad254 = ad258 := (by injection e258)
        replace p258 := eq_true p258
        replace q258 := eq_true q258
        have p259 : 0 ≤ ((ji13) : Int) := of_decide_eq_true (by (with_reducible assumption))
        have q259 : (ji13) < (l0.length : Int) := of_decide_eq_true (by (with_reducible assumption))
        obtain ⟨ad259, e259, hx259_0, hx259_1, hx259_2⟩ := at_T110 HR0.out (ji13) p259 q259
        obtain rfl : ad254 = ad259 := (by injection e259)
        replace p259 := eq_true p259
        replace q259 := eq_true q259
        go_wp2
        repeat (go_quiet (fail); try go_wp2)
        go_roundg kj2
        case measure => have := HK1.out; have := HJ2.out; omega
        case rel => exact ⟨(wrap64 (x3_1 + 1)), (by rfl), H', ⟨by have := HK1.out; have := HJ2.out; omega⟩, by repeat (first | exact Drawn0.refl _ | apply Drawn0.step)⟩
       rw [if_neg c17] at H
       have c17b0 : ((wrap64 (((rd_T110 l0 x3_1).f0) - 1)) == ((rd_T110 l0 (ji13)).f1)) = false := beq_eq_false_iff_ne.mpr c17
       have c17b1 : ((wrap64 (((rd_T110 l0 x3_1).f0) - 1)) != ((rd_T110 l0 (ji13)).f1)) = true := bne_iff_ne.mpr c17
       have H' := am_ H
       clear H
       have p254 : 0 ≤ (x3_1 : Int) := of_decide_eq_true (by (with_reducible assumption))
       have q254 : x3_1 < (l0.length : Int) := of_decide_eq_true (by (with_reducible assumption))
       obtain ⟨ad254, e254, hx254_0, hx254_1, hx254_2⟩ := at_T110 HR0.out x3_1 p254 q254
       cases e254
       replace p254 := eq_true p254
       replace q254 := eq_true q254
       have p255 : 0 ≤ ((ji13) : Int) := of_decide_eq_true (by (with_reducible assumption))
       have q255 : (ji13) < (l0.length : Int) := of_decide_eq_true (by (with_reducible assumption))
       obtain ⟨ad255, e255, hx255_0, hx255_1, hx255_2⟩ := at_T110 HR0.out (ji13) p255 q255
       obtain rfl : ad254 = ad255 := (by injection e255)
       replace p255 := eq_true p255
       replace q255 := eq_true q255
       have p256 : 0 ≤ (x3_1 : Int) := of_decide_eq_true (by (with_reducible assumption))
       have q256 : x3_1 < (l0.length : Int) := of_decide_eq_true (by (with_reducible assumption))
       obtain ⟨ad256, e256, hx256_0, hx256_1, hx256_2⟩ := at_T110 HR0.out x3_1 p256 q256
       obtain rfl : ad254 = ad256 := (by injection e256)
       replace p256 := eq_true p256
       replace q256 := eq_true q256
       have p257 : 0 ≤ ((ji13) : Int) := of_decide_eq_true (by (with_reducible assumption))
       have q257 : (ji13) < (l0.length : Int) := of_decide_eq_true (by (with_reducible assumption))
       obtain ⟨ad257, e257, hx257_0, hx257_1, hx257_2⟩ := at_T110 HR0.out (ji13) p257 q257
       obtain rfl : ad254 = ad257 := (by injection e257)
       replace p257 := eq_true p257
       replace q257 := eq_true q257
       go_wp2
       repeat (go_quiet (fail); try go_wp2)
       go_roundg kj2
       case measure => have := HK1.out; have := HJ2.out; omega
       case rel => exact ⟨(wrap64 (x3_1 + 1)), (by rfl), H', ⟨by have := HK1.out; have := HJ2.out; omega⟩, by repeat (first | exact Drawn0.refl _ | apply Drawn0.step)⟩
      rw [if_neg c15] at H
      exact absurd H (by simp)
     rw [if_neg c14] at H
     exact absurd H (by simp)
    rw [if_neg c12] at H
    exact absurd H (by simp)
   rw [if_neg c11] at H
   exact absurd H (by simp)
  rw [if_neg c10] at H
  have c10b0 : decide (0 < x3_1) = false := decide_eq_false c10
  clear c10
  have H' := am_ H
  clear H
  go_wp2
  repeat (go_quiet (fail); try go_wp2)
  go_roundg kj2
  case measure => have := HK1.out; have := HJ2.out; omega
  case rel => exact ⟨(wrap64 (x3_1 + 1)), (by rfl), H', ⟨by have := HK1.out; have := HJ2.out; omega⟩, by repeat (first | exact Drawn0.refl _ | apply Drawn0.step)⟩
 rw [if_neg c2] at H
 have c2b0 : decide (x3_1 < (l0.length : Int)) = false := decide_eq_false c2
 clear c2
 obtain rfl := Option.some.inj H
 go_wp2
 repeat (go_quiet (fail); try go_wp2)
 go_ret
 exact ⟨by first | rfl | (simp; done) | (simp [*]; done), by repeat (first | exact Drawn0.refl _ | apply Drawn0.step)⟩
def grapevineref08_At.l0 : Nat → List (S110) → Int → Int → Option (Int)
 | 0, _, _, _ => none
 | k + 1, x0, x1, x5 => if x5 < (x0.length : Int) then (if 0 ≤ x5 then (if ((rd_T110 x0 x5).f0) ≤ x1 then (if x1 ≤ ((rd_T110 x0 x5).f1) then (some ((rd_T110 x0 x5).f2)) else (grapevineref08_At.l0 k x0 x1 (wrap64 (x5 + 1)))) else (grapevineref08_At.l0 k x0 x1 (wrap64 (x5 + 1)))) else (none)) else (some 0)
def grapevineref08_At.f (k : Nat) (l0 : List (S110)) (a1 : Int) : Option (Int) := grapevineref08_At.l0 k l0 a1 0
set_option maxHeartbeats 8000000 in
set_option maxRecDepth 100000 in
theorem grapevineref08_At.calls (k : Nat) (A0 : Option Addr) (c0 : Nat) (l0 : List (S110)) (a1 : Int) (r : Int) (w : World) (hr0 : Kd.C k110 w A0 l0.length l0) (hc0 : l0.length ≤ c0) (h : grapevineref08_At.f k l0 a1 = some r) :
 Calls Tryd.prog 58 #[.slice A0 l0.length c0, .int .i64 a1] w fun e w' => e = .returned (.int .i64 r) ∧ Drawn0 w w' := by
 have HR0 := am_ hr0
 have HC0 := am_ hc0
 clear hr0 hc0
 have H : (grapevineref08_At.l0 k l0 a1 0) = some r := h
 clear h
 have H' := am_ H
 clear H
 go_enter Tryd.func58, Tryd.ntmps58
 go_wp2
 go_loopg [5] k (fun kq v5 w' => ∃ (x5_1 : Int), v5 = .int .i64 x5_1 ∧ Aside0 (grapevineref08_At.l0 kq l0 a1 x5_1 = some r) ∧ Aside0 (kq ≤ k) ∧ Drawn0 w w')
 case atStart => exact ⟨(0), (by rfl), H', ⟨Nat.le_refl _⟩, by repeat (exact Drawn0.refl _)⟩
 case round =>
 clear H'
 obtain ⟨x5_1, rfl, HA, HK1, ⟨m1, rfl⟩⟩ := hrel
 cases gk with
 | zero => exact absurd HA.out (by simp [grapevineref08_At.l0])
 | succ k1 =>
 have H := HA.out
 clear HA
 simp only [grapevineref08_At.l0] at H
 by_cases c3 : x5_1 < (l0.length : Int)
 ·
  rw [if_pos c3] at H
  have c3b0 : decide (x5_1 < (l0.length : Int)) = true := decide_eq_true c3
  clear c3
  by_cases c4 : 0 ≤ x5_1
  ·
   rw [if_pos c4] at H
   have c4b0 : decide (0 ≤ x5_1) = true := decide_eq_true c4
   clear c4
   by_cases c5 : ((rd_T110 l0 x5_1).f0) ≤ a1
   ·
    rw [if_pos c5] at H
    have c5b0 : decide (((rd_T110 l0 x5_1).f0) ≤ a1) = true := decide_eq_true c5
    clear c5
    by_cases c6 : a1 ≤ ((rd_T110 l0 x5_1).f1)
    ·
     rw [if_pos c6] at H
     have c6b0 : decide (a1 ≤ ((rd_T110 l0 x5_1).f1)) = true := decide_eq_true c6
     clear c6
     obtain rfl := Option.some.inj H
     have p260 : 0 ≤ (x5_1 : Int) := of_decide_eq_true (by (with_reducible assumption))
     have q260 : x5_1 < (l0.length : Int) := of_decide_eq_true (by (with_reducible assumption))
     obtain ⟨ad260, e260, hx260_0, hx260_1, hx260_2⟩ := at_T110 HR0.out x5_1 p260 q260
     cases e260
     replace p260 := eq_true p260
     replace q260 := eq_true q260
     have p261 : 0 ≤ (x5_1 : Int) := of_decide_eq_true (by (with_reducible assumption))
     have q261 : x5_1 < (l0.length : Int) := of_decide_eq_true (by (with_reducible assumption))
     obtain ⟨ad261, e261, hx261_0, hx261_1, hx261_2⟩ := at_T110 HR0.out x5_1 p261 q261
     obtain rfl : ad260 = ad261 := (by injection e261)
     replace p261 := eq_true p261
     replace q261 := eq_true q261
     have p262 : 0 ≤ (x5_1 : Int) := of_decide_eq_true (by (with_reducible assumption))
     have q262 : x5_1 < (l0.length : Int) := of_decide_eq_true (by (with_reducible assumption))
     obtain ⟨ad262, e262, hx262_0, hx262_1, hx262_2⟩ := at_T110 HR0.out x5_1 p262 q262
     obtain rfl : ad260 = ad262 := (by injection e262)
     replace p262 := eq_true p262
     replace q262 := eq_true q262
     go_wp2
     go_ret
     exact ⟨by first | rfl | (simp; done) | (simp [*]; done), by repeat (first | exact Drawn0.refl _ | apply Drawn0.step)⟩
    rw [if_neg c6] at H
    have c6b0 : decide (a1 ≤ ((rd_T110 l0 x5_1).f1)) = false := decide_eq_false c6
    clear c6
    have H' := am_ H
    clear H
    have p260 : 0 ≤ (x5_1 : Int) := of_decide_eq_true (by (with_reducible assumption))
    have q260 : x5_1 < (l0.length : Int) := of_decide_eq_true (by (with_reducible assumption))
    obtain ⟨ad260, e260, hx260_0, hx260_1, hx260_2⟩ := at_T110 HR0.out x5_1 p260 q260
    cases e260
    replace p260 := eq_true p260
    replace q260 := eq_true q260
    have p261 : 0 ≤ (x5_1 : Int) := of_decide_eq_true (by (with_reducible assumption))
    have q261 : x5_1 < (l0.length : Int) := of_decide_eq_true (by (with_reducible assumption))
    obtain ⟨ad261, e261, hx261_0, hx261_1, hx261_2⟩ := at_T110 HR0.out x5_1 p261 q261
    obtain rfl : ad260 = ad261 := (by injection e261)
    replace p261 := eq_true p261
    replace q261 := eq_true q261
    go_wp2
    go_roundg k1
    case measure => have := HK1.out; omega
    case rel => exact ⟨(wrap64 (x5_1 + 1)), (by rfl), H', ⟨by have := HK1.out; omega⟩, by repeat (first | exact Drawn0.refl _ | apply Drawn0.step)⟩
   rw [if_neg c5] at H
   have c5b0 : decide (((rd_T110 l0 x5_1).f0) ≤ a1) = false := decide_eq_false c5
   clear c5
   have H' := am_ H
   clear H
   have p260 : 0 ≤ (x5_1 : Int) := of_decide_eq_true (by (with_reducible assumption))
   have q260 : x5_1 < (l0.length : Int) := of_decide_eq_true (by (with_reducible assumption))
   obtain ⟨ad260, e260, hx260_0, hx260_1, hx260_2⟩ := at_T110 HR0.out x5_1 p260 q260
   cases e260
   replace p260 := eq_true p260
   replace q260 := eq_true q260
   go_wp2
   go_roundg k1
   case measure => have := HK1.out; omega
   case rel => exact ⟨(wrap64 (x5_1 + 1)), (by rfl), H', ⟨by have := HK1.out; omega⟩, by repeat (first | exact Drawn0.refl _ | apply Drawn0.step)⟩
  rw [if_neg c4] at H
  exact absurd H (by simp)
 rw [if_neg c3] at H
 have c3b0 : decide (x5_1 < (l0.length : Int)) = false := decide_eq_false c3
 clear c3
 obtain rfl := Option.some.inj H
 go_wp2
 go_ret
 exact ⟨by first | rfl | (simp; done) | (simp [*]; done), by repeat (first | exact Drawn0.refl _ | apply Drawn0.step)⟩
end Go.Proofs.YtoandmnefgimoaaDoor.PL
