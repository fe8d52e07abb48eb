-- PRINTED by gprint.py (a session's own driver over the kit's print): not trusted; Lean checks it.
import Derived.Test.YtpeacoppclmmlaaPTPPx0
namespace Go.Proofs.Ytpeacoppclmmlaa.PP
open Go.RowKit Go.Proofs.YtpeacoppclmmlaaW.PrintWords Go.Proofs.YtpeacoppclmmlaaW.PrintLast Go.Proofs.YtpeacoppclmmlaaW.PrintMore
attribute [local go_sem] max2_int min2_int max_two min_two max_three min_three max_four min_four   -- for this text's walks alone
set_option linter.unusedVariables false
set_option linter.unusedSimpArgs false
/-! ### grapevineref02_TakeUint: function 76 -/
mutual
def grapevineref02_TakeUint.j0 : Nat → List Int → Int → Bool → Option (Int × Int × Int)
 | 0, _, _, _ => none
 | k + 1, x0, x1, x18 => if x18 = true then (some (0, 0, 2)) else (grapevineref02_TakeUint.l0 k x0 x1 0 1 0)
def grapevineref02_TakeUint.l0 : Nat → List Int → Int → Int → Int → Int → Option (Int × Int × Int)
 | 0, _, _, _, _, _ => none
 | k + 1, x0, x1, x7, x8, x9 => if x9 < 10 then (if (wrap64 (x1 + x9)) ≥ (x0.length : Int) then (some (0, 0, 3)) else (if 0 ≤ (wrap64 (x1 + x9)) then (if (wrap64 (x1 + x9)) < (x0.length : Int) then (if x9 = 9 then (grapevineref02_TakeUint.j2 k x0 x1 x7 x8 x9 (rd x0 (wrap64 (x1 + x9))) (decide ((rd x0 (wrap64 (x1 + x9))) > 1))) else (grapevineref02_TakeUint.j2 k x0 x1 x7 x8 x9 (rd x0 (wrap64 (x1 + x9))) false)) else (none)) else (none))) else (some (0, 0, 6))
def grapevineref02_TakeUint.j2 : Nat → List Int → Int → Int → Int → Int → Int → Bool → Option (Int × Int × Int)
 | 0, _, _, _, _, _, _, _ => none
 | k + 1, x0, x1, x7, x8, x9, x10, x40 => if x40 = true then (some (0, 0, 6)) else (if x10 < 128 then (if x10 = 0 then (if x9 > 0 then (some (0, 0, 4)) else (some (IntKind.u64.wrap (x7 + (IntKind.u64.wrap ((IntKind.u64.wrap (Int.tmod x10 128)) * x8))), wrap64 ((wrap64 (x1 + x9)) + 1), 0))) else (some (IntKind.u64.wrap (x7 + (IntKind.u64.wrap ((IntKind.u64.wrap (Int.tmod x10 128)) * x8))), wrap64 ((wrap64 (x1 + x9)) + 1), 0))) else (grapevineref02_TakeUint.l0 k x0 x1 (IntKind.u64.wrap (x7 + (IntKind.u64.wrap ((IntKind.u64.wrap (Int.tmod x10 128)) * x8)))) (IntKind.u64.wrap (x8 * 128)) (wrap64 (x9 + 1))))
end
def grapevineref02_TakeUint.f (k : Nat) (l0 : List Int) (a1 : Int) : Option (Int × Int × Int) := if a1 < 0 then (grapevineref02_TakeUint.j0 k l0 a1 true) else (grapevineref02_TakeUint.j0 k l0 a1 (decide (a1 > (l0.length : Int))))
set_option maxHeartbeats 8000000 in
set_option maxRecDepth 100000 in
theorem grapevineref02_TakeUint.calls (k : Nat) (A0 : Option Addr) (c0 : Nat) (l0 : List Int) (a1 : Int) (r1 : Int) (r2 : Int) (r3 : Int) (w : World) (hr0 : Kd.C (Kd.int .u8) w A0 l0.length l0) (hc0 : l0.length ≤ c0) (h : grapevineref02_TakeUint.f k l0 a1 = some (r1, r2, r3)) :
 Calls Try.prog 76 #[.slice A0 l0.length c0, .int .i64 a1] w fun e w' => e = .returned (.tuple #[.int .u64 r1, .int .i64 r2, .int .i64 r3]) ∧ Drawn0 w w' := by
 have HR0 := Aside0.mk hr0
 have HC0 := Aside0.mk hc0
 clear hr0 hc0
 have H : (if a1 < 0 then (grapevineref02_TakeUint.j0 k l0 a1 true) else (grapevineref02_TakeUint.j0 k l0 a1 (decide (a1 > (l0.length : Int))))) = some (r1, r2, r3) := h
 clear h
 have HC3 := Aside0.mk H
 clear H
 go_enter Try.func76, Try.ntmps76
 go_upto_region 1 with (fail)
 go_cut [18] (fun v18 wc => ∃ (kq : Nat) (x18_2 : Bool), v18 = .bool x18_2 ∧ Aside0 (grapevineref02_TakeUint.j0 kq l0 a1 x18_2 = some (r1, r2, r3)) ∧ Aside0 (kq ≤ k) ∧ Drawn0 w wc)
 case first =>
  have H := HC3.out
  clear HC3
  by_cases c4 : a1 < 0
  ·
   rw [if_pos c4] at H
   have c4b0 : decide (a1 < 0) = true := decide_eq_true c4
   clear c4
   (skip)
   have H' := Aside0.mk H
   clear H
   go_wp2
   go_meet
   case rel => exact ⟨_, (true), (by rfl), H', ⟨by omega⟩, by repeat (exact Drawn0.refl _)⟩
  rw [if_neg c4] at H
  have c4b0 : decide (a1 < 0) = false := decide_eq_false c4
  clear c4
  (skip)
  have H' := Aside0.mk H
  clear H
  go_wp2
  go_meet
  case rel => exact ⟨_, (decide (a1 > (l0.length : Int))), (by rfl), H', ⟨by omega⟩, by repeat (exact Drawn0.refl _)⟩
 case rest =>
 clear HC3
 skip
 skip
 try clear c4b0
 obtain ⟨kq, x18_2, rfl, HA, HJ2, ⟨mc2, rfl⟩⟩ := hcut
 cases kq with
 | zero => exact absurd HA.out (by simp [grapevineref02_TakeUint.j0])
 | succ kj2 =>
 have H := HA.out
 clear HA
 simp only [grapevineref02_TakeUint.j0] at H
 by_cases c5 : x18_2 = true
 ·
  subst c5
  have H1 : (some (0, 0, 2)) = some (r1, r2, r3) := by rw [if_pos rfl] at H; exact H
  clear H
  have H := H1
  clear H1
  simp only [Option.some.injEq, Prod.mk.injEq] at H
  obtain ⟨rfl, rfl, rfl⟩ := H
  go_wp2
  go_ret3
  exact ⟨by rfl, by repeat (first | exact Drawn0.refl _ | apply Drawn0.step)⟩
 replace c5 := Bool.eq_false_iff.mpr c5
 subst c5
 have H1 : (grapevineref02_TakeUint.l0 kj2 l0 a1 0 1 0) = some (r1, r2, r3) := by rw [if_neg (show ¬ (false = true) by decide)] at H; exact H
 clear H
 have H := H1
 clear H1
 have H' := Aside0.mk H
 clear H
 go_wp2
 go_loopg [7, 8, 9] kj2 (fun kq v7 v8 v9 w' => ∃ (x7_2 : Int) (x8_2 : Int) (x9_2 : Int), v7 = .int .u64 x7_2 ∧ v8 = .int .u64 x8_2 ∧ v9 = .int .i64 x9_2 ∧ Aside0 (grapevineref02_TakeUint.l0 kq l0 a1 x7_2 x8_2 x9_2 = some (r1, r2, r3)) ∧ Aside0 (kq ≤ kj2) ∧ Drawn0 w w')
 case atStart => exact ⟨(0), (1), (0), (by rfl), (by rfl), (by rfl), H', ⟨Nat.le_refl _⟩, by repeat (first | exact Drawn0.refl _ | apply Drawn0.step)⟩
 case round =>
 clear H'
 skip
 skip
 skip
 try clear c4b0
 skip
 skip
 obtain ⟨x7_2, x8_2, x9_2, rfl, rfl, rfl, HA, HK2, ⟨m2, rfl⟩⟩ := hrel
 cases gk with
 | zero => exact absurd HA.out (by simp [grapevineref02_TakeUint.l0])
 | succ k2 =>
 have H := HA.out
 clear HA
 simp only [grapevineref02_TakeUint.l0] at H
 by_cases c6 : x9_2 < 10
 ·
  rw [if_pos c6] at H
  have c6b0 : decide (x9_2 < 10) = true := decide_eq_true c6
  clear c6
  by_cases c7 : (wrap64 (a1 + x9_2)) ≥ (l0.length : Int)
  ·
   rw [if_pos c7] at H
   have c7b0 : decide ((l0.length : Int) ≤ (wrap64 (a1 + x9_2))) = true := decide_eq_true c7
   clear c7
   simp only [Option.some.injEq, Prod.mk.injEq] at H
   obtain ⟨rfl, rfl, rfl⟩ := H
   go_wp2
   go_ret3
   exact ⟨by rfl, by repeat (first | exact Drawn0.refl _ | apply Drawn0.step)⟩
  rw [if_neg c7] at H
  have c7b0 : decide ((l0.length : Int) ≤ (wrap64 (a1 + x9_2))) = false := decide_eq_false c7
  clear c7
  obtain ⟨ji8, hji8⟩ : ∃ j_ : Int, (wrap64 (a1 + x9_2)) = j_ := ⟨_, rfl⟩
  replace H : (if 0 ≤ (ji8) then (if (ji8) < (l0.length : Int) then (if x9_2 = 9 then (grapevineref02_TakeUint.j2 k2 l0 a1 x7_2 x8_2 x9_2 (rd l0 (ji8)) (decide ((rd l0 (ji8)) > 1))) else (grapevineref02_TakeUint.j2 k2 l0 a1 x7_2 x8_2 x9_2 (rd l0 (ji8)) false)) else (none)) else (none)) = some (r1, r2, r3) := by (rw [hji8] at H; exact H)
  (try rw [hji8] at c7b0)
  have hji8w : (IntKind.i64.wrap (a1 + x9_2)) = ji8 := (i64_w _).trans hji8
  by_cases c9 : 0 ≤ (ji8)
  ·
   rw [if_pos c9] at H
   have c9b0 : decide (0 ≤ (ji8)) = true := decide_eq_true c9
   clear c9
   by_cases c10 : (ji8) < (l0.length : Int)
   ·
    rw [if_pos c10] at H
    have c10b0 : decide ((ji8) < (l0.length : Int)) = true := decide_eq_true c10
    clear c10
    have HC11 := Aside0.mk H
    clear H
    have p375 : 0 ≤ ((ji8) : Int) := of_decide_eq_true (by (with_reducible assumption))
    have q375 : (ji8) < (l0.length : Int) := of_decide_eq_true (by (with_reducible assumption))
    obtain ⟨ad375, e375, hx375_0⟩ := Kd.at_int HR0.out (ji8) p375 q375
    cases e375
    replace p375 := eq_true p375
    replace q375 := eq_true q375
    go_upto_region 11 with (fail)
    go_cut [40] (fun v40 wc => ∃ (kq : Nat) (x40_10 : Bool), v40 = .bool x40_10 ∧ Aside0 (grapevineref02_TakeUint.j2 kq l0 a1 x7_2 x8_2 x9_2 (rd l0 (ji8)) x40_10 = some (r1, r2, r3)) ∧ Aside0 (kq ≤ k2) ∧ Drawn0 w wc)
    case first =>
     have H := HC11.out
     clear HC11
     by_cases c12 : x9_2 = 9
     ·
      rw [if_pos c12] at H
      have c12b0 : (x9_2 == 9) = true := beq_iff_eq.mpr c12
      have c12b1 : (x9_2 != 9) = false := bne_eq_false_iff_eq.mpr c12
      clear c12
      (skip)
      have H' := Aside0.mk H
      clear H
      go_wp2
      go_meet
      case rel => exact ⟨_, (decide ((rd l0 (ji8)) > 1)), (by rfl), H', ⟨by have := HJ2.out; have := HK2.out; omega⟩, by repeat (first | exact Drawn0.refl _ | apply Drawn0.step)⟩
     rw [if_neg c12] at H
     have c12b0 : (x9_2 == 9) = false := beq_eq_false_iff_ne.mpr c12
     have c12b1 : (x9_2 != 9) = true := bne_iff_ne.mpr c12
     (skip)
     have H' := Aside0.mk H
     clear H
     go_wp2
     go_meet
     case rel => exact ⟨_, (false), (by rfl), H', ⟨by have := HJ2.out; have := HK2.out; omega⟩, by repeat (first | exact Drawn0.refl _ | apply Drawn0.step)⟩
    case rest =>
    clear HC11
    skip
    skip
    skip
    skip
    skip
    skip
    skip
    try clear c4b0
    skip
    skip
    try clear c6b0
    skip
    skip
    try clear c7b0
    skip
    try clear c9b0
    skip
    try clear c10b0
    skip
    try clear c12b0
    try clear c12b1
    try clear hx375_0
    skip
    try clear p375
    try clear q375
    obtain ⟨kq, x40_10, rfl, HA, HJ10, ⟨mc10, rfl⟩⟩ := hcut
    cases kq with
    | zero => exact absurd HA.out (by simp [grapevineref02_TakeUint.j2])
    | succ kj10 =>
    have H := HA.out
    clear HA
    simp only [grapevineref02_TakeUint.j2] at H
    by_cases c13 : x40_10 = true
    ·
     subst c13
     have H1 : (some (0, 0, 6)) = some (r1, r2, r3) := by rw [if_pos rfl] at H; exact H
     clear H
     have H := H1
     clear H1
     simp only [Option.some.injEq, Prod.mk.injEq] at H
     obtain ⟨rfl, rfl, rfl⟩ := H
     go_wp2
     go_ret3
     exact ⟨by first | rfl | (simp only [← hji8] <;> (rfl)), by repeat (first | exact Drawn0.refl _ | apply Drawn0.step)⟩
    replace c13 := Bool.eq_false_iff.mpr c13
    subst c13
    have H1 : (if (rd l0 (ji8)) < 128 then (if (rd l0 (ji8)) = 0 then (if x9_2 > 0 then (some (0, 0, 4)) else (some (IntKind.u64.wrap (x7_2 + (IntKind.u64.wrap ((IntKind.u64.wrap (Int.tmod (rd l0 (ji8)) 128)) * x8_2))), wrap64 ((wrap64 (a1 + x9_2)) + 1), 0))) else (some (IntKind.u64.wrap (x7_2 + (IntKind.u64.wrap ((IntKind.u64.wrap (Int.tmod (rd l0 (ji8)) 128)) * x8_2))), wrap64 ((wrap64 (a1 + x9_2)) + 1), 0))) else (grapevineref02_TakeUint.l0 kj10 l0 a1 (IntKind.u64.wrap (x7_2 + (IntKind.u64.wrap ((IntKind.u64.wrap (Int.tmod (rd l0 (ji8)) 128)) * x8_2)))) (IntKind.u64.wrap (x8_2 * 128)) (wrap64 (x9_2 + 1)))) = some (r1, r2, r3) := by rw [if_neg (show ¬ (false = true) by decide)] at H; exact H
    clear H
    have H := H1
    clear H1
    by_cases c14 : (rd l0 (ji8)) < 128
    ·
     rw [if_pos c14] at H
     have c14b0 : decide ((rd l0 (ji8)) < 128) = true := decide_eq_true c14
     clear c14
     by_cases c15 : (rd l0 (ji8)) = 0
     ·
      rw [if_pos c15] at H
      have c15b0 : ((rd l0 (ji8)) == 0) = true := beq_iff_eq.mpr c15
      have c15b1 : ((rd l0 (ji8)) != 0) = false := bne_eq_false_iff_eq.mpr c15
      clear c15
      by_cases c16 : x9_2 > 0
      ·
       rw [if_pos c16] at H
       have c16b0 : decide (0 < x9_2) = true := decide_eq_true c16
       clear c16
       simp only [Option.some.injEq, Prod.mk.injEq] at H
       obtain ⟨rfl, rfl, rfl⟩ := H
       go_wp2
       go_ret3
       exact ⟨by first | rfl | (simp only [← hji8] <;> (rfl)), by repeat (first | exact Drawn0.refl _ | apply Drawn0.step)⟩
      rw [if_neg c16] at H
      have c16b0 : decide (0 < x9_2) = false := decide_eq_false c16
      clear c16
      simp only [Option.some.injEq, Prod.mk.injEq] at H
      obtain ⟨rfl, rfl, rfl⟩ := H
      go_wp2
      go_ret3
      exact ⟨by first | rfl | (simp only [← hji8] <;> (rfl)), by repeat (first | exact Drawn0.refl _ | apply Drawn0.step)⟩
     rw [if_neg c15] at H
     have c15b0 : ((rd l0 (ji8)) == 0) = false := beq_eq_false_iff_ne.mpr c15
     have c15b1 : ((rd l0 (ji8)) != 0) = true := bne_iff_ne.mpr c15
     simp only [Option.some.injEq, Prod.mk.injEq] at H
     obtain ⟨rfl, rfl, rfl⟩ := H
     go_wp2
     go_ret3
     exact ⟨by first | rfl | (simp only [← hji8] <;> (rfl)), by repeat (first | exact Drawn0.refl _ | apply Drawn0.step)⟩
    rw [if_neg c14] at H
    have c14b0 : decide ((rd l0 (ji8)) < 128) = false := decide_eq_false c14
    clear c14
    have H' := Aside0.mk H
    clear H
    go_wp2
    go_roundg kj10
    case measure => have := HJ2.out; have := HK2.out; have := HJ10.out; omega
    case rel => exact ⟨(IntKind.u64.wrap (x7_2 + (IntKind.u64.wrap ((IntKind.u64.wrap (Int.tmod (rd l0 (ji8)) 128)) * x8_2)))), (IntKind.u64.wrap (x8_2 * 128)), (wrap64 (x9_2 + 1)), (by rfl), (by rfl), (by rfl), H', ⟨by have := HJ2.out; have := HK2.out; have := HJ10.out; omega⟩, by repeat (first | exact Drawn0.refl _ | apply Drawn0.step)⟩
   rw [if_neg c10] at H
   exact absurd H (by simp)
  rw [if_neg c9] at H
  exact absurd H (by simp)
 rw [if_neg c6] at H
 have c6b0 : decide (x9_2 < 10) = false := decide_eq_false c6
 clear c6
 simp only [Option.some.injEq, Prod.mk.injEq] at H
 obtain ⟨rfl, rfl, rfl⟩ := H
 go_wp2
 go_ret3
 exact ⟨by rfl, by repeat (first | exact Drawn0.refl _ | apply Drawn0.step)⟩
/-! ### grapevineref08_Take: function 51 -/
mutual
def grapevineref08_Take.l0 : Nat → List Int → Int → Int → List (S43) → Int → Int → Option ((List (S43)) × Int × Int)
 | 0, _, _, _, _, _, _ => none
 | k + 1, x0, x7, x8, x10, x11, x12 => if x12 < (wrap64 (x7)) then ((grapevineref02_TakeUint.f k x0 x8).bind fun bt382 => (if bt382.2.2 = 0 then ((grapevineref02_TakeUint.f k x0 bt382.2.1).bind fun bt385 => (if bt385.2.2 = 0 then (if bt385.2.1 = (x0.length : Int) then (some (([] : List (S43)), 0, 3)) else (if bt382.1 > 1099511627776 then (grapevineref08_Take.j1 k x0 x7 x10 x11 x12 bt382.1 bt385.1 bt385.2.1 true) else (grapevineref08_Take.j1 k x0 x7 x10 x11 x12 bt382.1 bt385.1 bt385.2.1 (decide (bt385.1 > 1099511627776))))) else (some (([] : List (S43)), 0, bt385.2.2)))) else (some (([] : List (S43)), 0, bt382.2.2)))) else (some (x10, x8, 0))
def grapevineref08_Take.j1 : Nat → List Int → Int → List (S43) → Int → Int → Int → Int → Int → Bool → Option ((List (S43)) × Int × Int)
 | 0, _, _, _, _, _, _, _, _, _ => none
 | k + 1, x0, x7, x10, x11, x12, x13, x16, x17, x68 => if x68 = true then (some (([] : List (S43)), 0, 4)) else (if 0 ≤ x17 then (if x17 < (x0.length : Int) then (if (wrap64 ((wrap64 ((wrap64 (x11 + 1)) + (wrap64 (x13)))) + (wrap64 (x16)))) > 1099511627776 then (some (([] : List (S43)), 0, 4)) else (if (wrap64 (rd x0 x17)) < 1 then (some (([] : List (S43)), 0, 4)) else (if (wrap64 (rd x0 x17)) > 3 then (some (([] : List (S43)), 0, 4)) else (if x12 > 0 then (if x13 = 0 then (if 0 ≤ (wrap64 (x12 - 1)) then (if (wrap64 (x12 - 1)) < (x10.length : Int) then (if (wrap64 (rd x0 x17)) = ((rd_T43 x10 (wrap64 (x12 - 1))).f2) then (some (([] : List (S43)), 0, 4)) else (if x10.length < 5864062014805 then (grapevineref08_Take.l0 k x0 x7 (wrap64 (x17 + 1)) (x10 ++ [(⟨wrap64 ((wrap64 (x11 + 1)) + (wrap64 (x13))), wrap64 ((wrap64 ((wrap64 (x11 + 1)) + (wrap64 (x13)))) + (wrap64 (x16))), wrap64 (rd x0 x17)⟩ : S43)]) (wrap64 ((wrap64 ((wrap64 (x11 + 1)) + (wrap64 (x13)))) + (wrap64 (x16)))) (wrap64 (x12 + 1))) else (none))) else (none)) else (none)) else (if x10.length < 5864062014805 then (grapevineref08_Take.l0 k x0 x7 (wrap64 (x17 + 1)) (x10 ++ [(⟨wrap64 ((wrap64 (x11 + 1)) + (wrap64 (x13))), wrap64 ((wrap64 ((wrap64 (x11 + 1)) + (wrap64 (x13)))) + (wrap64 (x16))), wrap64 (rd x0 x17)⟩ : S43)]) (wrap64 ((wrap64 ((wrap64 (x11 + 1)) + (wrap64 (x13)))) + (wrap64 (x16)))) (wrap64 (x12 + 1))) else (none))) else (if x10.length < 5864062014805 then (grapevineref08_Take.l0 k x0 x7 (wrap64 (x17 + 1)) (x10 ++ [(⟨wrap64 ((wrap64 (x11 + 1)) + (wrap64 (x13))), wrap64 ((wrap64 ((wrap64 (x11 + 1)) + (wrap64 (x13)))) + (wrap64 (x16))), wrap64 (rd x0 x17)⟩ : S43)]) (wrap64 ((wrap64 ((wrap64 (x11 + 1)) + (wrap64 (x13)))) + (wrap64 (x16)))) (wrap64 (x12 + 1))) else (none)))))) else (none)) else (none))
end
def grapevineref08_Take.f (k : Nat) (l0 : List Int) (a1 : Int) : Option ((List (S43)) × Int × Int) := (grapevineref02_TakeUint.f k l0 a1).bind fun bt376 => (if bt376.2.2 = 0 then (if bt376.1 > 256 then (some (([] : List (S43)), 0, 6)) else (grapevineref08_Take.l0 k l0 bt376.1 bt376.2.1 (([] : List (S43))) 0 0)) else (some (([] : List (S43)), 0, bt376.2.2)))
set_option maxHeartbeats 8000000 in
set_option maxRecDepth 100000 in
theorem grapevineref08_Take.calls (k : Nat) (A0 : Option Addr) (c0 : Nat) (l0 : List Int) (a1 : Int) (r1 : List (S43)) (r2 : Int) (r3 : Int) (w : World) (hr0 : Kd.C (Kd.int .u8) w A0 l0.length l0) (hc0 : l0.length ≤ c0) (h : grapevineref08_Take.f k l0 a1 = some (r1, r2, r3)) :
 Calls Try.prog 51 #[.slice A0 l0.length c0, .int .i64 a1] w fun e w' => ∃ v0_ : Value, e = .returned (.tuple #[v0_, .int .i64 r2, .int .i64 r3]) ∧ Kd.R k43 43 w' w.heap.size (fun _ => True) v0_ r1 ∧ Below w.heap.size w w' := by
 have hu43 := Try.underlying43
 have HR0 := Aside0.mk hr0
 have HC0 := Aside0.mk hc0
 clear hr0 hc0
 have HB := Aside0.mk (Below.refl w.heap.size w)
 have H : ((grapevineref02_TakeUint.f k l0 a1).bind fun bt376 => (if bt376.2.2 = 0 then (if bt376.1 > 256 then (some (([] : List (S43)), 0, 6)) else (grapevineref08_Take.l0 k l0 bt376.1 bt376.2.1 (([] : List (S43))) 0 0)) else (some (([] : List (S43)), 0, bt376.2.2)))) = some (r1, r2, r3) := h
 clear h
 replace H := Option.bind_eq_some_iff.mp H
 obtain ⟨⟨t376, t377, t378⟩, A30, H⟩ := H
 replace H : (if t378 = 0 then (if t376 > 256 then (some (([] : List (S43)), 0, 6)) else (grapevineref08_Take.l0 k l0 t376 t377 (([] : List (S43))) 0 0)) else (some (([] : List (S43)), 0, t378))) = some (r1, r2, r3) := H
 have A3 := Aside0.mk A30
 clear A30
 by_cases c4 : t378 = 0
 ·
  rw [if_pos c4] at H
  have c4b0 : (t378 == 0) = true := beq_iff_eq.mpr c4
  have c4b1 : (t378 != 0) = false := bne_eq_false_iff_eq.mpr c4
  clear c4
  by_cases c5 : t376 > 256
  ·
   rw [if_pos c5] at H
   have c5b0 : decide (256 < t376) = true := decide_eq_true c5
   clear c5
   simp only [Option.some.injEq, Prod.mk.injEq] at H
   obtain ⟨rfl, rfl, rfl⟩ := H
   go_enter Try.func51, Try.ntmps51
   go_wp2_with ((go_at_call 76; (with_reducible refine (grapevineref02_TakeUint.calls k _ _ l0 a1 t376 t377 t378 _ ?side1 ?side2 A3.out).mono ?_); (case side1 => repeat (exact HR0.out)); (case side2 => exact HC0.out); rintro e w' ⟨rfl, ⟨nd, rfl⟩⟩))
   repeat (go_quiet (first | (go_at_call 76; (with_reducible refine (grapevineref02_TakeUint.calls k _ _ l0 a1 t376 t377 t378 _ ?side1 ?side2 A3.out).mono ?_); (case side1 => repeat (first | exact HR0.out | (with_reducible refine Kd.C_alloc ?_ _) | (with_reducible refine Kd.C_drewN ?_ _) | (with_reducible refine Kd.C_drew ?_))); (case side2 => exact HC0.out); rintro e w' ⟨rfl, ⟨nd, rfl⟩⟩; (try first | exact ⟨rfl, _, World.drewN_drewN _ _ _⟩ | exact ⟨rfl, _, Eq.trans (World.drewN_drewN _ _ _) (congrArg (World.drewN _) (Nat.add_assoc _ _ _))⟩))); try go_wp2_with (first | (go_at_call 76; (with_reducible refine (grapevineref02_TakeUint.calls k _ _ l0 a1 t376 t377 t378 _ ?side1 ?side2 A3.out).mono ?_); (case side1 => repeat (first | exact HR0.out | (with_reducible refine Kd.C_alloc ?_ _) | (with_reducible refine Kd.C_drewN ?_ _) | (with_reducible refine Kd.C_drew ?_))); (case side2 => exact HC0.out); rintro e w' ⟨rfl, ⟨nd, rfl⟩⟩; (try first | exact ⟨rfl, _, World.drewN_drewN _ _ _⟩ | exact ⟨rfl, _, Eq.trans (World.drewN_drewN _ _ _) (congrArg (World.drewN _) (Nat.add_assoc _ _ _))⟩))))
   go_ret3
   exact ⟨_, by rfl, by exact Kd.R_nil _ _ _ _ _, by repeat (with_reducible first | exact HB.out | apply pw_below_drewN)⟩
  rw [if_neg c5] at H
  have c5b0 : decide (256 < t376) = false := decide_eq_false c5
  clear c5
  obtain ⟨y379, hy379⟩ : ∃ y_ : List (S43), y_ = (([] : List (S43))) := ⟨_, rfl⟩
  replace H : (grapevineref08_Take.l0 k l0 t376 t377 y379 0 0) = some (r1, r2, r3) := by (rw [hy379]; with_reducible exact H)
  have Ny379 := Aside0.mk hy379
  clear hy379
  have H' := Aside0.mk H
  clear H
  go_enter Try.func51, Try.ntmps51
  go_wp2_with (first | (go_at_call 76; (with_reducible refine (grapevineref02_TakeUint.calls k _ _ l0 a1 t376 t377 t378 _ ?side1 ?side2 A3.out).mono ?_); (case side1 => repeat (exact HR0.out)); (case side2 => exact HC0.out); rintro e w' ⟨rfl, ⟨nd, rfl⟩⟩) | ((with_reducible refine gate_dst (N := 32) rfl ?_); refine Kd.R_lit k43 _ 43 ?hg (N := 32) ?hd (xs := ([] : List (S43))) (inner := []) (ok := fun _ => True) (okp := fun _ => True) ?hr ?hp (fun _ hk => hk) trivial (Below.refl _ _) (Nat.le_refl _) (by simp) ?_; (case hd => rfl); (case hg => rfl); (case hr => (go_simp; done)); (case hp => exact (Reps.none _ _)); intro v380 w6 ho7 hb hg_ hnew_; clear hg_ hnew_; (rw [← Ny379.out] at ho7); have n0_ := Aside0.mk (Kd.R_lower ho7 (below_size (by repeat (with_reducible first | exact HB.out | apply pw_below_drewN)))); have n1_ := Aside0.mk (below_step (by repeat (with_reducible first | exact HB.out | apply pw_below_drewN)) hb); clear HB; have HO381 := n0_; have HB := n1_; clear n0_ n1_; clear hb ho7))
  skip
  go_loopg [8, 10, 11, 12] k (fun kq v8 v10 v11 v12 w' => ∃ (x8_1 : Int) (x10_1 : List (S43)) (x11_1 : Int) (x12_1 : Int), v8 = .int .i64 x8_1 ∧ v11 = .int .i64 x11_1 ∧ v12 = .int .i64 x12_1 ∧ Aside0 (grapevineref08_Take.l0 kq l0 t376 x8_1 x10_1 x11_1 x12_1 = some (r1, r2, r3)) ∧ Aside0 (kq ≤ k) ∧ Aside0 (Kd.R k43 43 w' w.heap.size (fun _ => True) v10 x10_1) ∧ Aside0 (Below w.heap.size w w'))
  case atStart => exact ⟨(t377), (y379), (0), (0), (by rfl), (by rfl), (by rfl), H', ⟨Nat.le_refl _⟩, ⟨by exact HO381.out⟩, ⟨by repeat (with_reducible exact HB.out)⟩⟩
  case round =>
  clear H'
  skip
  skip
  try clear c4b0
  try clear c4b1
  skip
  try clear c5b0
  obtain ⟨x8_1, x10_1, x11_1, x12_1, rfl, rfl, rfl, HA, HK1, HO_10, HB⟩ := hrel
  cases gk with
  | zero => exact absurd HA.out (by simp [grapevineref08_Take.l0])
  | succ k1 =>
  have H := HA.out
  clear HA
  simp only [grapevineref08_Take.l0] at H
  by_cases c8 : x12_1 < (wrap64 (t376))
  ·
   rw [if_pos c8] at H
   have c8b0 : decide (x12_1 < (wrap64 (t376))) = true := decide_eq_true c8
   clear c8
   replace H := Option.bind_eq_some_iff.mp H
   obtain ⟨⟨t382, t383, t384⟩, A90, H⟩ := H
   replace H : (if t384 = 0 then ((grapevineref02_TakeUint.f k1 l0 t383).bind fun bt385 => (if bt385.2.2 = 0 then (if bt385.2.1 = (l0.length : Int) then (some (([] : List (S43)), 0, 3)) else (if t382 > 1099511627776 then (grapevineref08_Take.j1 k1 l0 t376 x10_1 x11_1 x12_1 t382 bt385.1 bt385.2.1 true) else (grapevineref08_Take.j1 k1 l0 t376 x10_1 x11_1 x12_1 t382 bt385.1 bt385.2.1 (decide (bt385.1 > 1099511627776))))) else (some (([] : List (S43)), 0, bt385.2.2)))) else (some (([] : List (S43)), 0, t384))) = some (r1, r2, r3) := H
   have A9 := Aside0.mk A90
   clear A90
   by_cases c10 : t384 = 0
   ·
    rw [if_pos c10] at H
    have c10b0 : (t384 == 0) = true := beq_iff_eq.mpr c10
    have c10b1 : (t384 != 0) = false := bne_eq_false_iff_eq.mpr c10
    clear c10
    replace H := Option.bind_eq_some_iff.mp H
    obtain ⟨⟨t385, t386, t387⟩, A110, H⟩ := H
    replace H : (if t387 = 0 then (if t386 = (l0.length : Int) then (some (([] : List (S43)), 0, 3)) else (if t382 > 1099511627776 then (grapevineref08_Take.j1 k1 l0 t376 x10_1 x11_1 x12_1 t382 t385 t386 true) else (grapevineref08_Take.j1 k1 l0 t376 x10_1 x11_1 x12_1 t382 t385 t386 (decide (t385 > 1099511627776))))) else (some (([] : List (S43)), 0, t387))) = some (r1, r2, r3) := H
    have A11 := Aside0.mk A110
    clear A110
    by_cases c12 : t387 = 0
    ·
     rw [if_pos c12] at H
     have c12b0 : (t387 == 0) = true := beq_iff_eq.mpr c12
     have c12b1 : (t387 != 0) = false := bne_eq_false_iff_eq.mpr c12
     clear c12
     by_cases c13 : t386 = (l0.length : Int)
     ·
      rw [if_pos c13] at H
      have c13b0 : (t386 == (l0.length : Int)) = true := beq_iff_eq.mpr c13
      have c13b1 : (t386 != (l0.length : Int)) = false := bne_eq_false_iff_eq.mpr c13
      clear c13
      simp only [Option.some.injEq, Prod.mk.injEq] at H
      obtain ⟨rfl, rfl, rfl⟩ := H
      go_wp2_with (first | (go_at_call 76; (with_reducible refine (grapevineref02_TakeUint.calls k1 _ _ l0 x8_1 t382 t383 t384 _ ?side1 ?side2 A9.out).mono ?_); (case side1 => repeat (exact (Kd.C_below HR0.out HB.out))); (case side2 => exact HC0.out); rintro e w' ⟨rfl, ⟨nd, rfl⟩⟩) | (go_at_call 76; (with_reducible refine (grapevineref02_TakeUint.calls k1 _ _ l0 t383 t385 t386 t387 _ ?side1 ?side2 A11.out).mono ?_); (case side1 => repeat (exact (Kd.C_below HR0.out (by repeat (with_reducible first | exact HB.out | apply pw_below_drewN))))); (case side2 => exact HC0.out); rintro e w' ⟨rfl, ⟨nd, rfl⟩⟩))
      repeat (go_quiet (first | (go_at_call 76; (with_reducible refine (grapevineref02_TakeUint.calls k1 _ _ l0 x8_1 t382 t383 t384 _ ?side1 ?side2 A9.out).mono ?_); (case side1 => repeat (first | exact (Kd.C_below HR0.out HB.out) | (with_reducible refine Kd.C_alloc ?_ _) | (with_reducible refine Kd.C_drewN ?_ _) | (with_reducible refine Kd.C_drew ?_))); (case side2 => exact HC0.out); rintro e w' ⟨rfl, ⟨nd, rfl⟩⟩; (try first | exact ⟨rfl, _, World.drewN_drewN _ _ _⟩ | exact ⟨rfl, _, Eq.trans (World.drewN_drewN _ _ _) (congrArg (World.drewN _) (Nat.add_assoc _ _ _))⟩)) | (go_at_call 76; (with_reducible refine (grapevineref02_TakeUint.calls k1 _ _ l0 t383 t385 t386 t387 _ ?side1 ?side2 A11.out).mono ?_); (case side1 => repeat (first | exact (Kd.C_below HR0.out (by repeat (first | (with_reducible first | exact HB.out | apply below_alloc | apply pw_below_drewN | apply below_drew1) | exact HB.out))) | (with_reducible refine Kd.C_alloc ?_ _) | (with_reducible refine Kd.C_drewN ?_ _) | (with_reducible refine Kd.C_drew ?_))); (case side2 => exact HC0.out); rintro e w' ⟨rfl, ⟨nd, rfl⟩⟩; (try first | exact ⟨rfl, _, World.drewN_drewN _ _ _⟩ | exact ⟨rfl, _, Eq.trans (World.drewN_drewN _ _ _) (congrArg (World.drewN _) (Nat.add_assoc _ _ _))⟩))); try go_wp2_with (first | (go_at_call 76; (with_reducible refine (grapevineref02_TakeUint.calls k1 _ _ l0 x8_1 t382 t383 t384 _ ?side1 ?side2 A9.out).mono ?_); (case side1 => repeat (first | exact (Kd.C_below HR0.out HB.out) | (with_reducible refine Kd.C_alloc ?_ _) | (with_reducible refine Kd.C_drewN ?_ _) | (with_reducible refine Kd.C_drew ?_))); (case side2 => exact HC0.out); rintro e w' ⟨rfl, ⟨nd, rfl⟩⟩; (try first | exact ⟨rfl, _, World.drewN_drewN _ _ _⟩ | exact ⟨rfl, _, Eq.trans (World.drewN_drewN _ _ _) (congrArg (World.drewN _) (Nat.add_assoc _ _ _))⟩)) | (go_at_call 76; (with_reducible refine (grapevineref02_TakeUint.calls k1 _ _ l0 t383 t385 t386 t387 _ ?side1 ?side2 A11.out).mono ?_); (case side1 => repeat (first | exact (Kd.C_below HR0.out (by repeat (first | (with_reducible first | exact HB.out | apply below_alloc | apply pw_below_drewN | apply below_drew1) | exact HB.out))) | (with_reducible refine Kd.C_alloc ?_ _) | (with_reducible refine Kd.C_drewN ?_ _) | (with_reducible refine Kd.C_drew ?_))); (case side2 => exact HC0.out); rintro e w' ⟨rfl, ⟨nd, rfl⟩⟩; (try first | exact ⟨rfl, _, World.drewN_drewN _ _ _⟩ | exact ⟨rfl, _, Eq.trans (World.drewN_drewN _ _ _) (congrArg (World.drewN _) (Nat.add_assoc _ _ _))⟩))))
      go_ret3
      exact ⟨_, by rfl, by exact Kd.R_nil _ _ _ _ _, by repeat (with_reducible first | exact HB.out | apply pw_below_drewN)⟩
     rw [if_neg c13] at H
     have c13b0 : (t386 == (l0.length : Int)) = false := beq_eq_false_iff_ne.mpr c13
     have c13b1 : (t386 != (l0.length : Int)) = true := bne_iff_ne.mpr c13
     have HC14 := Aside0.mk H
     clear H
     go_upto_region 19 with (first | (go_at_call 76; (with_reducible refine (grapevineref02_TakeUint.calls k1 _ _ l0 x8_1 t382 t383 t384 _ ?side1 ?side2 A9.out).mono ?_); (case side1 => repeat (exact (Kd.C_below HR0.out HB.out))); (case side2 => exact HC0.out); rintro e w' ⟨rfl, ⟨nd, rfl⟩⟩) | (go_at_call 76; (with_reducible refine (grapevineref02_TakeUint.calls k1 _ _ l0 t383 t385 t386 t387 _ ?side1 ?side2 A11.out).mono ?_); (case side1 => repeat (exact (Kd.C_below HR0.out (by repeat (with_reducible first | exact HB.out | apply pw_below_drewN))))); (case side2 => exact HC0.out); rintro e w' ⟨rfl, ⟨nd, rfl⟩⟩))
     skip
     (skip)
     go_cut [68] (fun v68 wc => ∃ (kq : Nat) (x68_13 : Bool), v68 = .bool x68_13 ∧ Aside0 (grapevineref08_Take.j1 kq l0 t376 x10_1 x11_1 x12_1 t382 t385 t386 x68_13 = some (r1, r2, r3)) ∧ Aside0 (kq ≤ k1) ∧ Aside0 (Kd.R k43 43 wc w.heap.size (fun _ => True) u10 x10_1) ∧ Aside0 (Below w.heap.size w wc))
     case first =>
      have H := HC14.out
      clear HC14
      by_cases c15 : t382 > 1099511627776
      ·
       rw [if_pos c15] at H
       have c15b0 : decide (1099511627776 < t382) = true := decide_eq_true c15
       clear c15
       (skip)
       have H' := Aside0.mk H
       clear H
       go_wp2
       skip
       go_meet
       case rel => exact ⟨_, (true), (by rfl), H', ⟨by have := HK1.out; omega⟩, ⟨by (with_reducible repeat (apply Kd.R_drewN)); exact HO_10.out⟩, ⟨by repeat (with_reducible first | exact HB.out | apply pw_below_drewN)⟩⟩
      rw [if_neg c15] at H
      have c15b0 : decide (1099511627776 < t382) = false := decide_eq_false c15
      clear c15
      (skip)
      have H' := Aside0.mk H
      clear H
      go_wp2
      skip
      go_meet
      case rel => exact ⟨_, (decide (t385 > 1099511627776)), (by rfl), H', ⟨by have := HK1.out; omega⟩, ⟨by (with_reducible repeat (apply Kd.R_drewN)); exact HO_10.out⟩, ⟨by repeat (with_reducible first | exact HB.out | apply pw_below_drewN)⟩⟩
     case rest =>
     clear HC14
     skip
     skip
     skip
     try clear c4b0
     try clear c4b1
     skip
     try clear c5b0
     skip
     skip
     try clear c8b0
     skip
     try clear c10b0
     try clear c10b1
     skip
     try clear c12b0
     try clear c12b1
     try clear c13
     try clear c13b0
     try clear c13b1
     skip
     skip
     skip
     obtain ⟨kq, x68_13, rfl, HA, HJ13, HO_10, HB⟩ := hcut
     cases kq with
     | zero => exact absurd HA.out (by simp [grapevineref08_Take.j1])
     | succ kj13 =>
     have H := HA.out
     clear HA
     simp only [grapevineref08_Take.j1] at H
     by_cases c16 : x68_13 = true
     ·
      subst c16
      have H1 : (some (([] : List (S43)), 0, 4)) = some (r1, r2, r3) := by rw [if_pos rfl] at H; exact H
      clear H
      have H := H1
      clear H1
      simp only [Option.some.injEq, Prod.mk.injEq] at H
      obtain ⟨rfl, rfl, rfl⟩ := H
      go_wp2
      repeat (go_quiet (fail); try go_wp2)
      go_ret3
      exact ⟨_, by rfl, by exact Kd.R_nil _ _ _ _ _, by repeat (with_reducible first | exact HB.out | apply pw_below_drewN)⟩
     replace c16 := Bool.eq_false_iff.mpr c16
     subst c16
     have H1 : (if 0 ≤ t386 then (if t386 < (l0.length : Int) then (if (wrap64 ((wrap64 ((wrap64 (x11_1 + 1)) + (wrap64 (t382)))) + (wrap64 (t385)))) > 1099511627776 then (some (([] : List (S43)), 0, 4)) else (if (wrap64 (rd l0 t386)) < 1 then (some (([] : List (S43)), 0, 4)) else (if (wrap64 (rd l0 t386)) > 3 then (some (([] : List (S43)), 0, 4)) else (if x12_1 > 0 then (if t382 = 0 then (if 0 ≤ (wrap64 (x12_1 - 1)) then (if (wrap64 (x12_1 - 1)) < (x10_1.length : Int) then (if (wrap64 (rd l0 t386)) = ((rd_T43 x10_1 (wrap64 (x12_1 - 1))).f2) then (some (([] : List (S43)), 0, 4)) else (if x10_1.length < 5864062014805 then (grapevineref08_Take.l0 kj13 l0 t376 (wrap64 (t386 + 1)) (x10_1 ++ [(⟨wrap64 ((wrap64 (x11_1 + 1)) + (wrap64 (t382))), wrap64 ((wrap64 ((wrap64 (x11_1 + 1)) + (wrap64 (t382)))) + (wrap64 (t385))), wrap64 (rd l0 t386)⟩ : S43)]) (wrap64 ((wrap64 ((wrap64 (x11_1 + 1)) + (wrap64 (t382)))) + (wrap64 (t385)))) (wrap64 (x12_1 + 1))) else (none))) else (none)) else (none)) else (if x10_1.length < 5864062014805 then (grapevineref08_Take.l0 kj13 l0 t376 (wrap64 (t386 + 1)) (x10_1 ++ [(⟨wrap64 ((wrap64 (x11_1 + 1)) + (wrap64 (t382))), wrap64 ((wrap64 ((wrap64 (x11_1 + 1)) + (wrap64 (t382)))) + (wrap64 (t385))), wrap64 (rd l0 t386)⟩ : S43)]) (wrap64 ((wrap64 ((wrap64 (x11_1 + 1)) + (wrap64 (t382)))) + (wrap64 (t385)))) (wrap64 (x12_1 + 1))) else (none))) else (if x10_1.length < 5864062014805 then (grapevineref08_Take.l0 kj13 l0 t376 (wrap64 (t386 + 1)) (x10_1 ++ [(⟨wrap64 ((wrap64 (x11_1 + 1)) + (wrap64 (t382))), wrap64 ((wrap64 ((wrap64 (x11_1 + 1)) + (wrap64 (t382)))) + (wrap64 (t385))), wrap64 (rd l0 t386)⟩ : S43)]) (wrap64 ((wrap64 ((wrap64 (x11_1 + 1)) + (wrap64 (t382)))) + (wrap64 (t385)))) (wrap64 (x12_1 + 1))) else (none)))))) else (none)) else (none)) = some (r1, r2, r3) := by rw [if_neg (show ¬ (false = true) by decide)] at H; exact H
     clear H
     have H := H1
     clear H1
     by_cases c17 : 0 ≤ t386
     ·
      rw [if_pos c17] at H
      have c17b0 : decide (0 ≤ t386) = true := decide_eq_true c17
      clear c17
      by_cases c18 : t386 < (l0.length : Int)
      ·
       rw [if_pos c18] at H
       have c18b0 : decide (t386 < (l0.length : Int)) = true := decide_eq_true c18
       clear c18
       by_cases c19 : (wrap64 ((wrap64 ((wrap64 (x11_1 + 1)) + (wrap64 (t382)))) + (wrap64 (t385)))) > 1099511627776
       ·
        rw [if_pos c19] at H
        have c19b0 : decide (1099511627776 < (wrap64 ((wrap64 ((wrap64 (x11_1 + 1)) + (wrap64 (t382)))) + (wrap64 (t385))))) = true := decide_eq_true c19
        clear c19
        simp only [Option.some.injEq, Prod.mk.injEq] at H
        obtain ⟨rfl, rfl, rfl⟩ := H
        have p388 : 0 ≤ (t386 : Int) := of_decide_eq_true (by (with_reducible assumption))
        have q388 : t386 < (l0.length : Int) := of_decide_eq_true (by (with_reducible assumption))
        obtain ⟨ad388, e388, hx388_0⟩ := Kd.at_int HR0.out t386 p388 q388
        cases e388
        replace hx388_0 := (HB.out.cell (World.block_lt_of_cell? w _ hx388_0)).trans hx388_0
        replace p388 := eq_true p388
        replace q388 := eq_true q388
        go_wp2_with (((with_reducible refine gate_dst (N := 19) rfl ?_); refine box_event ?hg (N := 19) ?hd (cs := #[.int .i64 0, .int .i64 0, .int .i64 0]) (t := 43) ?hr ?_; (case hd => rfl); (case hg => rfl); (case hr => (go_simp; done)); intro gb389 hg w20 hbox hb; have n0_ := Aside0.mk (Kd.R_below (Kd.R_elderB (by exact HO_10.out) gb389 (Nat.le_of_eq hg.symm)) hb); have n1_ := Aside0.mk (below_step (by repeat (with_reducible exact HB.out)) hb); have n2_ := Aside0.mk (hbox); have n3_ := Aside0.mk ((by rw [hg]; exact (below_size (by repeat (with_reducible exact HB.out))) : w.heap.size ≤ gb389)); have n4_ := Aside0.mk ((by rw [hg]; exact (below_size (by repeat (with_reducible exact HB.out))) : w.heap.size ≤ gb389)); clear HO_10; clear HB; have HO_10 := n0_; have HB := n1_; have BK389 := n2_; have GW389 := n3_; have GE389 := n4_; clear n0_ n1_ n2_ n3_ n4_; clear hb hbox hg; obtain ⟨hcz21_0, hcz21_1, hcz21_2, hfz21_0, hfz21_1, hfz21_2⟩ := cz3 BK389.out))
        repeat (go_quiet (first | ((with_reducible refine gate_dst (N := 19) rfl ?_); refine box_event ?hg (N := 19) ?hd (cs := #[.int .i64 0, .int .i64 0, .int .i64 0]) (t := 43) ?hr ?_; (case hd => rfl); (case hg => rfl); (case hr => first | (go_simp; done) | (go_simp; rfl)); intro gb389 hg w20 hbox hb; have n0_ := Aside0.mk (Kd.R_below (Kd.R_elderB (by (with_reducible repeat (first | apply Kd.R_alloc | apply Kd.R_drewN | apply Kd.R_drew)); exact HO_10.out) gb389 (Nat.le_of_eq hg.symm)) hb); have n1_ := Aside0.mk (below_step (by repeat (first | (with_reducible first | exact HB.out | apply below_alloc | apply pw_below_drewN | apply below_drew1) | exact HB.out)) hb); have n2_ := Aside0.mk (hbox); have n3_ := Aside0.mk ((by rw [hg]; exact (below_size (by repeat (first | (with_reducible first | exact HB.out | apply below_alloc | apply pw_below_drewN | apply below_drew1) | exact HB.out))) : w.heap.size ≤ gb389)); have n4_ := Aside0.mk ((by rw [hg]; exact (below_size (by repeat (first | (with_reducible first | exact HB.out | apply below_alloc | apply pw_below_drewN | apply below_drew1) | exact HB.out))) : w.heap.size ≤ gb389)); clear HO_10; clear HB; have HO_10 := n0_; have HB := n1_; have BK389 := n2_; have GW389 := n3_; have GE389 := n4_; clear n0_ n1_ n2_ n3_ n4_; clear hb hbox hg; have hcz21_0 : w20.cell? ⟨gb389, 0, none⟩ = some (.int .i64 0) := (blk_cell BK389.out 0).trans rfl; have hcz21_1 : w20.cell? ⟨gb389, 1, none⟩ = some (.int .i64 0) := (blk_cell BK389.out 1).trans rfl; have hcz21_2 : w20.cell? ⟨gb389, 2, none⟩ = some (.int .i64 0) := (blk_cell BK389.out 2).trans rfl; have hfz21_0 := blk_frozen BK389.out 0; have hfz21_1 := blk_frozen BK389.out 1; have hfz21_2 := blk_frozen BK389.out 2)); try go_wp2_with (first | ((with_reducible refine gate_dst (N := 19) rfl ?_); refine box_event ?hg (N := 19) ?hd (cs := #[.int .i64 0, .int .i64 0, .int .i64 0]) (t := 43) ?hr ?_; (case hd => rfl); (case hg => rfl); (case hr => first | (go_simp; done) | (go_simp; rfl)); intro gb389 hg w20 hbox hb; have n0_ := Aside0.mk (Kd.R_below (Kd.R_elderB (by (with_reducible repeat (first | apply Kd.R_alloc | apply Kd.R_drewN | apply Kd.R_drew)); exact HO_10.out) gb389 (Nat.le_of_eq hg.symm)) hb); have n1_ := Aside0.mk (below_step (by repeat (first | (with_reducible first | exact HB.out | apply below_alloc | apply pw_below_drewN | apply below_drew1) | exact HB.out)) hb); have n2_ := Aside0.mk (hbox); have n3_ := Aside0.mk ((by rw [hg]; exact (below_size (by repeat (first | (with_reducible first | exact HB.out | apply below_alloc | apply pw_below_drewN | apply below_drew1) | exact HB.out))) : w.heap.size ≤ gb389)); have n4_ := Aside0.mk ((by rw [hg]; exact (below_size (by repeat (first | (with_reducible first | exact HB.out | apply below_alloc | apply pw_below_drewN | apply below_drew1) | exact HB.out))) : w.heap.size ≤ gb389)); clear HO_10; clear HB; have HO_10 := n0_; have HB := n1_; have BK389 := n2_; have GW389 := n3_; have GE389 := n4_; clear n0_ n1_ n2_ n3_ n4_; clear hb hbox hg; have hcz21_0 : w20.cell? ⟨gb389, 0, none⟩ = some (.int .i64 0) := (blk_cell BK389.out 0).trans rfl; have hcz21_1 : w20.cell? ⟨gb389, 1, none⟩ = some (.int .i64 0) := (blk_cell BK389.out 1).trans rfl; have hcz21_2 : w20.cell? ⟨gb389, 2, none⟩ = some (.int .i64 0) := (blk_cell BK389.out 2).trans rfl; have hfz21_0 := blk_frozen BK389.out 0; have hfz21_1 := blk_frozen BK389.out 1; have hfz21_2 := blk_frozen BK389.out 2)))
        go_ret3
        exact ⟨_, by rfl, by exact Kd.R_nil _ _ _ _ _, by repeat (with_reducible first | exact HB.out | apply pw_below_drewN | refine below_set ?_ GE389.out)⟩
       rw [if_neg c19] at H
       have c19b0 : decide (1099511627776 < (wrap64 ((wrap64 ((wrap64 (x11_1 + 1)) + (wrap64 (t382)))) + (wrap64 (t385))))) = false := decide_eq_false c19
       clear c19
       by_cases c22 : (wrap64 (rd l0 t386)) < 1
       ·
        rw [if_pos c22] at H
        have c22b0 : decide ((wrap64 (rd l0 t386)) < 1) = true := decide_eq_true c22
        clear c22
        simp only [Option.some.injEq, Prod.mk.injEq] at H
        obtain ⟨rfl, rfl, rfl⟩ := H
        have p388 : 0 ≤ (t386 : Int) := of_decide_eq_true (by (with_reducible assumption))
        have q388 : t386 < (l0.length : Int) := of_decide_eq_true (by (with_reducible assumption))
        obtain ⟨ad388, e388, hx388_0⟩ := Kd.at_int HR0.out t386 p388 q388
        cases e388
        replace hx388_0 := (HB.out.cell (World.block_lt_of_cell? w _ hx388_0)).trans hx388_0
        replace p388 := eq_true p388
        replace q388 := eq_true q388
        go_wp2_with (((with_reducible refine gate_dst (N := 19) rfl ?_); refine box_event ?hg (N := 19) ?hd (cs := #[.int .i64 0, .int .i64 0, .int .i64 0]) (t := 43) ?hr ?_; (case hd => rfl); (case hg => rfl); (case hr => (go_simp; done)); intro gb389 hg w23 hbox hb; have n0_ := Aside0.mk (Kd.R_below (Kd.R_elderB (by exact HO_10.out) gb389 (Nat.le_of_eq hg.symm)) hb); have n1_ := Aside0.mk (below_step (by repeat (with_reducible exact HB.out)) hb); have n2_ := Aside0.mk (hbox); have n3_ := Aside0.mk ((by rw [hg]; exact (below_size (by repeat (with_reducible exact HB.out))) : w.heap.size ≤ gb389)); have n4_ := Aside0.mk ((by rw [hg]; exact (below_size (by repeat (with_reducible exact HB.out))) : w.heap.size ≤ gb389)); clear HO_10; clear HB; have HO_10 := n0_; have HB := n1_; have BK389 := n2_; have GW389 := n3_; have GE389 := n4_; clear n0_ n1_ n2_ n3_ n4_; clear hb hbox hg; obtain ⟨hcz24_0, hcz24_1, hcz24_2, hfz24_0, hfz24_1, hfz24_2⟩ := cz3 BK389.out))
        repeat (go_quiet (first | ((with_reducible refine gate_dst (N := 19) rfl ?_); refine box_event ?hg (N := 19) ?hd (cs := #[.int .i64 0, .int .i64 0, .int .i64 0]) (t := 43) ?hr ?_; (case hd => rfl); (case hg => rfl); (case hr => first | (go_simp; done) | (go_simp; rfl)); intro gb389 hg w23 hbox hb; have n0_ := Aside0.mk (Kd.R_below (Kd.R_elderB (by (with_reducible repeat (first | apply Kd.R_alloc | apply Kd.R_drewN | apply Kd.R_drew)); exact HO_10.out) gb389 (Nat.le_of_eq hg.symm)) hb); have n1_ := Aside0.mk (below_step (by repeat (first | (with_reducible first | exact HB.out | apply below_alloc | apply pw_below_drewN | apply below_drew1) | exact HB.out)) hb); have n2_ := Aside0.mk (hbox); have n3_ := Aside0.mk ((by rw [hg]; exact (below_size (by repeat (first | (with_reducible first | exact HB.out | apply below_alloc | apply pw_below_drewN | apply below_drew1) | exact HB.out))) : w.heap.size ≤ gb389)); have n4_ := Aside0.mk ((by rw [hg]; exact (below_size (by repeat (first | (with_reducible first | exact HB.out | apply below_alloc | apply pw_below_drewN | apply below_drew1) | exact HB.out))) : w.heap.size ≤ gb389)); clear HO_10; clear HB; have HO_10 := n0_; have HB := n1_; have BK389 := n2_; have GW389 := n3_; have GE389 := n4_; clear n0_ n1_ n2_ n3_ n4_; clear hb hbox hg; have hcz24_0 : w23.cell? ⟨gb389, 0, none⟩ = some (.int .i64 0) := (blk_cell BK389.out 0).trans rfl; have hcz24_1 : w23.cell? ⟨gb389, 1, none⟩ = some (.int .i64 0) := (blk_cell BK389.out 1).trans rfl; have hcz24_2 : w23.cell? ⟨gb389, 2, none⟩ = some (.int .i64 0) := (blk_cell BK389.out 2).trans rfl; have hfz24_0 := blk_frozen BK389.out 0; have hfz24_1 := blk_frozen BK389.out 1; have hfz24_2 := blk_frozen BK389.out 2)); try go_wp2_with (first | ((with_reducible refine gate_dst (N := 19) rfl ?_); refine box_event ?hg (N := 19) ?hd (cs := #[.int .i64 0, .int .i64 0, .int .i64 0]) (t := 43) ?hr ?_; (case hd => rfl); (case hg => rfl); (case hr => first | (go_simp; done) | (go_simp; rfl)); intro gb389 hg w23 hbox hb; have n0_ := Aside0.mk (Kd.R_below (Kd.R_elderB (by (with_reducible repeat (first | apply Kd.R_alloc | apply Kd.R_drewN | apply Kd.R_drew)); exact HO_10.out) gb389 (Nat.le_of_eq hg.symm)) hb); have n1_ := Aside0.mk (below_step (by repeat (first | (with_reducible first | exact HB.out | apply below_alloc | apply pw_below_drewN | apply below_drew1) | exact HB.out)) hb); have n2_ := Aside0.mk (hbox); have n3_ := Aside0.mk ((by rw [hg]; exact (below_size (by repeat (first | (with_reducible first | exact HB.out | apply below_alloc | apply pw_below_drewN | apply below_drew1) | exact HB.out))) : w.heap.size ≤ gb389)); have n4_ := Aside0.mk ((by rw [hg]; exact (below_size (by repeat (first | (with_reducible first | exact HB.out | apply below_alloc | apply pw_below_drewN | apply below_drew1) | exact HB.out))) : w.heap.size ≤ gb389)); clear HO_10; clear HB; have HO_10 := n0_; have HB := n1_; have BK389 := n2_; have GW389 := n3_; have GE389 := n4_; clear n0_ n1_ n2_ n3_ n4_; clear hb hbox hg; have hcz24_0 : w23.cell? ⟨gb389, 0, none⟩ = some (.int .i64 0) := (blk_cell BK389.out 0).trans rfl; have hcz24_1 : w23.cell? ⟨gb389, 1, none⟩ = some (.int .i64 0) := (blk_cell BK389.out 1).trans rfl; have hcz24_2 : w23.cell? ⟨gb389, 2, none⟩ = some (.int .i64 0) := (blk_cell BK389.out 2).trans rfl; have hfz24_0 := blk_frozen BK389.out 0; have hfz24_1 := blk_frozen BK389.out 1; have hfz24_2 := blk_frozen BK389.out 2)))
        go_ret3
        exact ⟨_, by rfl, by exact Kd.R_nil _ _ _ _ _, by repeat (with_reducible first | exact HB.out | apply pw_below_drewN | refine below_set ?_ GE389.out)⟩
       rw [if_neg c22] at H
       have c22b0 : decide ((wrap64 (rd l0 t386)) < 1) = false := decide_eq_false c22
       clear c22
       by_cases c25 : (wrap64 (rd l0 t386)) > 3
       ·
        rw [if_pos c25] at H
        have c25b0 : decide (3 < (wrap64 (rd l0 t386))) = true := decide_eq_true c25
        clear c25
        simp only [Option.some.injEq, Prod.mk.injEq] at H
        obtain ⟨rfl, rfl, rfl⟩ := H
        have p388 : 0 ≤ (t386 : Int) := of_decide_eq_true (by (with_reducible assumption))
        have q388 : t386 < (l0.length : Int) := of_decide_eq_true (by (with_reducible assumption))
        obtain ⟨ad388, e388, hx388_0⟩ := Kd.at_int HR0.out t386 p388 q388
        cases e388
        replace hx388_0 := (HB.out.cell (World.block_lt_of_cell? w _ hx388_0)).trans hx388_0
        replace p388 := eq_true p388
        replace q388 := eq_true q388
        go_wp2_with (((with_reducible refine gate_dst (N := 19) rfl ?_); refine box_event ?hg (N := 19) ?hd (cs := #[.int .i64 0, .int .i64 0, .int .i64 0]) (t := 43) ?hr ?_; (case hd => rfl); (case hg => rfl); (case hr => (go_simp; done)); intro gb389 hg w26 hbox hb; have n0_ := Aside0.mk (Kd.R_below (Kd.R_elderB (by exact HO_10.out) gb389 (Nat.le_of_eq hg.symm)) hb); have n1_ := Aside0.mk (below_step (by repeat (with_reducible exact HB.out)) hb); have n2_ := Aside0.mk (hbox); have n3_ := Aside0.mk ((by rw [hg]; exact (below_size (by repeat (with_reducible exact HB.out))) : w.heap.size ≤ gb389)); have n4_ := Aside0.mk ((by rw [hg]; exact (below_size (by repeat (with_reducible exact HB.out))) : w.heap.size ≤ gb389)); clear HO_10; clear HB; have HO_10 := n0_; have HB := n1_; have BK389 := n2_; have GW389 := n3_; have GE389 := n4_; clear n0_ n1_ n2_ n3_ n4_; clear hb hbox hg; obtain ⟨hcz27_0, hcz27_1, hcz27_2, hfz27_0, hfz27_1, hfz27_2⟩ := cz3 BK389.out))
        repeat (go_quiet (first | ((with_reducible refine gate_dst (N := 19) rfl ?_); refine box_event ?hg (N := 19) ?hd (cs := #[.int .i64 0, .int .i64 0, .int .i64 0]) (t := 43) ?hr ?_; (case hd => rfl); (case hg => rfl); (case hr => first | (go_simp; done) | (go_simp; rfl)); intro gb389 hg w26 hbox hb; have n0_ := Aside0.mk (Kd.R_below (Kd.R_elderB (by (with_reducible repeat (first | apply Kd.R_alloc | apply Kd.R_drewN | apply Kd.R_drew)); exact HO_10.out) gb389 (Nat.le_of_eq hg.symm)) hb); have n1_ := Aside0.mk (below_step (by repeat (first | (with_reducible first | exact HB.out | apply below_alloc | apply pw_below_drewN | apply below_drew1) | exact HB.out)) hb); have n2_ := Aside0.mk (hbox); have n3_ := Aside0.mk ((by rw [hg]; exact (below_size (by repeat (first | (with_reducible first | exact HB.out | apply below_alloc | apply pw_below_drewN | apply below_drew1) | exact HB.out))) : w.heap.size ≤ gb389)); have n4_ := Aside0.mk ((by rw [hg]; exact (below_size (by repeat (first | (with_reducible first | exact HB.out | apply below_alloc | apply pw_below_drewN | apply below_drew1) | exact HB.out))) : w.heap.size ≤ gb389)); clear HO_10; clear HB; have HO_10 := n0_; have HB := n1_; have BK389 := n2_; have GW389 := n3_; have GE389 := n4_; clear n0_ n1_ n2_ n3_ n4_; clear hb hbox hg; have hcz27_0 : w26.cell? ⟨gb389, 0, none⟩ = some (.int .i64 0) := (blk_cell BK389.out 0).trans rfl; have hcz27_1 : w26.cell? ⟨gb389, 1, none⟩ = some (.int .i64 0) := (blk_cell BK389.out 1).trans rfl; have hcz27_2 : w26.cell? ⟨gb389, 2, none⟩ = some (.int .i64 0) := (blk_cell BK389.out 2).trans rfl; have hfz27_0 := blk_frozen BK389.out 0; have hfz27_1 := blk_frozen BK389.out 1; have hfz27_2 := blk_frozen BK389.out 2)); try go_wp2_with (first | ((with_reducible refine gate_dst (N := 19) rfl ?_); refine box_event ?hg (N := 19) ?hd (cs := #[.int .i64 0, .int .i64 0, .int .i64 0]) (t := 43) ?hr ?_; (case hd => rfl); (case hg => rfl); (case hr => first | (go_simp; done) | (go_simp; rfl)); intro gb389 hg w26 hbox hb; have n0_ := Aside0.mk (Kd.R_below (Kd.R_elderB (by (with_reducible repeat (first | apply Kd.R_alloc | apply Kd.R_drewN | apply Kd.R_drew)); exact HO_10.out) gb389 (Nat.le_of_eq hg.symm)) hb); have n1_ := Aside0.mk (below_step (by repeat (first | (with_reducible first | exact HB.out | apply below_alloc | apply pw_below_drewN | apply below_drew1) | exact HB.out)) hb); have n2_ := Aside0.mk (hbox); have n3_ := Aside0.mk ((by rw [hg]; exact (below_size (by repeat (first | (with_reducible first | exact HB.out | apply below_alloc | apply pw_below_drewN | apply below_drew1) | exact HB.out))) : w.heap.size ≤ gb389)); have n4_ := Aside0.mk ((by rw [hg]; exact (below_size (by repeat (first | (with_reducible first | exact HB.out | apply below_alloc | apply pw_below_drewN | apply below_drew1) | exact HB.out))) : w.heap.size ≤ gb389)); clear HO_10; clear HB; have HO_10 := n0_; have HB := n1_; have BK389 := n2_; have GW389 := n3_; have GE389 := n4_; clear n0_ n1_ n2_ n3_ n4_; clear hb hbox hg; have hcz27_0 : w26.cell? ⟨gb389, 0, none⟩ = some (.int .i64 0) := (blk_cell BK389.out 0).trans rfl; have hcz27_1 : w26.cell? ⟨gb389, 1, none⟩ = some (.int .i64 0) := (blk_cell BK389.out 1).trans rfl; have hcz27_2 : w26.cell? ⟨gb389, 2, none⟩ = some (.int .i64 0) := (blk_cell BK389.out 2).trans rfl; have hfz27_0 := blk_frozen BK389.out 0; have hfz27_1 := blk_frozen BK389.out 1; have hfz27_2 := blk_frozen BK389.out 2)))
        go_ret3
        exact ⟨_, by rfl, by exact Kd.R_nil _ _ _ _ _, by repeat (with_reducible first | exact HB.out | apply pw_below_drewN | refine below_set ?_ GE389.out)⟩
       rw [if_neg c25] at H
       have c25b0 : decide (3 < (wrap64 (rd l0 t386))) = false := decide_eq_false c25
       clear c25
       by_cases c28 : x12_1 > 0
       ·
        rw [if_pos c28] at H
        have c28b0 : decide (0 < x12_1) = true := decide_eq_true c28
        clear c28
        by_cases c29 : t382 = 0
        ·
         rw [if_pos c29] at H
         have c29b0 : (t382 == 0) = true := beq_iff_eq.mpr c29
         have c29b1 : (t382 != 0) = false := bne_eq_false_iff_eq.mpr c29
         clear c29
         obtain ⟨ji30, hji30⟩ : ∃ j_ : Int, (wrap64 (x12_1 - 1)) = j_ := ⟨_, rfl⟩
         replace H : (if 0 ≤ (ji30) then (if (ji30) < (x10_1.length : Int) then (if (wrap64 (rd l0 t386)) = ((rd_T43 x10_1 (ji30)).f2) then (some (([] : List (S43)), 0, 4)) else (if x10_1.length < 5864062014805 then (grapevineref08_Take.l0 kj13 l0 t376 (wrap64 (t386 + 1)) (x10_1 ++ [(⟨wrap64 ((wrap64 (x11_1 + 1)) + (wrap64 (t382))), wrap64 ((wrap64 ((wrap64 (x11_1 + 1)) + (wrap64 (t382)))) + (wrap64 (t385))), wrap64 (rd l0 t386)⟩ : S43)]) (wrap64 ((wrap64 ((wrap64 (x11_1 + 1)) + (wrap64 (t382)))) + (wrap64 (t385)))) (wrap64 (x12_1 + 1))) else (none))) else (none)) else (none)) = some (r1, r2, r3) := by (rw [hji30] at H; exact H)
         have hji30w : (IntKind.i64.wrap (x12_1 - 1)) = ji30 := (i64_w _).trans hji30
         by_cases c31 : 0 ≤ (ji30)
         ·
          rw [if_pos c31] at H
          have c31b0 : decide (0 ≤ (ji30)) = true := decide_eq_true c31
          clear c31
          by_cases c32 : (ji30) < (x10_1.length : Int)
          ·
           rw [if_pos c32] at H
           have c32b0 : decide ((ji30) < (x10_1.length : Int)) = true := decide_eq_true c32
           clear c32
           by_cases c33 : (wrap64 (rd l0 t386)) = ((rd_T43 x10_1 (ji30)).f2)
           ·
            rw [if_pos c33] at H
            have c33b0 : ((wrap64 (rd l0 t386)) == ((rd_T43 x10_1 (ji30)).f2)) = true := beq_iff_eq.mpr c33
            have c33b1 : ((wrap64 (rd l0 t386)) != ((rd_T43 x10_1 (ji30)).f2)) = false := bne_eq_false_iff_eq.mpr c33
            clear c33
            simp only [Option.some.injEq, Prod.mk.injEq] at H
            obtain ⟨rfl, rfl, rfl⟩ := H
            have p388 : 0 ≤ (t386 : Int) := of_decide_eq_true (by (with_reducible assumption))
            have q388 : t386 < (l0.length : Int) := of_decide_eq_true (by (with_reducible assumption))
            obtain ⟨ad388, e388, hx388_0⟩ := Kd.at_int HR0.out t386 p388 q388
            cases e388
            replace hx388_0 := (HB.out.cell (World.block_lt_of_cell? w _ hx388_0)).trans hx388_0
            replace p388 := eq_true p388
            replace q388 := eq_true q388
            go_wp2_with (((with_reducible refine gate_dst (N := 19) rfl ?_); refine box_event ?hg (N := 19) ?hd (cs := #[.int .i64 0, .int .i64 0, .int .i64 0]) (t := 43) ?hr ?_; (case hd => rfl); (case hg => rfl); (case hr => (go_simp; done)); intro gb389 hg w34 hbox hb; have n0_ := Aside0.mk (Kd.R_below (Kd.R_elderB (by exact HO_10.out) gb389 (Nat.le_of_eq hg.symm)) hb); have n1_ := Aside0.mk (below_step (by repeat (with_reducible exact HB.out)) hb); have n2_ := Aside0.mk (hbox); have n3_ := Aside0.mk ((by rw [hg]; exact (below_size (by repeat (with_reducible exact HB.out))) : w.heap.size ≤ gb389)); have n4_ := Aside0.mk ((by rw [hg]; exact (below_size (by repeat (with_reducible exact HB.out))) : w.heap.size ≤ gb389)); clear HO_10; clear HB; have HO_10 := n0_; have HB := n1_; have BK389 := n2_; have GW389 := n3_; have GE389 := n4_; clear n0_ n1_ n2_ n3_ n4_; clear hb hbox hg; obtain ⟨hcz35_0, hcz35_1, hcz35_2, hfz35_0, hfz35_1, hfz35_2⟩ := cz3 BK389.out; obtain ⟨Ao36, co36, eo36⟩ := Kd.R_slice HO_10.out; subst eo36; have p390 : 0 ≤ ((ji30) : Int) := of_decide_eq_true (by (with_reducible assumption)); have q390 : (ji30) < (x10_1.length : Int) := of_decide_eq_true (by (with_reducible assumption)); obtain ⟨ad390, e390, hx390_0, hx390_1, hx390_2⟩ := at_T43 (Kd.R_reads' HO_10.out).2.2 (ji30) p390 q390; cases e390; have hn390_0 : ad390.block ≠ gb389 := Kd.own_blk (by exact Kd.R_away HO_10.out (fun _ hk => hk.2)); have hn390_1 : ad390.block ≠ gb389 := Kd.own_blk (by exact Kd.R_away HO_10.out (fun _ hk => hk.2)); have hn390_2 : ad390.block ≠ gb389 := Kd.own_blk (by exact Kd.R_away HO_10.out (fun _ hk => hk.2)); replace hx390_0 := (cell_far (p := ⟨gb389, 0, none⟩) (by (rw [add_block]; exact hn390_0)) (.int .i64 (wrap64 ((wrap64 (x11_1 + 1)) + (wrap64 (t382)))))).trans hx390_0; replace hx390_1 := (cell_far (p := ⟨gb389, 0, none⟩) (by (rw [add_block]; exact hn390_0)) (.int .i64 (wrap64 ((wrap64 (x11_1 + 1)) + (wrap64 (t382)))))).trans hx390_1; replace hx390_2 := (cell_far (p := ⟨gb389, 0, none⟩) (by (rw [add_block]; exact hn390_0)) (.int .i64 (wrap64 ((wrap64 (x11_1 + 1)) + (wrap64 (t382)))))).trans hx390_2; replace hx390_0 := (cell_far (p := ⟨gb389, 1, none⟩) (by (rw [add_block]; exact hn390_1)) (.int .i64 (wrap64 ((wrap64 ((wrap64 (x11_1 + 1)) + (wrap64 (t382)))) + (wrap64 (t385)))))).trans hx390_0; replace hx390_1 := (cell_far (p := ⟨gb389, 1, none⟩) (by (rw [add_block]; exact hn390_1)) (.int .i64 (wrap64 ((wrap64 ((wrap64 (x11_1 + 1)) + (wrap64 (t382)))) + (wrap64 (t385)))))).trans hx390_1; replace hx390_2 := (cell_far (p := ⟨gb389, 1, none⟩) (by (rw [add_block]; exact hn390_1)) (.int .i64 (wrap64 ((wrap64 ((wrap64 (x11_1 + 1)) + (wrap64 (t382)))) + (wrap64 (t385)))))).trans hx390_2; replace hx390_0 := (cell_far (p := ⟨gb389, 2, none⟩) (by (rw [add_block]; exact hn390_2)) (.int .i64 (wrap64 (rd l0 t386)))).trans hx390_0; replace hx390_1 := (cell_far (p := ⟨gb389, 2, none⟩) (by (rw [add_block]; exact hn390_2)) (.int .i64 (wrap64 (rd l0 t386)))).trans hx390_1; replace hx390_2 := (cell_far (p := ⟨gb389, 2, none⟩) (by (rw [add_block]; exact hn390_2)) (.int .i64 (wrap64 (rd l0 t386)))).trans hx390_2; (try have hy390_0 := fun (n_ : Nat) => (show (((((w34.drewN n_).setCell ⟨gb389, 0, none⟩ (.int .i64 (wrap64 ((wrap64 (x11_1 + 1)) + (wrap64 (t382)))))).setCell ⟨gb389, 1, none⟩ (.int .i64 (wrap64 ((wrap64 ((wrap64 (x11_1 + 1)) + (wrap64 (t382)))) + (wrap64 (t385)))))).setCell ⟨gb389, 2, none⟩ (.int .i64 (wrap64 (rd l0 t386))))).cell? _ = some _ from hx390_0)); (try have hy390_1 := fun (n_ : Nat) => (show (((((w34.drewN n_).setCell ⟨gb389, 0, none⟩ (.int .i64 (wrap64 ((wrap64 (x11_1 + 1)) + (wrap64 (t382)))))).setCell ⟨gb389, 1, none⟩ (.int .i64 (wrap64 ((wrap64 ((wrap64 (x11_1 + 1)) + (wrap64 (t382)))) + (wrap64 (t385)))))).setCell ⟨gb389, 2, none⟩ (.int .i64 (wrap64 (rd l0 t386))))).cell? _ = some _ from hx390_1)); (try have hy390_2 := fun (n_ : Nat) => (show (((((w34.drewN n_).setCell ⟨gb389, 0, none⟩ (.int .i64 (wrap64 ((wrap64 (x11_1 + 1)) + (wrap64 (t382)))))).setCell ⟨gb389, 1, none⟩ (.int .i64 (wrap64 ((wrap64 ((wrap64 (x11_1 + 1)) + (wrap64 (t382)))) + (wrap64 (t385)))))).setCell ⟨gb389, 2, none⟩ (.int .i64 (wrap64 (rd l0 t386))))).cell? _ = some _ from hx390_2)); clear hn390_0; clear hn390_1; clear hn390_2; replace p390 := eq_true p390; replace q390 := eq_true q390))
            repeat (go_quiet (first | ((with_reducible refine gate_dst (N := 19) rfl ?_); refine box_event ?hg (N := 19) ?hd (cs := #[.int .i64 0, .int .i64 0, .int .i64 0]) (t := 43) ?hr ?_; (case hd => rfl); (case hg => rfl); (case hr => first | (go_simp; done) | (go_simp; rfl)); intro gb389 hg w34 hbox hb; have n0_ := Aside0.mk (Kd.R_below (Kd.R_elderB (by (with_reducible repeat (first | apply Kd.R_alloc | apply Kd.R_drewN | apply Kd.R_drew)); exact HO_10.out) gb389 (Nat.le_of_eq hg.symm)) hb); have n1_ := Aside0.mk (below_step (by repeat (first | (with_reducible first | exact HB.out | apply below_alloc | apply pw_below_drewN | apply below_drew1) | exact HB.out)) hb); have n2_ := Aside0.mk (hbox); have n3_ := Aside0.mk ((by rw [hg]; exact (below_size (by repeat (first | (with_reducible first | exact HB.out | apply below_alloc | apply pw_below_drewN | apply below_drew1) | exact HB.out))) : w.heap.size ≤ gb389)); have n4_ := Aside0.mk ((by rw [hg]; exact (below_size (by repeat (first | (with_reducible first | exact HB.out | apply below_alloc | apply pw_below_drewN | apply below_drew1) | exact HB.out))) : w.heap.size ≤ gb389)); clear HO_10; clear HB; have HO_10 := n0_; have HB := n1_; have BK389 := n2_; have GW389 := n3_; have GE389 := n4_; clear n0_ n1_ n2_ n3_ n4_; clear hb hbox hg; have hcz35_0 : w34.cell? ⟨gb389, 0, none⟩ = some (.int .i64 0) := (blk_cell BK389.out 0).trans rfl; have hcz35_1 : w34.cell? ⟨gb389, 1, none⟩ = some (.int .i64 0) := (blk_cell BK389.out 1).trans rfl; have hcz35_2 : w34.cell? ⟨gb389, 2, none⟩ = some (.int .i64 0) := (blk_cell BK389.out 2).trans rfl; have hfz35_0 := blk_frozen BK389.out 0; have hfz35_1 := blk_frozen BK389.out 1; have hfz35_2 := blk_frozen BK389.out 2; obtain ⟨Ao36, co36, eo36⟩ := Kd.R_slice HO_10.out; subst eo36; have p390 : 0 ≤ ((ji30) : Int) := of_decide_eq_true (by first | (with_reducible assumption) | assumption); have q390 : (ji30) < (x10_1.length : Int) := of_decide_eq_true (by first | (with_reducible assumption) | assumption); obtain ⟨ad390, e390, hx390_0, hx390_1, hx390_2⟩ := at_T43 (Kd.R_reads' HO_10.out).2.2 (ji30) p390 q390; cases e390; have hn390_0 : ad390.block ≠ gb389 := Kd.own_blk (by first | exact Kd.R_ne HO_10.out BK389.out (by decide) | exact Kd.R_away HO_10.out (fun _ hk => hk.2)); have hn390_1 : ad390.block ≠ gb389 := Kd.own_blk (by first | exact Kd.R_ne HO_10.out BK389.out (by decide) | exact Kd.R_away HO_10.out (fun _ hk => hk.2)); have hn390_2 : ad390.block ≠ gb389 := Kd.own_blk (by first | exact Kd.R_ne HO_10.out BK389.out (by decide) | exact Kd.R_away HO_10.out (fun _ hk => hk.2)); replace hx390_0 := (cell_far (p := ⟨gb389, 0, none⟩) (by first | (rw [add_block]; exact hn390_0) | (show (Addr.add _ _).block ≠ _; rw [add_block]; exact hn390_0) | exact hn390_0) (.int .i64 (wrap64 ((wrap64 (x11_1 + 1)) + (wrap64 (t382)))))).trans hx390_0; replace hx390_1 := (cell_far (p := ⟨gb389, 0, none⟩) (by first | (rw [add_block]; exact hn390_0) | (show (Addr.add _ _).block ≠ _; rw [add_block]; exact hn390_0) | exact hn390_0) (.int .i64 (wrap64 ((wrap64 (x11_1 + 1)) + (wrap64 (t382)))))).trans hx390_1; replace hx390_2 := (cell_far (p := ⟨gb389, 0, none⟩) (by first | (rw [add_block]; exact hn390_0) | (show (Addr.add _ _).block ≠ _; rw [add_block]; exact hn390_0) | exact hn390_0) (.int .i64 (wrap64 ((wrap64 (x11_1 + 1)) + (wrap64 (t382)))))).trans hx390_2; replace hx390_0 := (cell_far (p := ⟨gb389, 1, none⟩) (by first | (rw [add_block]; exact hn390_1) | (show (Addr.add _ _).block ≠ _; rw [add_block]; exact hn390_1) | exact hn390_1) (.int .i64 (wrap64 ((wrap64 ((wrap64 (x11_1 + 1)) + (wrap64 (t382)))) + (wrap64 (t385)))))).trans hx390_0; replace hx390_1 := (cell_far (p := ⟨gb389, 1, none⟩) (by first | (rw [add_block]; exact hn390_1) | (show (Addr.add _ _).block ≠ _; rw [add_block]; exact hn390_1) | exact hn390_1) (.int .i64 (wrap64 ((wrap64 ((wrap64 (x11_1 + 1)) + (wrap64 (t382)))) + (wrap64 (t385)))))).trans hx390_1; replace hx390_2 := (cell_far (p := ⟨gb389, 1, none⟩) (by first | (rw [add_block]; exact hn390_1) | (show (Addr.add _ _).block ≠ _; rw [add_block]; exact hn390_1) | exact hn390_1) (.int .i64 (wrap64 ((wrap64 ((wrap64 (x11_1 + 1)) + (wrap64 (t382)))) + (wrap64 (t385)))))).trans hx390_2; replace hx390_0 := (cell_far (p := ⟨gb389, 2, none⟩) (by first | (rw [add_block]; exact hn390_2) | (show (Addr.add _ _).block ≠ _; rw [add_block]; exact hn390_2) | exact hn390_2) (.int .i64 (wrap64 (rd l0 t386)))).trans hx390_0; replace hx390_1 := (cell_far (p := ⟨gb389, 2, none⟩) (by first | (rw [add_block]; exact hn390_2) | (show (Addr.add _ _).block ≠ _; rw [add_block]; exact hn390_2) | exact hn390_2) (.int .i64 (wrap64 (rd l0 t386)))).trans hx390_1; replace hx390_2 := (cell_far (p := ⟨gb389, 2, none⟩) (by first | (rw [add_block]; exact hn390_2) | (show (Addr.add _ _).block ≠ _; rw [add_block]; exact hn390_2) | exact hn390_2) (.int .i64 (wrap64 (rd l0 t386)))).trans hx390_2; (try have hy390_0 := fun (n_ : Nat) => (show (((((w34.drewN n_).setCell ⟨gb389, 0, none⟩ (.int .i64 (wrap64 ((wrap64 (x11_1 + 1)) + (wrap64 (t382)))))).setCell ⟨gb389, 1, none⟩ (.int .i64 (wrap64 ((wrap64 ((wrap64 (x11_1 + 1)) + (wrap64 (t382)))) + (wrap64 (t385)))))).setCell ⟨gb389, 2, none⟩ (.int .i64 (wrap64 (rd l0 t386))))).cell? _ = some _ from hx390_0)); (try have hy390_1 := fun (n_ : Nat) => (show (((((w34.drewN n_).setCell ⟨gb389, 0, none⟩ (.int .i64 (wrap64 ((wrap64 (x11_1 + 1)) + (wrap64 (t382)))))).setCell ⟨gb389, 1, none⟩ (.int .i64 (wrap64 ((wrap64 ((wrap64 (x11_1 + 1)) + (wrap64 (t382)))) + (wrap64 (t385)))))).setCell ⟨gb389, 2, none⟩ (.int .i64 (wrap64 (rd l0 t386))))).cell? _ = some _ from hx390_1)); (try have hy390_2 := fun (n_ : Nat) => (show (((((w34.drewN n_).setCell ⟨gb389, 0, none⟩ (.int .i64 (wrap64 ((wrap64 (x11_1 + 1)) + (wrap64 (t382)))))).setCell ⟨gb389, 1, none⟩ (.int .i64 (wrap64 ((wrap64 ((wrap64 (x11_1 + 1)) + (wrap64 (t382)))) + (wrap64 (t385)))))).setCell ⟨gb389, 2, none⟩ (.int .i64 (wrap64 (rd l0 t386))))).cell? _ = some _ from hx390_2)); clear hn390_0; clear hn390_1; clear hn390_2; replace p390 := eq_true p390; replace q390 := eq_true q390)); try go_wp2_with (first | ((with_reducible refine gate_dst (N := 19) rfl ?_); refine box_event ?hg (N := 19) ?hd (cs := #[.int .i64 0, .int .i64 0, .int .i64 0]) (t := 43) ?hr ?_; (case hd => rfl); (case hg => rfl); (case hr => first | (go_simp; done) | (go_simp; rfl)); intro gb389 hg w34 hbox hb; have n0_ := Aside0.mk (Kd.R_below (Kd.R_elderB (by (with_reducible repeat (first | apply Kd.R_alloc | apply Kd.R_drewN | apply Kd.R_drew)); exact HO_10.out) gb389 (Nat.le_of_eq hg.symm)) hb); have n1_ := Aside0.mk (below_step (by repeat (first | (with_reducible first | exact HB.out | apply below_alloc | apply pw_below_drewN | apply below_drew1) | exact HB.out)) hb); have n2_ := Aside0.mk (hbox); have n3_ := Aside0.mk ((by rw [hg]; exact (below_size (by repeat (first | (with_reducible first | exact HB.out | apply below_alloc | apply pw_below_drewN | apply below_drew1) | exact HB.out))) : w.heap.size ≤ gb389)); have n4_ := Aside0.mk ((by rw [hg]; exact (below_size (by repeat (first | (with_reducible first | exact HB.out | apply below_alloc | apply pw_below_drewN | apply below_drew1) | exact HB.out))) : w.heap.size ≤ gb389)); clear HO_10; clear HB; have HO_10 := n0_; have HB := n1_; have BK389 := n2_; have GW389 := n3_; have GE389 := n4_; clear n0_ n1_ n2_ n3_ n4_; clear hb hbox hg; have hcz35_0 : w34.cell? ⟨gb389, 0, none⟩ = some (.int .i64 0) := (blk_cell BK389.out 0).trans rfl; have hcz35_1 : w34.cell? ⟨gb389, 1, none⟩ = some (.int .i64 0) := (blk_cell BK389.out 1).trans rfl; have hcz35_2 : w34.cell? ⟨gb389, 2, none⟩ = some (.int .i64 0) := (blk_cell BK389.out 2).trans rfl; have hfz35_0 := blk_frozen BK389.out 0; have hfz35_1 := blk_frozen BK389.out 1; have hfz35_2 := blk_frozen BK389.out 2; obtain ⟨Ao36, co36, eo36⟩ := Kd.R_slice HO_10.out; subst eo36; have p390 : 0 ≤ ((ji30) : Int) := of_decide_eq_true (by first | (with_reducible assumption) | assumption); have q390 : (ji30) < (x10_1.length : Int) := of_decide_eq_true (by first | (with_reducible assumption) | assumption); obtain ⟨ad390, e390, hx390_0, hx390_1, hx390_2⟩ := at_T43 (Kd.R_reads' HO_10.out).2.2 (ji30) p390 q390; cases e390; have hn390_0 : ad390.block ≠ gb389 := Kd.own_blk (by first | exact Kd.R_ne HO_10.out BK389.out (by decide) | exact Kd.R_away HO_10.out (fun _ hk => hk.2)); have hn390_1 : ad390.block ≠ gb389 := Kd.own_blk (by first | exact Kd.R_ne HO_10.out BK389.out (by decide) | exact Kd.R_away HO_10.out (fun _ hk => hk.2)); have hn390_2 : ad390.block ≠ gb389 := Kd.own_blk (by first | exact Kd.R_ne HO_10.out BK389.out (by decide) | exact Kd.R_away HO_10.out (fun _ hk => hk.2)); replace hx390_0 := (cell_far (p := ⟨gb389, 0, none⟩) (by first | (rw [add_block]; exact hn390_0) | (show (Addr.add _ _).block ≠ _; rw [add_block]; exact hn390_0) | exact hn390_0) (.int .i64 (wrap64 ((wrap64 (x11_1 + 1)) + (wrap64 (t382)))))).trans hx390_0; replace hx390_1 := (cell_far (p := ⟨gb389, 0, none⟩) (by first | (rw [add_block]; exact hn390_0) | (show (Addr.add _ _).block ≠ _; rw [add_block]; exact hn390_0) | exact hn390_0) (.int .i64 (wrap64 ((wrap64 (x11_1 + 1)) + (wrap64 (t382)))))).trans hx390_1; replace hx390_2 := (cell_far (p := ⟨gb389, 0, none⟩) (by first | (rw [add_block]; exact hn390_0) | (show (Addr.add _ _).block ≠ _; rw [add_block]; exact hn390_0) | exact hn390_0) (.int .i64 (wrap64 ((wrap64 (x11_1 + 1)) + (wrap64 (t382)))))).trans hx390_2; replace hx390_0 := (cell_far (p := ⟨gb389, 1, none⟩) (by first | (rw [add_block]; exact hn390_1) | (show (Addr.add _ _).block ≠ _; rw [add_block]; exact hn390_1) | exact hn390_1) (.int .i64 (wrap64 ((wrap64 ((wrap64 (x11_1 + 1)) + (wrap64 (t382)))) + (wrap64 (t385)))))).trans hx390_0; replace hx390_1 := (cell_far (p := ⟨gb389, 1, none⟩) (by first | (rw [add_block]; exact hn390_1) | (show (Addr.add _ _).block ≠ _; rw [add_block]; exact hn390_1) | exact hn390_1) (.int .i64 (wrap64 ((wrap64 ((wrap64 (x11_1 + 1)) + (wrap64 (t382)))) + (wrap64 (t385)))))).trans hx390_1; replace hx390_2 := (cell_far (p := ⟨gb389, 1, none⟩) (by first | (rw [add_block]; exact hn390_1) | (show (Addr.add _ _).block ≠ _; rw [add_block]; exact hn390_1) | exact hn390_1) (.int .i64 (wrap64 ((wrap64 ((wrap64 (x11_1 + 1)) + (wrap64 (t382)))) + (wrap64 (t385)))))).trans hx390_2; replace hx390_0 := (cell_far (p := ⟨gb389, 2, none⟩) (by first | (rw [add_block]; exact hn390_2) | (show (Addr.add _ _).block ≠ _; rw [add_block]; exact hn390_2) | exact hn390_2) (.int .i64 (wrap64 (rd l0 t386)))).trans hx390_0; replace hx390_1 := (cell_far (p := ⟨gb389, 2, none⟩) (by first | (rw [add_block]; exact hn390_2) | (show (Addr.add _ _).block ≠ _; rw [add_block]; exact hn390_2) | exact hn390_2) (.int .i64 (wrap64 (rd l0 t386)))).trans hx390_1; replace hx390_2 := (cell_far (p := ⟨gb389, 2, none⟩) (by first | (rw [add_block]; exact hn390_2) | (show (Addr.add _ _).block ≠ _; rw [add_block]; exact hn390_2) | exact hn390_2) (.int .i64 (wrap64 (rd l0 t386)))).trans hx390_2; (try have hy390_0 := fun (n_ : Nat) => (show (((((w34.drewN n_).setCell ⟨gb389, 0, none⟩ (.int .i64 (wrap64 ((wrap64 (x11_1 + 1)) + (wrap64 (t382)))))).setCell ⟨gb389, 1, none⟩ (.int .i64 (wrap64 ((wrap64 ((wrap64 (x11_1 + 1)) + (wrap64 (t382)))) + (wrap64 (t385)))))).setCell ⟨gb389, 2, none⟩ (.int .i64 (wrap64 (rd l0 t386))))).cell? _ = some _ from hx390_0)); (try have hy390_1 := fun (n_ : Nat) => (show (((((w34.drewN n_).setCell ⟨gb389, 0, none⟩ (.int .i64 (wrap64 ((wrap64 (x11_1 + 1)) + (wrap64 (t382)))))).setCell ⟨gb389, 1, none⟩ (.int .i64 (wrap64 ((wrap64 ((wrap64 (x11_1 + 1)) + (wrap64 (t382)))) + (wrap64 (t385)))))).setCell ⟨gb389, 2, none⟩ (.int .i64 (wrap64 (rd l0 t386))))).cell? _ = some _ from hx390_1)); (try have hy390_2 := fun (n_ : Nat) => (show (((((w34.drewN n_).setCell ⟨gb389, 0, none⟩ (.int .i64 (wrap64 ((wrap64 (x11_1 + 1)) + (wrap64 (t382)))))).setCell ⟨gb389, 1, none⟩ (.int .i64 (wrap64 ((wrap64 ((wrap64 (x11_1 + 1)) + (wrap64 (t382)))) + (wrap64 (t385)))))).setCell ⟨gb389, 2, none⟩ (.int .i64 (wrap64 (rd l0 t386))))).cell? _ = some _ from hx390_2)); clear hn390_0; clear hn390_1; clear hn390_2; replace p390 := eq_true p390; replace q390 := eq_true q390)))
            go_ret3
            exact ⟨_, by rfl, by exact Kd.R_nil _ _ _ _ _, by repeat (with_reducible first | exact HB.out | apply pw_below_drewN | refine below_set ?_ GE389.out)⟩
           rw [if_neg c33] at H
           have c33b0 : ((wrap64 (rd l0 t386)) == ((rd_T43 x10_1 (ji30)).f2)) = false := beq_eq_false_iff_ne.mpr c33
           have c33b1 : ((wrap64 (rd l0 t386)) != ((rd_T43 x10_1 (ji30)).f2)) = true := bne_iff_ne.mpr c33
           by_cases c37 : x10_1.length < 5864062014805
           ·
            rw [if_pos c37] at H
            have LMc37 := Aside0.mk c37
            clear c37
            obtain ⟨y391, hy391⟩ : ∃ y_ : List (S43), y_ = (x10_1 ++ [(⟨wrap64 ((wrap64 (x11_1 + 1)) + (wrap64 (t382))), wrap64 ((wrap64 ((wrap64 (x11_1 + 1)) + (wrap64 (t382)))) + (wrap64 (t385))), wrap64 (rd l0 t386)⟩ : S43)]) := ⟨_, rfl⟩
            replace H : (grapevineref08_Take.l0 kj13 l0 t376 (wrap64 (t386 + 1)) y391 (wrap64 ((wrap64 ((wrap64 (x11_1 + 1)) + (wrap64 (t382)))) + (wrap64 (t385)))) (wrap64 (x12_1 + 1))) = some (r1, r2, r3) := by (rw [hy391]; with_reducible exact H)
            have Ny391 := Aside0.mk hy391
            clear hy391
            have H' := Aside0.mk H
            clear H
            have p388 : 0 ≤ (t386 : Int) := of_decide_eq_true (by (with_reducible assumption))
            have q388 : t386 < (l0.length : Int) := of_decide_eq_true (by (with_reducible assumption))
            obtain ⟨ad388, e388, hx388_0⟩ := Kd.at_int HR0.out t386 p388 q388
            cases e388
            replace hx388_0 := (HB.out.cell (World.block_lt_of_cell? w _ hx388_0)).trans hx388_0
            replace p388 := eq_true p388
            replace q388 := eq_true q388
            go_wp2_with (((with_reducible refine gate_dst (N := 19) rfl ?_); refine box_event ?hg (N := 19) ?hd (cs := #[.int .i64 0, .int .i64 0, .int .i64 0]) (t := 43) ?hr ?_; (case hd => rfl); (case hg => rfl); (case hr => (go_simp; done)); intro gb389 hg w38 hbox hb; have n0_ := Aside0.mk (Kd.R_below (Kd.R_elderB (by exact HO_10.out) gb389 (Nat.le_of_eq hg.symm)) hb); have n1_ := Aside0.mk (below_step (by repeat (with_reducible exact HB.out)) hb); have n2_ := Aside0.mk (hbox); have n3_ := Aside0.mk ((by rw [hg]; exact (below_size (by repeat (with_reducible exact HB.out))) : w.heap.size ≤ gb389)); have n4_ := Aside0.mk ((by rw [hg]; exact (below_size (by repeat (with_reducible exact HB.out))) : w.heap.size ≤ gb389)); clear HO_10; clear HB; have HO_10 := n0_; have HB := n1_; have BK389 := n2_; have GW389 := n3_; have GE389 := n4_; clear n0_ n1_ n2_ n3_ n4_; clear hb hbox hg; obtain ⟨hcz39_0, hcz39_1, hcz39_2, hfz39_0, hfz39_1, hfz39_2⟩ := cz3 BK389.out; obtain ⟨Ao40, co40, eo40⟩ := Kd.R_slice HO_10.out; subst eo40; have p390 : 0 ≤ ((ji30) : Int) := of_decide_eq_true (by (with_reducible assumption)); have q390 : (ji30) < (x10_1.length : Int) := of_decide_eq_true (by (with_reducible assumption)); obtain ⟨ad390, e390, hx390_0, hx390_1, hx390_2⟩ := at_T43 (Kd.R_reads' HO_10.out).2.2 (ji30) p390 q390; cases e390; have hn390_0 : ad390.block ≠ gb389 := Kd.own_blk (by exact Kd.R_away HO_10.out (fun _ hk => hk.2)); have hn390_1 : ad390.block ≠ gb389 := Kd.own_blk (by exact Kd.R_away HO_10.out (fun _ hk => hk.2)); have hn390_2 : ad390.block ≠ gb389 := Kd.own_blk (by exact Kd.R_away HO_10.out (fun _ hk => hk.2)); replace hx390_0 := (cell_far (p := ⟨gb389, 0, none⟩) (by (rw [add_block]; exact hn390_0)) (.int .i64 (wrap64 ((wrap64 (x11_1 + 1)) + (wrap64 (t382)))))).trans hx390_0; replace hx390_1 := (cell_far (p := ⟨gb389, 0, none⟩) (by (rw [add_block]; exact hn390_0)) (.int .i64 (wrap64 ((wrap64 (x11_1 + 1)) + (wrap64 (t382)))))).trans hx390_1; replace hx390_2 := (cell_far (p := ⟨gb389, 0, none⟩) (by (rw [add_block]; exact hn390_0)) (.int .i64 (wrap64 ((wrap64 (x11_1 + 1)) + (wrap64 (t382)))))).trans hx390_2; replace hx390_0 := (cell_far (p := ⟨gb389, 1, none⟩) (by (rw [add_block]; exact hn390_1)) (.int .i64 (wrap64 ((wrap64 ((wrap64 (x11_1 + 1)) + (wrap64 (t382)))) + (wrap64 (t385)))))).trans hx390_0; replace hx390_1 := (cell_far (p := ⟨gb389, 1, none⟩) (by (rw [add_block]; exact hn390_1)) (.int .i64 (wrap64 ((wrap64 ((wrap64 (x11_1 + 1)) + (wrap64 (t382)))) + (wrap64 (t385)))))).trans hx390_1; replace hx390_2 := (cell_far (p := ⟨gb389, 1, none⟩) (by (rw [add_block]; exact hn390_1)) (.int .i64 (wrap64 ((wrap64 ((wrap64 (x11_1 + 1)) + (wrap64 (t382)))) + (wrap64 (t385)))))).trans hx390_2; replace hx390_0 := (cell_far (p := ⟨gb389, 2, none⟩) (by (rw [add_block]; exact hn390_2)) (.int .i64 (wrap64 (rd l0 t386)))).trans hx390_0; replace hx390_1 := (cell_far (p := ⟨gb389, 2, none⟩) (by (rw [add_block]; exact hn390_2)) (.int .i64 (wrap64 (rd l0 t386)))).trans hx390_1; replace hx390_2 := (cell_far (p := ⟨gb389, 2, none⟩) (by (rw [add_block]; exact hn390_2)) (.int .i64 (wrap64 (rd l0 t386)))).trans hx390_2; (try have hy390_0 := fun (n_ : Nat) => (show (((((w38.drewN n_).setCell ⟨gb389, 0, none⟩ (.int .i64 (wrap64 ((wrap64 (x11_1 + 1)) + (wrap64 (t382)))))).setCell ⟨gb389, 1, none⟩ (.int .i64 (wrap64 ((wrap64 ((wrap64 (x11_1 + 1)) + (wrap64 (t382)))) + (wrap64 (t385)))))).setCell ⟨gb389, 2, none⟩ (.int .i64 (wrap64 (rd l0 t386))))).cell? _ = some _ from hx390_0)); (try have hy390_1 := fun (n_ : Nat) => (show (((((w38.drewN n_).setCell ⟨gb389, 0, none⟩ (.int .i64 (wrap64 ((wrap64 (x11_1 + 1)) + (wrap64 (t382)))))).setCell ⟨gb389, 1, none⟩ (.int .i64 (wrap64 ((wrap64 ((wrap64 (x11_1 + 1)) + (wrap64 (t382)))) + (wrap64 (t385)))))).setCell ⟨gb389, 2, none⟩ (.int .i64 (wrap64 (rd l0 t386))))).cell? _ = some _ from hx390_1)); (try have hy390_2 := fun (n_ : Nat) => (show (((((w38.drewN n_).setCell ⟨gb389, 0, none⟩ (.int .i64 (wrap64 ((wrap64 (x11_1 + 1)) + (wrap64 (t382)))))).setCell ⟨gb389, 1, none⟩ (.int .i64 (wrap64 ((wrap64 ((wrap64 (x11_1 + 1)) + (wrap64 (t382)))) + (wrap64 (t385)))))).setCell ⟨gb389, 2, none⟩ (.int .i64 (wrap64 (rd l0 t386))))).cell? _ = some _ from hx390_2)); clear hn390_0; clear hn390_1; clear hn390_2; replace p390 := eq_true p390; replace q390 := eq_true q390))
            repeat (go_quiet (first | ((with_reducible refine gate_dst (N := 19) rfl ?_); refine box_event ?hg (N := 19) ?hd (cs := #[.int .i64 0, .int .i64 0, .int .i64 0]) (t := 43) ?hr ?_; (case hd => rfl); (case hg => rfl); (case hr => first | (go_simp; done) | (go_simp; rfl)); intro gb389 hg w38 hbox hb; have n0_ := Aside0.mk (Kd.R_below (Kd.R_elderB (by (with_reducible repeat (first | apply Kd.R_alloc | apply Kd.R_drewN | apply Kd.R_drew)); exact HO_10.out) gb389 (Nat.le_of_eq hg.symm)) hb); have n1_ := Aside0.mk (below_step (by repeat (first | (with_reducible first | exact HB.out | apply below_alloc | apply pw_below_drewN | apply below_drew1) | exact HB.out)) hb); have n2_ := Aside0.mk (hbox); have n3_ := Aside0.mk ((by rw [hg]; exact (below_size (by repeat (first | (with_reducible first | exact HB.out | apply below_alloc | apply pw_below_drewN | apply below_drew1) | exact HB.out))) : w.heap.size ≤ gb389)); have n4_ := Aside0.mk ((by rw [hg]; exact (below_size (by repeat (first | (with_reducible first | exact HB.out | apply below_alloc | apply pw_below_drewN | apply below_drew1) | exact HB.out))) : w.heap.size ≤ gb389)); clear HO_10; clear HB; have HO_10 := n0_; have HB := n1_; have BK389 := n2_; have GW389 := n3_; have GE389 := n4_; clear n0_ n1_ n2_ n3_ n4_; clear hb hbox hg; have hcz39_0 : w38.cell? ⟨gb389, 0, none⟩ = some (.int .i64 0) := (blk_cell BK389.out 0).trans rfl; have hcz39_1 : w38.cell? ⟨gb389, 1, none⟩ = some (.int .i64 0) := (blk_cell BK389.out 1).trans rfl; have hcz39_2 : w38.cell? ⟨gb389, 2, none⟩ = some (.int .i64 0) := (blk_cell BK389.out 2).trans rfl; have hfz39_0 := blk_frozen BK389.out 0; have hfz39_1 := blk_frozen BK389.out 1; have hfz39_2 := blk_frozen BK389.out 2; obtain ⟨Ao40, co40, eo40⟩ := Kd.R_slice HO_10.out; subst eo40; have p390 : 0 ≤ ((ji30) : Int) := of_decide_eq_true (by first | (with_reducible assumption) | assumption); have q390 : (ji30) < (x10_1.length : Int) := of_decide_eq_true (by first | (with_reducible assumption) | assumption); obtain ⟨ad390, e390, hx390_0, hx390_1, hx390_2⟩ := at_T43 (Kd.R_reads' HO_10.out).2.2 (ji30) p390 q390; cases e390; have hn390_0 : ad390.block ≠ gb389 := Kd.own_blk (by first | exact Kd.R_ne HO_10.out BK389.out (by decide) | exact Kd.R_away HO_10.out (fun _ hk => hk.2)); have hn390_1 : ad390.block ≠ gb389 := Kd.own_blk (by first | exact Kd.R_ne HO_10.out BK389.out (by decide) | exact Kd.R_away HO_10.out (fun _ hk => hk.2)); have hn390_2 : ad390.block ≠ gb389 := Kd.own_blk (by first | exact Kd.R_ne HO_10.out BK389.out (by decide) | exact Kd.R_away HO_10.out (fun _ hk => hk.2)); replace hx390_0 := (cell_far (p := ⟨gb389, 0, none⟩) (by first | (rw [add_block]; exact hn390_0) | (show (Addr.add _ _).block ≠ _; rw [add_block]; exact hn390_0) | exact hn390_0) (.int .i64 (wrap64 ((wrap64 (x11_1 + 1)) + (wrap64 (t382)))))).trans hx390_0; replace hx390_1 := (cell_far (p := ⟨gb389, 0, none⟩) (by first | (rw [add_block]; exact hn390_0) | (show (Addr.add _ _).block ≠ _; rw [add_block]; exact hn390_0) | exact hn390_0) (.int .i64 (wrap64 ((wrap64 (x11_1 + 1)) + (wrap64 (t382)))))).trans hx390_1; replace hx390_2 := (cell_far (p := ⟨gb389, 0, none⟩) (by first | (rw [add_block]; exact hn390_0) | (show (Addr.add _ _).block ≠ _; rw [add_block]; exact hn390_0) | exact hn390_0) (.int .i64 (wrap64 ((wrap64 (x11_1 + 1)) + (wrap64 (t382)))))).trans hx390_2; replace hx390_0 := (cell_far (p := ⟨gb389, 1, none⟩) (by first | (rw [add_block]; exact hn390_1) | (show (Addr.add _ _).block ≠ _; rw [add_block]; exact hn390_1) | exact hn390_1) (.int .i64 (wrap64 ((wrap64 ((wrap64 (x11_1 + 1)) + (wrap64 (t382)))) + (wrap64 (t385)))))).trans hx390_0; replace hx390_1 := (cell_far (p := ⟨gb389, 1, none⟩) (by first | (rw [add_block]; exact hn390_1) | (show (Addr.add _ _).block ≠ _; rw [add_block]; exact hn390_1) | exact hn390_1) (.int .i64 (wrap64 ((wrap64 ((wrap64 (x11_1 + 1)) + (wrap64 (t382)))) + (wrap64 (t385)))))).trans hx390_1; replace hx390_2 := (cell_far (p := ⟨gb389, 1, none⟩) (by first | (rw [add_block]; exact hn390_1) | (show (Addr.add _ _).block ≠ _; rw [add_block]; exact hn390_1) | exact hn390_1) (.int .i64 (wrap64 ((wrap64 ((wrap64 (x11_1 + 1)) + (wrap64 (t382)))) + (wrap64 (t385)))))).trans hx390_2; replace hx390_0 := (cell_far (p := ⟨gb389, 2, none⟩) (by first | (rw [add_block]; exact hn390_2) | (show (Addr.add _ _).block ≠ _; rw [add_block]; exact hn390_2) | exact hn390_2) (.int .i64 (wrap64 (rd l0 t386)))).trans hx390_0; replace hx390_1 := (cell_far (p := ⟨gb389, 2, none⟩) (by first | (rw [add_block]; exact hn390_2) | (show (Addr.add _ _).block ≠ _; rw [add_block]; exact hn390_2) | exact hn390_2) (.int .i64 (wrap64 (rd l0 t386)))).trans hx390_1; replace hx390_2 := (cell_far (p := ⟨gb389, 2, none⟩) (by first | (rw [add_block]; exact hn390_2) | (show (Addr.add _ _).block ≠ _; rw [add_block]; exact hn390_2) | exact hn390_2) (.int .i64 (wrap64 (rd l0 t386)))).trans hx390_2; (try have hy390_0 := fun (n_ : Nat) => (show (((((w38.drewN n_).setCell ⟨gb389, 0, none⟩ (.int .i64 (wrap64 ((wrap64 (x11_1 + 1)) + (wrap64 (t382)))))).setCell ⟨gb389, 1, none⟩ (.int .i64 (wrap64 ((wrap64 ((wrap64 (x11_1 + 1)) + (wrap64 (t382)))) + (wrap64 (t385)))))).setCell ⟨gb389, 2, none⟩ (.int .i64 (wrap64 (rd l0 t386))))).cell? _ = some _ from hx390_0)); (try have hy390_1 := fun (n_ : Nat) => (show (((((w38.drewN n_).setCell ⟨gb389, 0, none⟩ (.int .i64 (wrap64 ((wrap64 (x11_1 + 1)) + (wrap64 (t382)))))).setCell ⟨gb389, 1, none⟩ (.int .i64 (wrap64 ((wrap64 ((wrap64 (x11_1 + 1)) + (wrap64 (t382)))) + (wrap64 (t385)))))).setCell ⟨gb389, 2, none⟩ (.int .i64 (wrap64 (rd l0 t386))))).cell? _ = some _ from hx390_1)); (try have hy390_2 := fun (n_ : Nat) => (show (((((w38.drewN n_).setCell ⟨gb389, 0, none⟩ (.int .i64 (wrap64 ((wrap64 (x11_1 + 1)) + (wrap64 (t382)))))).setCell ⟨gb389, 1, none⟩ (.int .i64 (wrap64 ((wrap64 ((wrap64 (x11_1 + 1)) + (wrap64 (t382)))) + (wrap64 (t385)))))).setCell ⟨gb389, 2, none⟩ (.int .i64 (wrap64 (rd l0 t386))))).cell? _ = some _ from hx390_2)); clear hn390_0; clear hn390_1; clear hn390_2; replace p390 := eq_true p390; replace q390 := eq_true q390) | ((with_reducible refine gate_builtin (b := .append) (xs := #[.tmp 120, .tmp 122]) rfl ?_); at_builtin; refine Kd.R_append k43 (w0 := w) w.heap.size rfl (.tmp 120) (.tmp 122) 22 43 (.agg #[(.int .i64 0), (.int .i64 0), (.int .i64 0)]) 24 rfl Try.underlying22 info43 rfl (by decide) (by omega) (.slice (some ad390) x10_1.length co40) x10_1 (⟨wrap64 ((wrap64 (x11_1 + 1)) + (wrap64 (t382))), wrap64 ((wrap64 ((wrap64 (x11_1 + 1)) + (wrap64 (t382)))) + (wrap64 (t385))), wrap64 (rd l0 t386)⟩ : S43) [.int .i64 (wrap64 ((wrap64 (x11_1 + 1)) + (wrap64 (t382)))), .int .i64 (wrap64 ((wrap64 ((wrap64 (x11_1 + 1)) + (wrap64 (t382)))) + (wrap64 (t385)))), .int .i64 (wrap64 (rd l0 t386))] (fun k_ => k_ ≠ gb389) (fun _ => False) rfl (by first | (go_simp; done) | (go_simp; rfl)) ?aP (fun _ hk => hk.elim) ?aF ?aO ?aB ?aS ?aL ?_; (case aP => exact k43_mkM _ _ _ (⟨wrap64 ((wrap64 (x11_1 + 1)) + (wrap64 (t382))), wrap64 ((wrap64 ((wrap64 (x11_1 + 1)) + (wrap64 (t382)))) + (wrap64 (t385))), wrap64 (rd l0 t386)⟩ : S43)); (case aB => exact (by repeat (first | (with_reducible first | exact HB.out | apply below_alloc | apply pw_below_drewN | apply below_drew1 | refine below_set ?_ GE389.out) | exact HB.out))); (case aF => exact (fun k_ hk => Kd.freshB (g := gb389) (o := .cells #[.int .i64 (wrap64 ((wrap64 (x11_1 + 1)) + (wrap64 (t382)))), .int .i64 (wrap64 ((wrap64 ((wrap64 (x11_1 + 1)) + (wrap64 (t382)))) + (wrap64 (t385)))), .int .i64 (wrap64 (rd l0 t386))] 43 (0, 0)) (by (with_reducible repeat (first | refine blk_drewN ?_ _ | refine blk_drew ?_ | refine blk_alloc ?_ _)); refine blk_put (cs := #[.int .i64 (wrap64 ((wrap64 (x11_1 + 1)) + (wrap64 (t382)))), .int .i64 (wrap64 ((wrap64 ((wrap64 (x11_1 + 1)) + (wrap64 (t382)))) + (wrap64 (t385)))), .int .i64 0]) ?_ 2 _ rfl; (with_reducible repeat (first | refine blk_drewN ?_ _ | refine blk_drew ?_ | refine blk_alloc ?_ _)); refine blk_put (cs := #[.int .i64 (wrap64 ((wrap64 (x11_1 + 1)) + (wrap64 (t382)))), .int .i64 0, .int .i64 0]) ?_ 1 _ rfl; (with_reducible repeat (first | refine blk_drewN ?_ _ | refine blk_drew ?_ | refine blk_alloc ?_ _)); refine blk_put (cs := #[.int .i64 0, .int .i64 0, .int .i64 0]) ?_ 0 _ rfl; (with_reducible repeat (first | refine blk_drewN ?_ _ | refine blk_drew ?_ | refine blk_alloc ?_ _)); exact BK389.out) k_ hk)); (case aO => exact (by (with_reducible repeat (first | apply Kd.R_alloc | apply Kd.R_drewN | apply Kd.R_drew)); exact Kd.R_mono (Kd.R_far (p := ⟨gb389, 2, none⟩) (Kd.R_far (p := ⟨gb389, 1, none⟩) (Kd.R_far (p := ⟨gb389, 0, none⟩) (Kd.R_mono HO_10.out (fun k_ hk => (⟨hk, hk.2⟩ : _ ∧ k_ ≠ gb389))) (fun _ hk => hk.2) (.int .i64 (wrap64 ((wrap64 (x11_1 + 1)) + (wrap64 (t382)))))) (fun _ hk => hk.2) (.int .i64 (wrap64 ((wrap64 ((wrap64 (x11_1 + 1)) + (wrap64 (t382)))) + (wrap64 (t385)))))) (fun _ hk => hk.2) (.int .i64 (wrap64 (rd l0 t386)))) (fun _ hk => hk.1.2))); (case aS => exact (below_size (by repeat (first | (with_reducible first | exact HB.out | apply below_alloc | apply pw_below_drewN | apply below_drew1 | refine below_set ?_ GE389.out) | exact HB.out)))); (case aL => have := LMc37.out; omega); intro v392 w41 ho hb hg hat; rw [← Ny391.out] at ho; have n0_ := Aside0.mk (blk_grown (g := gb389) (o := .cells #[.int .i64 (wrap64 ((wrap64 (x11_1 + 1)) + (wrap64 (t382)))), .int .i64 (wrap64 ((wrap64 ((wrap64 (x11_1 + 1)) + (wrap64 (t382)))) + (wrap64 (t385)))), .int .i64 (wrap64 (rd l0 t386))] 43 (0, 0)) (by (with_reducible repeat (first | refine blk_drewN ?_ _ | refine blk_drew ?_ | refine blk_alloc ?_ _)); refine blk_put (cs := #[.int .i64 (wrap64 ((wrap64 (x11_1 + 1)) + (wrap64 (t382)))), .int .i64 (wrap64 ((wrap64 ((wrap64 (x11_1 + 1)) + (wrap64 (t382)))) + (wrap64 (t385)))), .int .i64 0]) ?_ 2 _ rfl; (with_reducible repeat (first | refine blk_drewN ?_ _ | refine blk_drew ?_ | refine blk_alloc ?_ _)); refine blk_put (cs := #[.int .i64 (wrap64 ((wrap64 (x11_1 + 1)) + (wrap64 (t382)))), .int .i64 0, .int .i64 0]) ?_ 1 _ rfl; (with_reducible repeat (first | refine blk_drewN ?_ _ | refine blk_drew ?_ | refine blk_alloc ?_ _)); refine blk_put (cs := #[.int .i64 0, .int .i64 0, .int .i64 0]) ?_ 0 _ rfl; (with_reducible repeat (first | refine blk_drewN ?_ _ | refine blk_drew ?_ | refine blk_alloc ?_ _)); exact BK389.out) hg (Kd.R_away HO_10.out (fun _ hk => hk.2))); have n1_ := Aside0.mk (hb); have n2_ := Aside0.mk (ho); clear BK389; clear HB; clear HO_10; have BK389 := n0_; have HB := n1_; have HO393 := n2_; clear n0_ n1_ n2_; clear ho hb hg hat; have hcz42_0 : w41.cell? ⟨gb389, 0, none⟩ = some (.int .i64 (wrap64 ((wrap64 (x11_1 + 1)) + (wrap64 (t382))))) := (blk_cell BK389.out 0).trans rfl; have hcz42_1 : w41.cell? ⟨gb389, 1, none⟩ = some (.int .i64 (wrap64 ((wrap64 ((wrap64 (x11_1 + 1)) + (wrap64 (t382)))) + (wrap64 (t385))))) := (blk_cell BK389.out 1).trans rfl; have hcz42_2 : w41.cell? ⟨gb389, 2, none⟩ = some (.int .i64 (wrap64 (rd l0 t386))) := (blk_cell BK389.out 2).trans rfl; have hfz42_0 := blk_frozen BK389.out 0; have hfz42_1 := blk_frozen BK389.out 1; have hfz42_2 := blk_frozen BK389.out 2)); try go_wp2_with (first | ((with_reducible refine gate_dst (N := 19) rfl ?_); refine box_event ?hg (N := 19) ?hd (cs := #[.int .i64 0, .int .i64 0, .int .i64 0]) (t := 43) ?hr ?_; (case hd => rfl); (case hg => rfl); (case hr => first | (go_simp; done) | (go_simp; rfl)); intro gb389 hg w38 hbox hb; have n0_ := Aside0.mk (Kd.R_below (Kd.R_elderB (by (with_reducible repeat (first | apply Kd.R_alloc | apply Kd.R_drewN | apply Kd.R_drew)); exact HO_10.out) gb389 (Nat.le_of_eq hg.symm)) hb); have n1_ := Aside0.mk (below_step (by repeat (first | (with_reducible first | exact HB.out | apply below_alloc | apply pw_below_drewN | apply below_drew1) | exact HB.out)) hb); have n2_ := Aside0.mk (hbox); have n3_ := Aside0.mk ((by rw [hg]; exact (below_size (by repeat (first | (with_reducible first | exact HB.out | apply below_alloc | apply pw_below_drewN | apply below_drew1) | exact HB.out))) : w.heap.size ≤ gb389)); have n4_ := Aside0.mk ((by rw [hg]; exact (below_size (by repeat (first | (with_reducible first | exact HB.out | apply below_alloc | apply pw_below_drewN | apply below_drew1) | exact HB.out))) : w.heap.size ≤ gb389)); clear HO_10; clear HB; have HO_10 := n0_; have HB := n1_; have BK389 := n2_; have GW389 := n3_; have GE389 := n4_; clear n0_ n1_ n2_ n3_ n4_; clear hb hbox hg; have hcz39_0 : w38.cell? ⟨gb389, 0, none⟩ = some (.int .i64 0) := (blk_cell BK389.out 0).trans rfl; have hcz39_1 : w38.cell? ⟨gb389, 1, none⟩ = some (.int .i64 0) := (blk_cell BK389.out 1).trans rfl; have hcz39_2 : w38.cell? ⟨gb389, 2, none⟩ = some (.int .i64 0) := (blk_cell BK389.out 2).trans rfl; have hfz39_0 := blk_frozen BK389.out 0; have hfz39_1 := blk_frozen BK389.out 1; have hfz39_2 := blk_frozen BK389.out 2; obtain ⟨Ao40, co40, eo40⟩ := Kd.R_slice HO_10.out; subst eo40; have p390 : 0 ≤ ((ji30) : Int) := of_decide_eq_true (by first | (with_reducible assumption) | assumption); have q390 : (ji30) < (x10_1.length : Int) := of_decide_eq_true (by first | (with_reducible assumption) | assumption); obtain ⟨ad390, e390, hx390_0, hx390_1, hx390_2⟩ := at_T43 (Kd.R_reads' HO_10.out).2.2 (ji30) p390 q390; cases e390; have hn390_0 : ad390.block ≠ gb389 := Kd.own_blk (by first | exact Kd.R_ne HO_10.out BK389.out (by decide) | exact Kd.R_away HO_10.out (fun _ hk => hk.2)); have hn390_1 : ad390.block ≠ gb389 := Kd.own_blk (by first | exact Kd.R_ne HO_10.out BK389.out (by decide) | exact Kd.R_away HO_10.out (fun _ hk => hk.2)); have hn390_2 : ad390.block ≠ gb389 := Kd.own_blk (by first | exact Kd.R_ne HO_10.out BK389.out (by decide) | exact Kd.R_away HO_10.out (fun _ hk => hk.2)); replace hx390_0 := (cell_far (p := ⟨gb389, 0, none⟩) (by first | (rw [add_block]; exact hn390_0) | (show (Addr.add _ _).block ≠ _; rw [add_block]; exact hn390_0) | exact hn390_0) (.int .i64 (wrap64 ((wrap64 (x11_1 + 1)) + (wrap64 (t382)))))).trans hx390_0; replace hx390_1 := (cell_far (p := ⟨gb389, 0, none⟩) (by first | (rw [add_block]; exact hn390_0) | (show (Addr.add _ _).block ≠ _; rw [add_block]; exact hn390_0) | exact hn390_0) (.int .i64 (wrap64 ((wrap64 (x11_1 + 1)) + (wrap64 (t382)))))).trans hx390_1; replace hx390_2 := (cell_far (p := ⟨gb389, 0, none⟩) (by first | (rw [add_block]; exact hn390_0) | (show (Addr.add _ _).block ≠ _; rw [add_block]; exact hn390_0) | exact hn390_0) (.int .i64 (wrap64 ((wrap64 (x11_1 + 1)) + (wrap64 (t382)))))).trans hx390_2; replace hx390_0 := (cell_far (p := ⟨gb389, 1, none⟩) (by first | (rw [add_block]; exact hn390_1) | (show (Addr.add _ _).block ≠ _; rw [add_block]; exact hn390_1) | exact hn390_1) (.int .i64 (wrap64 ((wrap64 ((wrap64 (x11_1 + 1)) + (wrap64 (t382)))) + (wrap64 (t385)))))).trans hx390_0; replace hx390_1 := (cell_far (p := ⟨gb389, 1, none⟩) (by first | (rw [add_block]; exact hn390_1) | (show (Addr.add _ _).block ≠ _; rw [add_block]; exact hn390_1) | exact hn390_1) (.int .i64 (wrap64 ((wrap64 ((wrap64 (x11_1 + 1)) + (wrap64 (t382)))) + (wrap64 (t385)))))).trans hx390_1; replace hx390_2 := (cell_far (p := ⟨gb389, 1, none⟩) (by first | (rw [add_block]; exact hn390_1) | (show (Addr.add _ _).block ≠ _; rw [add_block]; exact hn390_1) | exact hn390_1) (.int .i64 (wrap64 ((wrap64 ((wrap64 (x11_1 + 1)) + (wrap64 (t382)))) + (wrap64 (t385)))))).trans hx390_2; replace hx390_0 := (cell_far (p := ⟨gb389, 2, none⟩) (by first | (rw [add_block]; exact hn390_2) | (show (Addr.add _ _).block ≠ _; rw [add_block]; exact hn390_2) | exact hn390_2) (.int .i64 (wrap64 (rd l0 t386)))).trans hx390_0; replace hx390_1 := (cell_far (p := ⟨gb389, 2, none⟩) (by first | (rw [add_block]; exact hn390_2) | (show (Addr.add _ _).block ≠ _; rw [add_block]; exact hn390_2) | exact hn390_2) (.int .i64 (wrap64 (rd l0 t386)))).trans hx390_1; replace hx390_2 := (cell_far (p := ⟨gb389, 2, none⟩) (by first | (rw [add_block]; exact hn390_2) | (show (Addr.add _ _).block ≠ _; rw [add_block]; exact hn390_2) | exact hn390_2) (.int .i64 (wrap64 (rd l0 t386)))).trans hx390_2; (try have hy390_0 := fun (n_ : Nat) => (show (((((w38.drewN n_).setCell ⟨gb389, 0, none⟩ (.int .i64 (wrap64 ((wrap64 (x11_1 + 1)) + (wrap64 (t382)))))).setCell ⟨gb389, 1, none⟩ (.int .i64 (wrap64 ((wrap64 ((wrap64 (x11_1 + 1)) + (wrap64 (t382)))) + (wrap64 (t385)))))).setCell ⟨gb389, 2, none⟩ (.int .i64 (wrap64 (rd l0 t386))))).cell? _ = some _ from hx390_0)); (try have hy390_1 := fun (n_ : Nat) => (show (((((w38.drewN n_).setCell ⟨gb389, 0, none⟩ (.int .i64 (wrap64 ((wrap64 (x11_1 + 1)) + (wrap64 (t382)))))).setCell ⟨gb389, 1, none⟩ (.int .i64 (wrap64 ((wrap64 ((wrap64 (x11_1 + 1)) + (wrap64 (t382)))) + (wrap64 (t385)))))).setCell ⟨gb389, 2, none⟩ (.int .i64 (wrap64 (rd l0 t386))))).cell? _ = some _ from hx390_1)); (try have hy390_2 := fun (n_ : Nat) => (show (((((w38.drewN n_).setCell ⟨gb389, 0, none⟩ (.int .i64 (wrap64 ((wrap64 (x11_1 + 1)) + (wrap64 (t382)))))).setCell ⟨gb389, 1, none⟩ (.int .i64 (wrap64 ((wrap64 ((wrap64 (x11_1 + 1)) + (wrap64 (t382)))) + (wrap64 (t385)))))).setCell ⟨gb389, 2, none⟩ (.int .i64 (wrap64 (rd l0 t386))))).cell? _ = some _ from hx390_2)); clear hn390_0; clear hn390_1; clear hn390_2; replace p390 := eq_true p390; replace q390 := eq_true q390) | ((with_reducible refine gate_builtin (b := .append) (xs := #[.tmp 120, .tmp 122]) rfl ?_); at_builtin; refine Kd.R_append k43 (w0 := w) w.heap.size rfl (.tmp 120) (.tmp 122) 22 43 (.agg #[(.int .i64 0), (.int .i64 0), (.int .i64 0)]) 24 rfl Try.underlying22 info43 rfl (by decide) (by omega) (.slice (some ad390) x10_1.length co40) x10_1 (⟨wrap64 ((wrap64 (x11_1 + 1)) + (wrap64 (t382))), wrap64 ((wrap64 ((wrap64 (x11_1 + 1)) + (wrap64 (t382)))) + (wrap64 (t385))), wrap64 (rd l0 t386)⟩ : S43) [.int .i64 (wrap64 ((wrap64 (x11_1 + 1)) + (wrap64 (t382)))), .int .i64 (wrap64 ((wrap64 ((wrap64 (x11_1 + 1)) + (wrap64 (t382)))) + (wrap64 (t385)))), .int .i64 (wrap64 (rd l0 t386))] (fun k_ => k_ ≠ gb389) (fun _ => False) rfl (by first | (go_simp; done) | (go_simp; rfl)) ?aP (fun _ hk => hk.elim) ?aF ?aO ?aB ?aS ?aL ?_; (case aP => exact k43_mkM _ _ _ (⟨wrap64 ((wrap64 (x11_1 + 1)) + (wrap64 (t382))), wrap64 ((wrap64 ((wrap64 (x11_1 + 1)) + (wrap64 (t382)))) + (wrap64 (t385))), wrap64 (rd l0 t386)⟩ : S43)); (case aB => exact (by repeat (first | (with_reducible first | exact HB.out | apply below_alloc | apply pw_below_drewN | apply below_drew1 | refine below_set ?_ GE389.out) | exact HB.out))); (case aF => exact (fun k_ hk => Kd.freshB (g := gb389) (o := .cells #[.int .i64 (wrap64 ((wrap64 (x11_1 + 1)) + (wrap64 (t382)))), .int .i64 (wrap64 ((wrap64 ((wrap64 (x11_1 + 1)) + (wrap64 (t382)))) + (wrap64 (t385)))), .int .i64 (wrap64 (rd l0 t386))] 43 (0, 0)) (by (with_reducible repeat (first | refine blk_drewN ?_ _ | refine blk_drew ?_ | refine blk_alloc ?_ _)); refine blk_put (cs := #[.int .i64 (wrap64 ((wrap64 (x11_1 + 1)) + (wrap64 (t382)))), .int .i64 (wrap64 ((wrap64 ((wrap64 (x11_1 + 1)) + (wrap64 (t382)))) + (wrap64 (t385)))), .int .i64 0]) ?_ 2 _ rfl; (with_reducible repeat (first | refine blk_drewN ?_ _ | refine blk_drew ?_ | refine blk_alloc ?_ _)); refine blk_put (cs := #[.int .i64 (wrap64 ((wrap64 (x11_1 + 1)) + (wrap64 (t382)))), .int .i64 0, .int .i64 0]) ?_ 1 _ rfl; (with_reducible repeat (first | refine blk_drewN ?_ _ | refine blk_drew ?_ | refine blk_alloc ?_ _)); refine blk_put (cs := #[.int .i64 0, .int .i64 0, .int .i64 0]) ?_ 0 _ rfl; (with_reducible repeat (first | refine blk_drewN ?_ _ | refine blk_drew ?_ | refine blk_alloc ?_ _)); exact BK389.out) k_ hk)); (case aO => exact (by (with_reducible repeat (first | apply Kd.R_alloc | apply Kd.R_drewN | apply Kd.R_drew)); exact Kd.R_mono (Kd.R_far (p := ⟨gb389, 2, none⟩) (Kd.R_far (p := ⟨gb389, 1, none⟩) (Kd.R_far (p := ⟨gb389, 0, none⟩) (Kd.R_mono HO_10.out (fun k_ hk => (⟨hk, hk.2⟩ : _ ∧ k_ ≠ gb389))) (fun _ hk => hk.2) (.int .i64 (wrap64 ((wrap64 (x11_1 + 1)) + (wrap64 (t382)))))) (fun _ hk => hk.2) (.int .i64 (wrap64 ((wrap64 ((wrap64 (x11_1 + 1)) + (wrap64 (t382)))) + (wrap64 (t385)))))) (fun _ hk => hk.2) (.int .i64 (wrap64 (rd l0 t386)))) (fun _ hk => hk.1.2))); (case aS => exact (below_size (by repeat (first | (with_reducible first | exact HB.out | apply below_alloc | apply pw_below_drewN | apply below_drew1 | refine below_set ?_ GE389.out) | exact HB.out)))); (case aL => have := LMc37.out; omega); intro v392 w41 ho hb hg hat; rw [← Ny391.out] at ho; have n0_ := Aside0.mk (blk_grown (g := gb389) (o := .cells #[.int .i64 (wrap64 ((wrap64 (x11_1 + 1)) + (wrap64 (t382)))), .int .i64 (wrap64 ((wrap64 ((wrap64 (x11_1 + 1)) + (wrap64 (t382)))) + (wrap64 (t385)))), .int .i64 (wrap64 (rd l0 t386))] 43 (0, 0)) (by (with_reducible repeat (first | refine blk_drewN ?_ _ | refine blk_drew ?_ | refine blk_alloc ?_ _)); refine blk_put (cs := #[.int .i64 (wrap64 ((wrap64 (x11_1 + 1)) + (wrap64 (t382)))), .int .i64 (wrap64 ((wrap64 ((wrap64 (x11_1 + 1)) + (wrap64 (t382)))) + (wrap64 (t385)))), .int .i64 0]) ?_ 2 _ rfl; (with_reducible repeat (first | refine blk_drewN ?_ _ | refine blk_drew ?_ | refine blk_alloc ?_ _)); refine blk_put (cs := #[.int .i64 (wrap64 ((wrap64 (x11_1 + 1)) + (wrap64 (t382)))), .int .i64 0, .int .i64 0]) ?_ 1 _ rfl; (with_reducible repeat (first | refine blk_drewN ?_ _ | refine blk_drew ?_ | refine blk_alloc ?_ _)); refine blk_put (cs := #[.int .i64 0, .int .i64 0, .int .i64 0]) ?_ 0 _ rfl; (with_reducible repeat (first | refine blk_drewN ?_ _ | refine blk_drew ?_ | refine blk_alloc ?_ _)); exact BK389.out) hg (Kd.R_away HO_10.out (fun _ hk => hk.2))); have n1_ := Aside0.mk (hb); have n2_ := Aside0.mk (ho); clear BK389; clear HB; clear HO_10; have BK389 := n0_; have HB := n1_; have HO393 := n2_; clear n0_ n1_ n2_; clear ho hb hg hat; have hcz42_0 : w41.cell? ⟨gb389, 0, none⟩ = some (.int .i64 (wrap64 ((wrap64 (x11_1 + 1)) + (wrap64 (t382))))) := (blk_cell BK389.out 0).trans rfl; have hcz42_1 : w41.cell? ⟨gb389, 1, none⟩ = some (.int .i64 (wrap64 ((wrap64 ((wrap64 (x11_1 + 1)) + (wrap64 (t382)))) + (wrap64 (t385))))) := (blk_cell BK389.out 1).trans rfl; have hcz42_2 : w41.cell? ⟨gb389, 2, none⟩ = some (.int .i64 (wrap64 (rd l0 t386))) := (blk_cell BK389.out 2).trans rfl; have hfz42_0 := blk_frozen BK389.out 0; have hfz42_1 := blk_frozen BK389.out 1; have hfz42_2 := blk_frozen BK389.out 2)))
            go_roundg kj13
            case measure => have := HK1.out; have := HJ13.out; omega
            case rel => exact ⟨(wrap64 (t386 + 1)), (y391), (wrap64 ((wrap64 ((wrap64 (x11_1 + 1)) + (wrap64 (t382)))) + (wrap64 (t385)))), (wrap64 (x12_1 + 1)), (by rfl), (by rfl), (by rfl), H', ⟨by have := HK1.out; have := HJ13.out; omega⟩, ⟨by exact Kd.R_mono HO393.out (fun _ hk => trivial)⟩, ⟨by repeat (with_reducible exact HB.out)⟩⟩
           rw [if_neg c37] at H
           exact absurd H (by simp)
          rw [if_neg c32] at H
          exact absurd H (by simp)
         rw [if_neg c31] at H
         exact absurd H (by simp)
        rw [if_neg c29] at H
        have c29b0 : (t382 == 0) = false := beq_eq_false_iff_ne.mpr c29
        have c29b1 : (t382 != 0) = true := bne_iff_ne.mpr c29
        by_cases c43 : x10_1.length < 5864062014805
        ·
         rw [if_pos c43] at H
         have LMc43 := Aside0.mk c43
         clear c43
         obtain ⟨y394, hy394⟩ : ∃ y_ : List (S43), y_ = (x10_1 ++ [(⟨wrap64 ((wrap64 (x11_1 + 1)) + (wrap64 (t382))), wrap64 ((wrap64 ((wrap64 (x11_1 + 1)) + (wrap64 (t382)))) + (wrap64 (t385))), wrap64 (rd l0 t386)⟩ : S43)]) := ⟨_, rfl⟩
         replace H : (grapevineref08_Take.l0 kj13 l0 t376 (wrap64 (t386 + 1)) y394 (wrap64 ((wrap64 ((wrap64 (x11_1 + 1)) + (wrap64 (t382)))) + (wrap64 (t385)))) (wrap64 (x12_1 + 1))) = some (r1, r2, r3) := by (rw [hy394]; with_reducible exact H)
         have Ny394 := Aside0.mk hy394
         clear hy394
         have H' := Aside0.mk H
         clear H
         have p388 : 0 ≤ (t386 : Int) := of_decide_eq_true (by (with_reducible assumption))
         have q388 : t386 < (l0.length : Int) := of_decide_eq_true (by (with_reducible assumption))
         obtain ⟨ad388, e388, hx388_0⟩ := Kd.at_int HR0.out t386 p388 q388
         cases e388
         replace hx388_0 := (HB.out.cell (World.block_lt_of_cell? w _ hx388_0)).trans hx388_0
         replace p388 := eq_true p388
         replace q388 := eq_true q388
         go_wp2_with (((with_reducible refine gate_dst (N := 19) rfl ?_); refine box_event ?hg (N := 19) ?hd (cs := #[.int .i64 0, .int .i64 0, .int .i64 0]) (t := 43) ?hr ?_; (case hd => rfl); (case hg => rfl); (case hr => (go_simp; done)); intro gb389 hg w44 hbox hb; have n0_ := Aside0.mk (Kd.R_below (Kd.R_elderB (by exact HO_10.out) gb389 (Nat.le_of_eq hg.symm)) hb); have n1_ := Aside0.mk (below_step (by repeat (with_reducible exact HB.out)) hb); have n2_ := Aside0.mk (hbox); have n3_ := Aside0.mk ((by rw [hg]; exact (below_size (by repeat (with_reducible exact HB.out))) : w.heap.size ≤ gb389)); have n4_ := Aside0.mk ((by rw [hg]; exact (below_size (by repeat (with_reducible exact HB.out))) : w.heap.size ≤ gb389)); clear HO_10; clear HB; have HO_10 := n0_; have HB := n1_; have BK389 := n2_; have GW389 := n3_; have GE389 := n4_; clear n0_ n1_ n2_ n3_ n4_; clear hb hbox hg; obtain ⟨hcz45_0, hcz45_1, hcz45_2, hfz45_0, hfz45_1, hfz45_2⟩ := cz3 BK389.out))
         repeat (go_quiet (first | ((with_reducible refine gate_dst (N := 19) rfl ?_); refine box_event ?hg (N := 19) ?hd (cs := #[.int .i64 0, .int .i64 0, .int .i64 0]) (t := 43) ?hr ?_; (case hd => rfl); (case hg => rfl); (case hr => first | (go_simp; done) | (go_simp; rfl)); intro gb389 hg w44 hbox hb; have n0_ := Aside0.mk (Kd.R_below (Kd.R_elderB (by (with_reducible repeat (first | apply Kd.R_alloc | apply Kd.R_drewN | apply Kd.R_drew)); exact HO_10.out) gb389 (Nat.le_of_eq hg.symm)) hb); have n1_ := Aside0.mk (below_step (by repeat (first | (with_reducible first | exact HB.out | apply below_alloc | apply pw_below_drewN | apply below_drew1) | exact HB.out)) hb); have n2_ := Aside0.mk (hbox); have n3_ := Aside0.mk ((by rw [hg]; exact (below_size (by repeat (first | (with_reducible first | exact HB.out | apply below_alloc | apply pw_below_drewN | apply below_drew1) | exact HB.out))) : w.heap.size ≤ gb389)); have n4_ := Aside0.mk ((by rw [hg]; exact (below_size (by repeat (first | (with_reducible first | exact HB.out | apply below_alloc | apply pw_below_drewN | apply below_drew1) | exact HB.out))) : w.heap.size ≤ gb389)); clear HO_10; clear HB; have HO_10 := n0_; have HB := n1_; have BK389 := n2_; have GW389 := n3_; have GE389 := n4_; clear n0_ n1_ n2_ n3_ n4_; clear hb hbox hg; have hcz45_0 : w44.cell? ⟨gb389, 0, none⟩ = some (.int .i64 0) := (blk_cell BK389.out 0).trans rfl; have hcz45_1 : w44.cell? ⟨gb389, 1, none⟩ = some (.int .i64 0) := (blk_cell BK389.out 1).trans rfl; have hcz45_2 : w44.cell? ⟨gb389, 2, none⟩ = some (.int .i64 0) := (blk_cell BK389.out 2).trans rfl; have hfz45_0 := blk_frozen BK389.out 0; have hfz45_1 := blk_frozen BK389.out 1; have hfz45_2 := blk_frozen BK389.out 2) | ((with_reducible refine gate_builtin (b := .append) (xs := #[.tmp 120, .tmp 122]) rfl ?_); at_builtin; refine Kd.R_append k43 (w0 := w) w.heap.size rfl (.tmp 120) (.tmp 122) 22 43 (.agg #[(.int .i64 0), (.int .i64 0), (.int .i64 0)]) 24 rfl Try.underlying22 info43 rfl (by decide) (by omega) u10 x10_1 (⟨wrap64 ((wrap64 (x11_1 + 1)) + (wrap64 (t382))), wrap64 ((wrap64 ((wrap64 (x11_1 + 1)) + (wrap64 (t382)))) + (wrap64 (t385))), wrap64 (rd l0 t386)⟩ : S43) [.int .i64 (wrap64 ((wrap64 (x11_1 + 1)) + (wrap64 (t382)))), .int .i64 (wrap64 ((wrap64 ((wrap64 (x11_1 + 1)) + (wrap64 (t382)))) + (wrap64 (t385)))), .int .i64 (wrap64 (rd l0 t386))] (fun k_ => k_ ≠ gb389) (fun _ => False) rfl (by first | (go_simp; done) | (go_simp; rfl)) ?aP (fun _ hk => hk.elim) ?aF ?aO ?aB ?aS ?aL ?_; (case aP => exact k43_mkM _ _ _ (⟨wrap64 ((wrap64 (x11_1 + 1)) + (wrap64 (t382))), wrap64 ((wrap64 ((wrap64 (x11_1 + 1)) + (wrap64 (t382)))) + (wrap64 (t385))), wrap64 (rd l0 t386)⟩ : S43)); (case aB => exact (by repeat (first | (with_reducible first | exact HB.out | apply below_alloc | apply pw_below_drewN | apply below_drew1 | refine below_set ?_ GE389.out) | exact HB.out))); (case aF => exact (fun k_ hk => Kd.freshB (g := gb389) (o := .cells #[.int .i64 (wrap64 ((wrap64 (x11_1 + 1)) + (wrap64 (t382)))), .int .i64 (wrap64 ((wrap64 ((wrap64 (x11_1 + 1)) + (wrap64 (t382)))) + (wrap64 (t385)))), .int .i64 (wrap64 (rd l0 t386))] 43 (0, 0)) (by (with_reducible repeat (first | refine blk_drewN ?_ _ | refine blk_drew ?_ | refine blk_alloc ?_ _)); refine blk_put (cs := #[.int .i64 (wrap64 ((wrap64 (x11_1 + 1)) + (wrap64 (t382)))), .int .i64 (wrap64 ((wrap64 ((wrap64 (x11_1 + 1)) + (wrap64 (t382)))) + (wrap64 (t385)))), .int .i64 0]) ?_ 2 _ rfl; (with_reducible repeat (first | refine blk_drewN ?_ _ | refine blk_drew ?_ | refine blk_alloc ?_ _)); refine blk_put (cs := #[.int .i64 (wrap64 ((wrap64 (x11_1 + 1)) + (wrap64 (t382)))), .int .i64 0, .int .i64 0]) ?_ 1 _ rfl; (with_reducible repeat (first | refine blk_drewN ?_ _ | refine blk_drew ?_ | refine blk_alloc ?_ _)); refine blk_put (cs := #[.int .i64 0, .int .i64 0, .int .i64 0]) ?_ 0 _ rfl; (with_reducible repeat (first | refine blk_drewN ?_ _ | refine blk_drew ?_ | refine blk_alloc ?_ _)); exact BK389.out) k_ hk)); (case aO => exact (by (with_reducible repeat (first | apply Kd.R_alloc | apply Kd.R_drewN | apply Kd.R_drew)); exact Kd.R_mono (Kd.R_far (p := ⟨gb389, 2, none⟩) (Kd.R_far (p := ⟨gb389, 1, none⟩) (Kd.R_far (p := ⟨gb389, 0, none⟩) (Kd.R_mono HO_10.out (fun k_ hk => (⟨hk, hk.2⟩ : _ ∧ k_ ≠ gb389))) (fun _ hk => hk.2) (.int .i64 (wrap64 ((wrap64 (x11_1 + 1)) + (wrap64 (t382)))))) (fun _ hk => hk.2) (.int .i64 (wrap64 ((wrap64 ((wrap64 (x11_1 + 1)) + (wrap64 (t382)))) + (wrap64 (t385)))))) (fun _ hk => hk.2) (.int .i64 (wrap64 (rd l0 t386)))) (fun _ hk => hk.1.2))); (case aS => exact (below_size (by repeat (first | (with_reducible first | exact HB.out | apply below_alloc | apply pw_below_drewN | apply below_drew1 | refine below_set ?_ GE389.out) | exact HB.out)))); (case aL => have := LMc43.out; omega); intro v395 w46 ho hb hg hat; rw [← Ny394.out] at ho; have n0_ := Aside0.mk (blk_grown (g := gb389) (o := .cells #[.int .i64 (wrap64 ((wrap64 (x11_1 + 1)) + (wrap64 (t382)))), .int .i64 (wrap64 ((wrap64 ((wrap64 (x11_1 + 1)) + (wrap64 (t382)))) + (wrap64 (t385)))), .int .i64 (wrap64 (rd l0 t386))] 43 (0, 0)) (by (with_reducible repeat (first | refine blk_drewN ?_ _ | refine blk_drew ?_ | refine blk_alloc ?_ _)); refine blk_put (cs := #[.int .i64 (wrap64 ((wrap64 (x11_1 + 1)) + (wrap64 (t382)))), .int .i64 (wrap64 ((wrap64 ((wrap64 (x11_1 + 1)) + (wrap64 (t382)))) + (wrap64 (t385)))), .int .i64 0]) ?_ 2 _ rfl; (with_reducible repeat (first | refine blk_drewN ?_ _ | refine blk_drew ?_ | refine blk_alloc ?_ _)); refine blk_put (cs := #[.int .i64 (wrap64 ((wrap64 (x11_1 + 1)) + (wrap64 (t382)))), .int .i64 0, .int .i64 0]) ?_ 1 _ rfl; (with_reducible repeat (first | refine blk_drewN ?_ _ | refine blk_drew ?_ | refine blk_alloc ?_ _)); refine blk_put (cs := #[.int .i64 0, .int .i64 0, .int .i64 0]) ?_ 0 _ rfl; (with_reducible repeat (first | refine blk_drewN ?_ _ | refine blk_drew ?_ | refine blk_alloc ?_ _)); exact BK389.out) hg (Kd.R_away HO_10.out (fun _ hk => hk.2))); have n1_ := Aside0.mk (hb); have n2_ := Aside0.mk (ho); clear BK389; clear HB; clear HO_10; have BK389 := n0_; have HB := n1_; have HO396 := n2_; clear n0_ n1_ n2_; clear ho hb hg hat; have hcz47_0 : w46.cell? ⟨gb389, 0, none⟩ = some (.int .i64 (wrap64 ((wrap64 (x11_1 + 1)) + (wrap64 (t382))))) := (blk_cell BK389.out 0).trans rfl; have hcz47_1 : w46.cell? ⟨gb389, 1, none⟩ = some (.int .i64 (wrap64 ((wrap64 ((wrap64 (x11_1 + 1)) + (wrap64 (t382)))) + (wrap64 (t385))))) := (blk_cell BK389.out 1).trans rfl; have hcz47_2 : w46.cell? ⟨gb389, 2, none⟩ = some (.int .i64 (wrap64 (rd l0 t386))) := (blk_cell BK389.out 2).trans rfl; have hfz47_0 := blk_frozen BK389.out 0; have hfz47_1 := blk_frozen BK389.out 1; have hfz47_2 := blk_frozen BK389.out 2)); try go_wp2_with (first | ((with_reducible refine gate_dst (N := 19) rfl ?_); refine box_event ?hg (N := 19) ?hd (cs := #[.int .i64 0, .int .i64 0, .int .i64 0]) (t := 43) ?hr ?_; (case hd => rfl); (case hg => rfl); (case hr => first | (go_simp; done) | (go_simp; rfl)); intro gb389 hg w44 hbox hb; have n0_ := Aside0.mk (Kd.R_below (Kd.R_elderB (by (with_reducible repeat (first | apply Kd.R_alloc | apply Kd.R_drewN | apply Kd.R_drew)); exact HO_10.out) gb389 (Nat.le_of_eq hg.symm)) hb); have n1_ := Aside0.mk (below_step (by repeat (first | (with_reducible first | exact HB.out | apply below_alloc | apply pw_below_drewN | apply below_drew1) | exact HB.out)) hb); have n2_ := Aside0.mk (hbox); have n3_ := Aside0.mk ((by rw [hg]; exact (below_size (by repeat (first | (with_reducible first | exact HB.out | apply below_alloc | apply pw_below_drewN | apply below_drew1) | exact HB.out))) : w.heap.size ≤ gb389)); have n4_ := Aside0.mk ((by rw [hg]; exact (below_size (by repeat (first | (with_reducible first | exact HB.out | apply below_alloc | apply pw_below_drewN | apply below_drew1) | exact HB.out))) : w.heap.size ≤ gb389)); clear HO_10; clear HB; have HO_10 := n0_; have HB := n1_; have BK389 := n2_; have GW389 := n3_; have GE389 := n4_; clear n0_ n1_ n2_ n3_ n4_; clear hb hbox hg; have hcz45_0 : w44.cell? ⟨gb389, 0, none⟩ = some (.int .i64 0) := (blk_cell BK389.out 0).trans rfl; have hcz45_1 : w44.cell? ⟨gb389, 1, none⟩ = some (.int .i64 0) := (blk_cell BK389.out 1).trans rfl; have hcz45_2 : w44.cell? ⟨gb389, 2, none⟩ = some (.int .i64 0) := (blk_cell BK389.out 2).trans rfl; have hfz45_0 := blk_frozen BK389.out 0; have hfz45_1 := blk_frozen BK389.out 1; have hfz45_2 := blk_frozen BK389.out 2) | ((with_reducible refine gate_builtin (b := .append) (xs := #[.tmp 120, .tmp 122]) rfl ?_); at_builtin; refine Kd.R_append k43 (w0 := w) w.heap.size rfl (.tmp 120) (.tmp 122) 22 43 (.agg #[(.int .i64 0), (.int .i64 0), (.int .i64 0)]) 24 rfl Try.underlying22 info43 rfl (by decide) (by omega) u10 x10_1 (⟨wrap64 ((wrap64 (x11_1 + 1)) + (wrap64 (t382))), wrap64 ((wrap64 ((wrap64 (x11_1 + 1)) + (wrap64 (t382)))) + (wrap64 (t385))), wrap64 (rd l0 t386)⟩ : S43) [.int .i64 (wrap64 ((wrap64 (x11_1 + 1)) + (wrap64 (t382)))), .int .i64 (wrap64 ((wrap64 ((wrap64 (x11_1 + 1)) + (wrap64 (t382)))) + (wrap64 (t385)))), .int .i64 (wrap64 (rd l0 t386))] (fun k_ => k_ ≠ gb389) (fun _ => False) rfl (by first | (go_simp; done) | (go_simp; rfl)) ?aP (fun _ hk => hk.elim) ?aF ?aO ?aB ?aS ?aL ?_; (case aP => exact k43_mkM _ _ _ (⟨wrap64 ((wrap64 (x11_1 + 1)) + (wrap64 (t382))), wrap64 ((wrap64 ((wrap64 (x11_1 + 1)) + (wrap64 (t382)))) + (wrap64 (t385))), wrap64 (rd l0 t386)⟩ : S43)); (case aB => exact (by repeat (first | (with_reducible first | exact HB.out | apply below_alloc | apply pw_below_drewN | apply below_drew1 | refine below_set ?_ GE389.out) | exact HB.out))); (case aF => exact (fun k_ hk => Kd.freshB (g := gb389) (o := .cells #[.int .i64 (wrap64 ((wrap64 (x11_1 + 1)) + (wrap64 (t382)))), .int .i64 (wrap64 ((wrap64 ((wrap64 (x11_1 + 1)) + (wrap64 (t382)))) + (wrap64 (t385)))), .int .i64 (wrap64 (rd l0 t386))] 43 (0, 0)) (by (with_reducible repeat (first | refine blk_drewN ?_ _ | refine blk_drew ?_ | refine blk_alloc ?_ _)); refine blk_put (cs := #[.int .i64 (wrap64 ((wrap64 (x11_1 + 1)) + (wrap64 (t382)))), .int .i64 (wrap64 ((wrap64 ((wrap64 (x11_1 + 1)) + (wrap64 (t382)))) + (wrap64 (t385)))), .int .i64 0]) ?_ 2 _ rfl; (with_reducible repeat (first | refine blk_drewN ?_ _ | refine blk_drew ?_ | refine blk_alloc ?_ _)); refine blk_put (cs := #[.int .i64 (wrap64 ((wrap64 (x11_1 + 1)) + (wrap64 (t382)))), .int .i64 0, .int .i64 0]) ?_ 1 _ rfl; (with_reducible repeat (first | refine blk_drewN ?_ _ | refine blk_drew ?_ | refine blk_alloc ?_ _)); refine blk_put (cs := #[.int .i64 0, .int .i64 0, .int .i64 0]) ?_ 0 _ rfl; (with_reducible repeat (first | refine blk_drewN ?_ _ | refine blk_drew ?_ | refine blk_alloc ?_ _)); exact BK389.out) k_ hk)); (case aO => exact (by (with_reducible repeat (first | apply Kd.R_alloc | apply Kd.R_drewN | apply Kd.R_drew)); exact Kd.R_mono (Kd.R_far (p := ⟨gb389, 2, none⟩) (Kd.R_far (p := ⟨gb389, 1, none⟩) (Kd.R_far (p := ⟨gb389, 0, none⟩) (Kd.R_mono HO_10.out (fun k_ hk => (⟨hk, hk.2⟩ : _ ∧ k_ ≠ gb389))) (fun _ hk => hk.2) (.int .i64 (wrap64 ((wrap64 (x11_1 + 1)) + (wrap64 (t382)))))) (fun _ hk => hk.2) (.int .i64 (wrap64 ((wrap64 ((wrap64 (x11_1 + 1)) + (wrap64 (t382)))) + (wrap64 (t385)))))) (fun _ hk => hk.2) (.int .i64 (wrap64 (rd l0 t386)))) (fun _ hk => hk.1.2))); (case aS => exact (below_size (by repeat (first | (with_reducible first | exact HB.out | apply below_alloc | apply pw_below_drewN | apply below_drew1 | refine below_set ?_ GE389.out) | exact HB.out)))); (case aL => have := LMc43.out; omega); intro v395 w46 ho hb hg hat; rw [← Ny394.out] at ho; have n0_ := Aside0.mk (blk_grown (g := gb389) (o := .cells #[.int .i64 (wrap64 ((wrap64 (x11_1 + 1)) + (wrap64 (t382)))), .int .i64 (wrap64 ((wrap64 ((wrap64 (x11_1 + 1)) + (wrap64 (t382)))) + (wrap64 (t385)))), .int .i64 (wrap64 (rd l0 t386))] 43 (0, 0)) (by (with_reducible repeat (first | refine blk_drewN ?_ _ | refine blk_drew ?_ | refine blk_alloc ?_ _)); refine blk_put (cs := #[.int .i64 (wrap64 ((wrap64 (x11_1 + 1)) + (wrap64 (t382)))), .int .i64 (wrap64 ((wrap64 ((wrap64 (x11_1 + 1)) + (wrap64 (t382)))) + (wrap64 (t385)))), .int .i64 0]) ?_ 2 _ rfl; (with_reducible repeat (first | refine blk_drewN ?_ _ | refine blk_drew ?_ | refine blk_alloc ?_ _)); refine blk_put (cs := #[.int .i64 (wrap64 ((wrap64 (x11_1 + 1)) + (wrap64 (t382)))), .int .i64 0, .int .i64 0]) ?_ 1 _ rfl; (with_reducible repeat (first | refine blk_drewN ?_ _ | refine blk_drew ?_ | refine blk_alloc ?_ _)); refine blk_put (cs := #[.int .i64 0, .int .i64 0, .int .i64 0]) ?_ 0 _ rfl; (with_reducible repeat (first | refine blk_drewN ?_ _ | refine blk_drew ?_ | refine blk_alloc ?_ _)); exact BK389.out) hg (Kd.R_away HO_10.out (fun _ hk => hk.2))); have n1_ := Aside0.mk (hb); have n2_ := Aside0.mk (ho); clear BK389; clear HB; clear HO_10; have BK389 := n0_; have HB := n1_; have HO396 := n2_; clear n0_ n1_ n2_; clear ho hb hg hat; have hcz47_0 : w46.cell? ⟨gb389, 0, none⟩ = some (.int .i64 (wrap64 ((wrap64 (x11_1 + 1)) + (wrap64 (t382))))) := (blk_cell BK389.out 0).trans rfl; have hcz47_1 : w46.cell? ⟨gb389, 1, none⟩ = some (.int .i64 (wrap64 ((wrap64 ((wrap64 (x11_1 + 1)) + (wrap64 (t382)))) + (wrap64 (t385))))) := (blk_cell BK389.out 1).trans rfl; have hcz47_2 : w46.cell? ⟨gb389, 2, none⟩ = some (.int .i64 (wrap64 (rd l0 t386))) := (blk_cell BK389.out 2).trans rfl; have hfz47_0 := blk_frozen BK389.out 0; have hfz47_1 := blk_frozen BK389.out 1; have hfz47_2 := blk_frozen BK389.out 2)))
         go_roundg kj13
         case measure => have := HK1.out; have := HJ13.out; omega
         case rel => exact ⟨(wrap64 (t386 + 1)), (y394), (wrap64 ((wrap64 ((wrap64 (x11_1 + 1)) + (wrap64 (t382)))) + (wrap64 (t385)))), (wrap64 (x12_1 + 1)), (by rfl), (by rfl), (by rfl), H', ⟨by have := HK1.out; have := HJ13.out; omega⟩, ⟨by exact Kd.R_mono HO396.out (fun _ hk => trivial)⟩, ⟨by repeat (with_reducible exact HB.out)⟩⟩
        rw [if_neg c43] at H
        exact absurd H (by simp)
       rw [if_neg c28] at H
       have c28b0 : decide (0 < x12_1) = false := decide_eq_false c28
       clear c28
       by_cases c48 : x10_1.length < 5864062014805
       ·
        rw [if_pos c48] at H
        have LMc48 := Aside0.mk c48
        clear c48
        obtain ⟨y397, hy397⟩ : ∃ y_ : List (S43), y_ = (x10_1 ++ [(⟨wrap64 ((wrap64 (x11_1 + 1)) + (wrap64 (t382))), wrap64 ((wrap64 ((wrap64 (x11_1 + 1)) + (wrap64 (t382)))) + (wrap64 (t385))), wrap64 (rd l0 t386)⟩ : S43)]) := ⟨_, rfl⟩
        replace H : (grapevineref08_Take.l0 kj13 l0 t376 (wrap64 (t386 + 1)) y397 (wrap64 ((wrap64 ((wrap64 (x11_1 + 1)) + (wrap64 (t382)))) + (wrap64 (t385)))) (wrap64 (x12_1 + 1))) = some (r1, r2, r3) := by (rw [hy397]; with_reducible exact H)
        have Ny397 := Aside0.mk hy397
        clear hy397
        have H' := Aside0.mk H
        clear H
        have p388 : 0 ≤ (t386 : Int) := of_decide_eq_true (by (with_reducible assumption))
        have q388 : t386 < (l0.length : Int) := of_decide_eq_true (by (with_reducible assumption))
        obtain ⟨ad388, e388, hx388_0⟩ := Kd.at_int HR0.out t386 p388 q388
        cases e388
        replace hx388_0 := (HB.out.cell (World.block_lt_of_cell? w _ hx388_0)).trans hx388_0
        replace p388 := eq_true p388
        replace q388 := eq_true q388
        go_wp2_with (((with_reducible refine gate_dst (N := 19) rfl ?_); refine box_event ?hg (N := 19) ?hd (cs := #[.int .i64 0, .int .i64 0, .int .i64 0]) (t := 43) ?hr ?_; (case hd => rfl); (case hg => rfl); (case hr => (go_simp; done)); intro gb389 hg w49 hbox hb; have n0_ := Aside0.mk (Kd.R_below (Kd.R_elderB (by exact HO_10.out) gb389 (Nat.le_of_eq hg.symm)) hb); have n1_ := Aside0.mk (below_step (by repeat (with_reducible exact HB.out)) hb); have n2_ := Aside0.mk (hbox); have n3_ := Aside0.mk ((by rw [hg]; exact (below_size (by repeat (with_reducible exact HB.out))) : w.heap.size ≤ gb389)); have n4_ := Aside0.mk ((by rw [hg]; exact (below_size (by repeat (with_reducible exact HB.out))) : w.heap.size ≤ gb389)); clear HO_10; clear HB; have HO_10 := n0_; have HB := n1_; have BK389 := n2_; have GW389 := n3_; have GE389 := n4_; clear n0_ n1_ n2_ n3_ n4_; clear hb hbox hg; obtain ⟨hcz50_0, hcz50_1, hcz50_2, hfz50_0, hfz50_1, hfz50_2⟩ := cz3 BK389.out))
        repeat (go_quiet (first | ((with_reducible refine gate_dst (N := 19) rfl ?_); refine box_event ?hg (N := 19) ?hd (cs := #[.int .i64 0, .int .i64 0, .int .i64 0]) (t := 43) ?hr ?_; (case hd => rfl); (case hg => rfl); (case hr => first | (go_simp; done) | (go_simp; rfl)); intro gb389 hg w49 hbox hb; have n0_ := Aside0.mk (Kd.R_below (Kd.R_elderB (by (with_reducible repeat (first | apply Kd.R_alloc | apply Kd.R_drewN | apply Kd.R_drew)); exact HO_10.out) gb389 (Nat.le_of_eq hg.symm)) hb); have n1_ := Aside0.mk (below_step (by repeat (first | (with_reducible first | exact HB.out | apply below_alloc | apply pw_below_drewN | apply below_drew1) | exact HB.out)) hb); have n2_ := Aside0.mk (hbox); have n3_ := Aside0.mk ((by rw [hg]; exact (below_size (by repeat (first | (with_reducible first | exact HB.out | apply below_alloc | apply pw_below_drewN | apply below_drew1) | exact HB.out))) : w.heap.size ≤ gb389)); have n4_ := Aside0.mk ((by rw [hg]; exact (below_size (by repeat (first | (with_reducible first | exact HB.out | apply below_alloc | apply pw_below_drewN | apply below_drew1) | exact HB.out))) : w.heap.size ≤ gb389)); clear HO_10; clear HB; have HO_10 := n0_; have HB := n1_; have BK389 := n2_; have GW389 := n3_; have GE389 := n4_; clear n0_ n1_ n2_ n3_ n4_; clear hb hbox hg; have hcz50_0 : w49.cell? ⟨gb389, 0, none⟩ = some (.int .i64 0) := (blk_cell BK389.out 0).trans rfl; have hcz50_1 : w49.cell? ⟨gb389, 1, none⟩ = some (.int .i64 0) := (blk_cell BK389.out 1).trans rfl; have hcz50_2 : w49.cell? ⟨gb389, 2, none⟩ = some (.int .i64 0) := (blk_cell BK389.out 2).trans rfl; have hfz50_0 := blk_frozen BK389.out 0; have hfz50_1 := blk_frozen BK389.out 1; have hfz50_2 := blk_frozen BK389.out 2) | ((with_reducible refine gate_builtin (b := .append) (xs := #[.tmp 120, .tmp 122]) rfl ?_); at_builtin; refine Kd.R_append k43 (w0 := w) w.heap.size rfl (.tmp 120) (.tmp 122) 22 43 (.agg #[(.int .i64 0), (.int .i64 0), (.int .i64 0)]) 24 rfl Try.underlying22 info43 rfl (by decide) (by omega) u10 x10_1 (⟨wrap64 ((wrap64 (x11_1 + 1)) + (wrap64 (t382))), wrap64 ((wrap64 ((wrap64 (x11_1 + 1)) + (wrap64 (t382)))) + (wrap64 (t385))), wrap64 (rd l0 t386)⟩ : S43) [.int .i64 (wrap64 ((wrap64 (x11_1 + 1)) + (wrap64 (t382)))), .int .i64 (wrap64 ((wrap64 ((wrap64 (x11_1 + 1)) + (wrap64 (t382)))) + (wrap64 (t385)))), .int .i64 (wrap64 (rd l0 t386))] (fun k_ => k_ ≠ gb389) (fun _ => False) rfl (by first | (go_simp; done) | (go_simp; rfl)) ?aP (fun _ hk => hk.elim) ?aF ?aO ?aB ?aS ?aL ?_; (case aP => exact k43_mkM _ _ _ (⟨wrap64 ((wrap64 (x11_1 + 1)) + (wrap64 (t382))), wrap64 ((wrap64 ((wrap64 (x11_1 + 1)) + (wrap64 (t382)))) + (wrap64 (t385))), wrap64 (rd l0 t386)⟩ : S43)); (case aB => exact (by repeat (first | (with_reducible first | exact HB.out | apply below_alloc | apply pw_below_drewN | apply below_drew1 | refine below_set ?_ GE389.out) | exact HB.out))); (case aF => exact (fun k_ hk => Kd.freshB (g := gb389) (o := .cells #[.int .i64 (wrap64 ((wrap64 (x11_1 + 1)) + (wrap64 (t382)))), .int .i64 (wrap64 ((wrap64 ((wrap64 (x11_1 + 1)) + (wrap64 (t382)))) + (wrap64 (t385)))), .int .i64 (wrap64 (rd l0 t386))] 43 (0, 0)) (by (with_reducible repeat (first | refine blk_drewN ?_ _ | refine blk_drew ?_ | refine blk_alloc ?_ _)); refine blk_put (cs := #[.int .i64 (wrap64 ((wrap64 (x11_1 + 1)) + (wrap64 (t382)))), .int .i64 (wrap64 ((wrap64 ((wrap64 (x11_1 + 1)) + (wrap64 (t382)))) + (wrap64 (t385)))), .int .i64 0]) ?_ 2 _ rfl; (with_reducible repeat (first | refine blk_drewN ?_ _ | refine blk_drew ?_ | refine blk_alloc ?_ _)); refine blk_put (cs := #[.int .i64 (wrap64 ((wrap64 (x11_1 + 1)) + (wrap64 (t382)))), .int .i64 0, .int .i64 0]) ?_ 1 _ rfl; (with_reducible repeat (first | refine blk_drewN ?_ _ | refine blk_drew ?_ | refine blk_alloc ?_ _)); refine blk_put (cs := #[.int .i64 0, .int .i64 0, .int .i64 0]) ?_ 0 _ rfl; (with_reducible repeat (first | refine blk_drewN ?_ _ | refine blk_drew ?_ | refine blk_alloc ?_ _)); exact BK389.out) k_ hk)); (case aO => exact (by (with_reducible repeat (first | apply Kd.R_alloc | apply Kd.R_drewN | apply Kd.R_drew)); exact Kd.R_mono (Kd.R_far (p := ⟨gb389, 2, none⟩) (Kd.R_far (p := ⟨gb389, 1, none⟩) (Kd.R_far (p := ⟨gb389, 0, none⟩) (Kd.R_mono HO_10.out (fun k_ hk => (⟨hk, hk.2⟩ : _ ∧ k_ ≠ gb389))) (fun _ hk => hk.2) (.int .i64 (wrap64 ((wrap64 (x11_1 + 1)) + (wrap64 (t382)))))) (fun _ hk => hk.2) (.int .i64 (wrap64 ((wrap64 ((wrap64 (x11_1 + 1)) + (wrap64 (t382)))) + (wrap64 (t385)))))) (fun _ hk => hk.2) (.int .i64 (wrap64 (rd l0 t386)))) (fun _ hk => hk.1.2))); (case aS => exact (below_size (by repeat (first | (with_reducible first | exact HB.out | apply below_alloc | apply pw_below_drewN | apply below_drew1 | refine below_set ?_ GE389.out) | exact HB.out)))); (case aL => have := LMc48.out; omega); intro v398 w51 ho hb hg hat; rw [← Ny397.out] at ho; have n0_ := Aside0.mk (blk_grown (g := gb389) (o := .cells #[.int .i64 (wrap64 ((wrap64 (x11_1 + 1)) + (wrap64 (t382)))), .int .i64 (wrap64 ((wrap64 ((wrap64 (x11_1 + 1)) + (wrap64 (t382)))) + (wrap64 (t385)))), .int .i64 (wrap64 (rd l0 t386))] 43 (0, 0)) (by (with_reducible repeat (first | refine blk_drewN ?_ _ | refine blk_drew ?_ | refine blk_alloc ?_ _)); refine blk_put (cs := #[.int .i64 (wrap64 ((wrap64 (x11_1 + 1)) + (wrap64 (t382)))), .int .i64 (wrap64 ((wrap64 ((wrap64 (x11_1 + 1)) + (wrap64 (t382)))) + (wrap64 (t385)))), .int .i64 0]) ?_ 2 _ rfl; (with_reducible repeat (first | refine blk_drewN ?_ _ | refine blk_drew ?_ | refine blk_alloc ?_ _)); refine blk_put (cs := #[.int .i64 (wrap64 ((wrap64 (x11_1 + 1)) + (wrap64 (t382)))), .int .i64 0, .int .i64 0]) ?_ 1 _ rfl; (with_reducible repeat (first | refine blk_drewN ?_ _ | refine blk_drew ?_ | refine blk_alloc ?_ _)); refine blk_put (cs := #[.int .i64 0, .int .i64 0, .int .i64 0]) ?_ 0 _ rfl; (with_reducible repeat (first | refine blk_drewN ?_ _ | refine blk_drew ?_ | refine blk_alloc ?_ _)); exact BK389.out) hg (Kd.R_away HO_10.out (fun _ hk => hk.2))); have n1_ := Aside0.mk (hb); have n2_ := Aside0.mk (ho); clear BK389; clear HB; clear HO_10; have BK389 := n0_; have HB := n1_; have HO399 := n2_; clear n0_ n1_ n2_; clear ho hb hg hat; have hcz52_0 : w51.cell? ⟨gb389, 0, none⟩ = some (.int .i64 (wrap64 ((wrap64 (x11_1 + 1)) + (wrap64 (t382))))) := (blk_cell BK389.out 0).trans rfl; have hcz52_1 : w51.cell? ⟨gb389, 1, none⟩ = some (.int .i64 (wrap64 ((wrap64 ((wrap64 (x11_1 + 1)) + (wrap64 (t382)))) + (wrap64 (t385))))) := (blk_cell BK389.out 1).trans rfl; have hcz52_2 : w51.cell? ⟨gb389, 2, none⟩ = some (.int .i64 (wrap64 (rd l0 t386))) := (blk_cell BK389.out 2).trans rfl; have hfz52_0 := blk_frozen BK389.out 0; have hfz52_1 := blk_frozen BK389.out 1; have hfz52_2 := blk_frozen BK389.out 2)); try go_wp2_with (first | ((with_reducible refine gate_dst (N := 19) rfl ?_); refine box_event ?hg (N := 19) ?hd (cs := #[.int .i64 0, .int .i64 0, .int .i64 0]) (t := 43) ?hr ?_; (case hd => rfl); (case hg => rfl); (case hr => first | (go_simp; done) | (go_simp; rfl)); intro gb389 hg w49 hbox hb; have n0_ := Aside0.mk (Kd.R_below (Kd.R_elderB (by (with_reducible repeat (first | apply Kd.R_alloc | apply Kd.R_drewN | apply Kd.R_drew)); exact HO_10.out) gb389 (Nat.le_of_eq hg.symm)) hb); have n1_ := Aside0.mk (below_step (by repeat (first | (with_reducible first | exact HB.out | apply below_alloc | apply pw_below_drewN | apply below_drew1) | exact HB.out)) hb); have n2_ := Aside0.mk (hbox); have n3_ := Aside0.mk ((by rw [hg]; exact (below_size (by repeat (first | (with_reducible first | exact HB.out | apply below_alloc | apply pw_below_drewN | apply below_drew1) | exact HB.out))) : w.heap.size ≤ gb389)); have n4_ := Aside0.mk ((by rw [hg]; exact (below_size (by repeat (first | (with_reducible first | exact HB.out | apply below_alloc | apply pw_below_drewN | apply below_drew1) | exact HB.out))) : w.heap.size ≤ gb389)); clear HO_10; clear HB; have HO_10 := n0_; have HB := n1_; have BK389 := n2_; have GW389 := n3_; have GE389 := n4_; clear n0_ n1_ n2_ n3_ n4_; clear hb hbox hg; have hcz50_0 : w49.cell? ⟨gb389, 0, none⟩ = some (.int .i64 0) := (blk_cell BK389.out 0).trans rfl; have hcz50_1 : w49.cell? ⟨gb389, 1, none⟩ = some (.int .i64 0) := (blk_cell BK389.out 1).trans rfl; have hcz50_2 : w49.cell? ⟨gb389, 2, none⟩ = some (.int .i64 0) := (blk_cell BK389.out 2).trans rfl; have hfz50_0 := blk_frozen BK389.out 0; have hfz50_1 := blk_frozen BK389.out 1; have hfz50_2 := blk_frozen BK389.out 2) | ((with_reducible refine gate_builtin (b := .append) (xs := #[.tmp 120, .tmp 122]) rfl ?_); at_builtin; refine Kd.R_append k43 (w0 := w) w.heap.size rfl (.tmp 120) (.tmp 122) 22 43 (.agg #[(.int .i64 0), (.int .i64 0), (.int .i64 0)]) 24 rfl Try.underlying22 info43 rfl (by decide) (by omega) u10 x10_1 (⟨wrap64 ((wrap64 (x11_1 + 1)) + (wrap64 (t382))), wrap64 ((wrap64 ((wrap64 (x11_1 + 1)) + (wrap64 (t382)))) + (wrap64 (t385))), wrap64 (rd l0 t386)⟩ : S43) [.int .i64 (wrap64 ((wrap64 (x11_1 + 1)) + (wrap64 (t382)))), .int .i64 (wrap64 ((wrap64 ((wrap64 (x11_1 + 1)) + (wrap64 (t382)))) + (wrap64 (t385)))), .int .i64 (wrap64 (rd l0 t386))] (fun k_ => k_ ≠ gb389) (fun _ => False) rfl (by first | (go_simp; done) | (go_simp; rfl)) ?aP (fun _ hk => hk.elim) ?aF ?aO ?aB ?aS ?aL ?_; (case aP => exact k43_mkM _ _ _ (⟨wrap64 ((wrap64 (x11_1 + 1)) + (wrap64 (t382))), wrap64 ((wrap64 ((wrap64 (x11_1 + 1)) + (wrap64 (t382)))) + (wrap64 (t385))), wrap64 (rd l0 t386)⟩ : S43)); (case aB => exact (by repeat (first | (with_reducible first | exact HB.out | apply below_alloc | apply pw_below_drewN | apply below_drew1 | refine below_set ?_ GE389.out) | exact HB.out))); (case aF => exact (fun k_ hk => Kd.freshB (g := gb389) (o := .cells #[.int .i64 (wrap64 ((wrap64 (x11_1 + 1)) + (wrap64 (t382)))), .int .i64 (wrap64 ((wrap64 ((wrap64 (x11_1 + 1)) + (wrap64 (t382)))) + (wrap64 (t385)))), .int .i64 (wrap64 (rd l0 t386))] 43 (0, 0)) (by (with_reducible repeat (first | refine blk_drewN ?_ _ | refine blk_drew ?_ | refine blk_alloc ?_ _)); refine blk_put (cs := #[.int .i64 (wrap64 ((wrap64 (x11_1 + 1)) + (wrap64 (t382)))), .int .i64 (wrap64 ((wrap64 ((wrap64 (x11_1 + 1)) + (wrap64 (t382)))) + (wrap64 (t385)))), .int .i64 0]) ?_ 2 _ rfl; (with_reducible repeat (first | refine blk_drewN ?_ _ | refine blk_drew ?_ | refine blk_alloc ?_ _)); refine blk_put (cs := #[.int .i64 (wrap64 ((wrap64 (x11_1 + 1)) + (wrap64 (t382)))), .int .i64 0, .int .i64 0]) ?_ 1 _ rfl; (with_reducible repeat (first | refine blk_drewN ?_ _ | refine blk_drew ?_ | refine blk_alloc ?_ _)); refine blk_put (cs := #[.int .i64 0, .int .i64 0, .int .i64 0]) ?_ 0 _ rfl; (with_reducible repeat (first | refine blk_drewN ?_ _ | refine blk_drew ?_ | refine blk_alloc ?_ _)); exact BK389.out) k_ hk)); (case aO => exact (by (with_reducible repeat (first | apply Kd.R_alloc | apply Kd.R_drewN | apply Kd.R_drew)); exact Kd.R_mono (Kd.R_far (p := ⟨gb389, 2, none⟩) (Kd.R_far (p := ⟨gb389, 1, none⟩) (Kd.R_far (p := ⟨gb389, 0, none⟩) (Kd.R_mono HO_10.out (fun k_ hk => (⟨hk, hk.2⟩ : _ ∧ k_ ≠ gb389))) (fun _ hk => hk.2) (.int .i64 (wrap64 ((wrap64 (x11_1 + 1)) + (wrap64 (t382)))))) (fun _ hk => hk.2) (.int .i64 (wrap64 ((wrap64 ((wrap64 (x11_1 + 1)) + (wrap64 (t382)))) + (wrap64 (t385)))))) (fun _ hk => hk.2) (.int .i64 (wrap64 (rd l0 t386)))) (fun _ hk => hk.1.2))); (case aS => exact (below_size (by repeat (first | (with_reducible first | exact HB.out | apply below_alloc | apply pw_below_drewN | apply below_drew1 | refine below_set ?_ GE389.out) | exact HB.out)))); (case aL => have := LMc48.out; omega); intro v398 w51 ho hb hg hat; rw [← Ny397.out] at ho; have n0_ := Aside0.mk (blk_grown (g := gb389) (o := .cells #[.int .i64 (wrap64 ((wrap64 (x11_1 + 1)) + (wrap64 (t382)))), .int .i64 (wrap64 ((wrap64 ((wrap64 (x11_1 + 1)) + (wrap64 (t382)))) + (wrap64 (t385)))), .int .i64 (wrap64 (rd l0 t386))] 43 (0, 0)) (by (with_reducible repeat (first | refine blk_drewN ?_ _ | refine blk_drew ?_ | refine blk_alloc ?_ _)); refine blk_put (cs := #[.int .i64 (wrap64 ((wrap64 (x11_1 + 1)) + (wrap64 (t382)))), .int .i64 (wrap64 ((wrap64 ((wrap64 (x11_1 + 1)) + (wrap64 (t382)))) + (wrap64 (t385)))), .int .i64 0]) ?_ 2 _ rfl; (with_reducible repeat (first | refine blk_drewN ?_ _ | refine blk_drew ?_ | refine blk_alloc ?_ _)); refine blk_put (cs := #[.int .i64 (wrap64 ((wrap64 (x11_1 + 1)) + (wrap64 (t382)))), .int .i64 0, .int .i64 0]) ?_ 1 _ rfl; (with_reducible repeat (first | refine blk_drewN ?_ _ | refine blk_drew ?_ | refine blk_alloc ?_ _)); refine blk_put (cs := #[.int .i64 0, .int .i64 0, .int .i64 0]) ?_ 0 _ rfl; (with_reducible repeat (first | refine blk_drewN ?_ _ | refine blk_drew ?_ | refine blk_alloc ?_ _)); exact BK389.out) hg (Kd.R_away HO_10.out (fun _ hk => hk.2))); have n1_ := Aside0.mk (hb); have n2_ := Aside0.mk (ho); clear BK389; clear HB; clear HO_10; have BK389 := n0_; have HB := n1_; have HO399 := n2_; clear n0_ n1_ n2_; clear ho hb hg hat; have hcz52_0 : w51.cell? ⟨gb389, 0, none⟩ = some (.int .i64 (wrap64 ((wrap64 (x11_1 + 1)) + (wrap64 (t382))))) := (blk_cell BK389.out 0).trans rfl; have hcz52_1 : w51.cell? ⟨gb389, 1, none⟩ = some (.int .i64 (wrap64 ((wrap64 ((wrap64 (x11_1 + 1)) + (wrap64 (t382)))) + (wrap64 (t385))))) := (blk_cell BK389.out 1).trans rfl; have hcz52_2 : w51.cell? ⟨gb389, 2, none⟩ = some (.int .i64 (wrap64 (rd l0 t386))) := (blk_cell BK389.out 2).trans rfl; have hfz52_0 := blk_frozen BK389.out 0; have hfz52_1 := blk_frozen BK389.out 1; have hfz52_2 := blk_frozen BK389.out 2)))
        go_roundg kj13
        case measure => have := HK1.out; have := HJ13.out; omega
        case rel => exact ⟨(wrap64 (t386 + 1)), (y397), (wrap64 ((wrap64 ((wrap64 (x11_1 + 1)) + (wrap64 (t382)))) + (wrap64 (t385)))), (wrap64 (x12_1 + 1)), (by rfl), (by rfl), (by rfl), H', ⟨by have := HK1.out; have := HJ13.out; omega⟩, ⟨by exact Kd.R_mono HO399.out (fun _ hk => trivial)⟩, ⟨by repeat (with_reducible exact HB.out)⟩⟩
       rw [if_neg c48] at H
       exact absurd H (by simp)
      rw [if_neg c18] at H
      exact absurd H (by simp)
     rw [if_neg c17] at H
     exact absurd H (by simp)
    rw [if_neg c12] at H
    have c12b0 : (t387 == 0) = false := beq_eq_false_iff_ne.mpr c12
    have c12b1 : (t387 != 0) = true := bne_iff_ne.mpr c12
    simp only [Option.some.injEq, Prod.mk.injEq] at H
    obtain ⟨rfl, rfl, rfl⟩ := H
    go_wp2_with (first | (go_at_call 76; (with_reducible refine (grapevineref02_TakeUint.calls k1 _ _ l0 x8_1 t382 t383 t384 _ ?side1 ?side2 A9.out).mono ?_); (case side1 => repeat (exact (Kd.C_below HR0.out HB.out))); (case side2 => exact HC0.out); rintro e w' ⟨rfl, ⟨nd, rfl⟩⟩) | (go_at_call 76; (with_reducible refine (grapevineref02_TakeUint.calls k1 _ _ l0 t383 t385 t386 t387 _ ?side1 ?side2 A11.out).mono ?_); (case side1 => repeat (exact (Kd.C_below HR0.out (by repeat (with_reducible first | exact HB.out | apply pw_below_drewN))))); (case side2 => exact HC0.out); rintro e w' ⟨rfl, ⟨nd, rfl⟩⟩))
    repeat (go_quiet (first | (go_at_call 76; (with_reducible refine (grapevineref02_TakeUint.calls k1 _ _ l0 x8_1 t382 t383 t384 _ ?side1 ?side2 A9.out).mono ?_); (case side1 => repeat (first | exact (Kd.C_below HR0.out HB.out) | (with_reducible refine Kd.C_alloc ?_ _) | (with_reducible refine Kd.C_drewN ?_ _) | (with_reducible refine Kd.C_drew ?_))); (case side2 => exact HC0.out); rintro e w' ⟨rfl, ⟨nd, rfl⟩⟩; (try first | exact ⟨rfl, _, World.drewN_drewN _ _ _⟩ | exact ⟨rfl, _, Eq.trans (World.drewN_drewN _ _ _) (congrArg (World.drewN _) (Nat.add_assoc _ _ _))⟩)) | (go_at_call 76; (with_reducible refine (grapevineref02_TakeUint.calls k1 _ _ l0 t383 t385 t386 t387 _ ?side1 ?side2 A11.out).mono ?_); (case side1 => repeat (first | exact (Kd.C_below HR0.out (by repeat (first | (with_reducible first | exact HB.out | apply below_alloc | apply pw_below_drewN | apply below_drew1) | exact HB.out))) | (with_reducible refine Kd.C_alloc ?_ _) | (with_reducible refine Kd.C_drewN ?_ _) | (with_reducible refine Kd.C_drew ?_))); (case side2 => exact HC0.out); rintro e w' ⟨rfl, ⟨nd, rfl⟩⟩; (try first | exact ⟨rfl, _, World.drewN_drewN _ _ _⟩ | exact ⟨rfl, _, Eq.trans (World.drewN_drewN _ _ _) (congrArg (World.drewN _) (Nat.add_assoc _ _ _))⟩))); try go_wp2_with (first | (go_at_call 76; (with_reducible refine (grapevineref02_TakeUint.calls k1 _ _ l0 x8_1 t382 t383 t384 _ ?side1 ?side2 A9.out).mono ?_); (case side1 => repeat (first | exact (Kd.C_below HR0.out HB.out) | (with_reducible refine Kd.C_alloc ?_ _) | (with_reducible refine Kd.C_drewN ?_ _) | (with_reducible refine Kd.C_drew ?_))); (case side2 => exact HC0.out); rintro e w' ⟨rfl, ⟨nd, rfl⟩⟩; (try first | exact ⟨rfl, _, World.drewN_drewN _ _ _⟩ | exact ⟨rfl, _, Eq.trans (World.drewN_drewN _ _ _) (congrArg (World.drewN _) (Nat.add_assoc _ _ _))⟩)) | (go_at_call 76; (with_reducible refine (grapevineref02_TakeUint.calls k1 _ _ l0 t383 t385 t386 t387 _ ?side1 ?side2 A11.out).mono ?_); (case side1 => repeat (first | exact (Kd.C_below HR0.out (by repeat (first | (with_reducible first | exact HB.out | apply below_alloc | apply pw_below_drewN | apply below_drew1) | exact HB.out))) | (with_reducible refine Kd.C_alloc ?_ _) | (with_reducible refine Kd.C_drewN ?_ _) | (with_reducible refine Kd.C_drew ?_))); (case side2 => exact HC0.out); rintro e w' ⟨rfl, ⟨nd, rfl⟩⟩; (try first | exact ⟨rfl, _, World.drewN_drewN _ _ _⟩ | exact ⟨rfl, _, Eq.trans (World.drewN_drewN _ _ _) (congrArg (World.drewN _) (Nat.add_assoc _ _ _))⟩))))
    go_ret3
    exact ⟨_, by rfl, by exact Kd.R_nil _ _ _ _ _, by repeat (with_reducible first | exact HB.out | apply pw_below_drewN)⟩
   rw [if_neg c10] at H
   have c10b0 : (t384 == 0) = false := beq_eq_false_iff_ne.mpr c10
   have c10b1 : (t384 != 0) = true := bne_iff_ne.mpr c10
   simp only [Option.some.injEq, Prod.mk.injEq] at H
   obtain ⟨rfl, rfl, rfl⟩ := H
   go_wp2_with ((go_at_call 76; (with_reducible refine (grapevineref02_TakeUint.calls k1 _ _ l0 x8_1 t382 t383 t384 _ ?side1 ?side2 A9.out).mono ?_); (case side1 => repeat (exact (Kd.C_below HR0.out HB.out))); (case side2 => exact HC0.out); rintro e w' ⟨rfl, ⟨nd, rfl⟩⟩))
   repeat (go_quiet (first | (go_at_call 76; (with_reducible refine (grapevineref02_TakeUint.calls k1 _ _ l0 x8_1 t382 t383 t384 _ ?side1 ?side2 A9.out).mono ?_); (case side1 => repeat (first | exact (Kd.C_below HR0.out HB.out) | (with_reducible refine Kd.C_alloc ?_ _) | (with_reducible refine Kd.C_drewN ?_ _) | (with_reducible refine Kd.C_drew ?_))); (case side2 => exact HC0.out); rintro e w' ⟨rfl, ⟨nd, rfl⟩⟩; (try first | exact ⟨rfl, _, World.drewN_drewN _ _ _⟩ | exact ⟨rfl, _, Eq.trans (World.drewN_drewN _ _ _) (congrArg (World.drewN _) (Nat.add_assoc _ _ _))⟩))); try go_wp2_with (first | (go_at_call 76; (with_reducible refine (grapevineref02_TakeUint.calls k1 _ _ l0 x8_1 t382 t383 t384 _ ?side1 ?side2 A9.out).mono ?_); (case side1 => repeat (first | exact (Kd.C_below HR0.out HB.out) | (with_reducible refine Kd.C_alloc ?_ _) | (with_reducible refine Kd.C_drewN ?_ _) | (with_reducible refine Kd.C_drew ?_))); (case side2 => exact HC0.out); rintro e w' ⟨rfl, ⟨nd, rfl⟩⟩; (try first | exact ⟨rfl, _, World.drewN_drewN _ _ _⟩ | exact ⟨rfl, _, Eq.trans (World.drewN_drewN _ _ _) (congrArg (World.drewN _) (Nat.add_assoc _ _ _))⟩))))
   go_ret3
   exact ⟨_, by rfl, by exact Kd.R_nil _ _ _ _ _, by repeat (with_reducible first | exact HB.out | apply pw_below_drewN)⟩
  rw [if_neg c8] at H
  have c8b0 : decide (x12_1 < (wrap64 (t376))) = false := decide_eq_false c8
  clear c8
  simp only [Option.some.injEq, Prod.mk.injEq] at H
  obtain ⟨rfl, rfl, rfl⟩ := H
  go_wp2
  repeat (go_quiet (fail); try go_wp2)
  go_ret3
  exact ⟨_, by rfl, by exact HO_10.out, by repeat (with_reducible exact HB.out)⟩
 rw [if_neg c4] at H
 have c4b0 : (t378 == 0) = false := beq_eq_false_iff_ne.mpr c4
 have c4b1 : (t378 != 0) = true := bne_iff_ne.mpr c4
 simp only [Option.some.injEq, Prod.mk.injEq] at H
 obtain ⟨rfl, rfl, rfl⟩ := H
 go_enter Try.func51, Try.ntmps51
 go_wp2_with ((go_at_call 76; (with_reducible refine (grapevineref02_TakeUint.calls k _ _ l0 a1 t376 t377 t378 _ ?side1 ?side2 A3.out).mono ?_); (case side1 => repeat (exact HR0.out)); (case side2 => exact HC0.out); rintro e w' ⟨rfl, ⟨nd, rfl⟩⟩))
 repeat (go_quiet (first | (go_at_call 76; (with_reducible refine (grapevineref02_TakeUint.calls k _ _ l0 a1 t376 t377 t378 _ ?side1 ?side2 A3.out).mono ?_); (case side1 => repeat (first | exact HR0.out | (with_reducible refine Kd.C_alloc ?_ _) | (with_reducible refine Kd.C_drewN ?_ _) | (with_reducible refine Kd.C_drew ?_))); (case side2 => exact HC0.out); rintro e w' ⟨rfl, ⟨nd, rfl⟩⟩; (try first | exact ⟨rfl, _, World.drewN_drewN _ _ _⟩ | exact ⟨rfl, _, Eq.trans (World.drewN_drewN _ _ _) (congrArg (World.drewN _) (Nat.add_assoc _ _ _))⟩))); try go_wp2_with (first | (go_at_call 76; (with_reducible refine (grapevineref02_TakeUint.calls k _ _ l0 a1 t376 t377 t378 _ ?side1 ?side2 A3.out).mono ?_); (case side1 => repeat (first | exact HR0.out | (with_reducible refine Kd.C_alloc ?_ _) | (with_reducible refine Kd.C_drewN ?_ _) | (with_reducible refine Kd.C_drew ?_))); (case side2 => exact HC0.out); rintro e w' ⟨rfl, ⟨nd, rfl⟩⟩; (try first | exact ⟨rfl, _, World.drewN_drewN _ _ _⟩ | exact ⟨rfl, _, Eq.trans (World.drewN_drewN _ _ _) (congrArg (World.drewN _) (Nat.add_assoc _ _ _))⟩))))
 go_ret3
 exact ⟨_, by rfl, by exact Kd.R_nil _ _ _ _ _, by repeat (with_reducible first | exact HB.out | apply pw_below_drewN)⟩
end Go.Proofs.Ytpeacoppclmmlaa.PP
