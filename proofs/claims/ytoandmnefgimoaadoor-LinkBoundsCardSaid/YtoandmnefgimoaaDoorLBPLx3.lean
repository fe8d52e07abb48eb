import Derived.Test.YtoandmnefgimoaaDoorLBPLx0
namespace Go.Proofs.YtoandmnefgimoaaDoor.PL
open Go.RowKit Go.Proofs.YtoandmnefgimoaaDoorW.PrintWords Go.Proofs.YtoandmnefgimoaaDoorW.PrintLast Go.Proofs.YtoandmnefgimoaaDoorW.PrintMore
attribute [local go_sem] max2_int min2_int max_two min_two max_three min_three max_four min_four
set_option linter.unusedVariables false
set_option linter.unusedSimpArgs false
mutual
def parcel_numbers.j0 : Nat → Bool → Int → Int → Int → Int → Int → Int → List (S110) → List (S77) → Option (Bool)
 | 0, _, _, _, _, _, _, _, _, _ => none
 | k + 1, x10, x102000, x102001, x102002, x102003, x102004, x102005, x102006, x102007 => if x10 = true then (some false) else (if x102000 = 1 then (parcel_numbers.j1 k true x102000 x102001 x102002 x102003 x102004 x102005 x102006 x102007) else (parcel_numbers.j1 k (x102000 == 2) x102000 x102001 x102002 x102003 x102004 x102005 x102006 x102007))
def parcel_numbers.j1 : Nat → Bool → Int → Int → Int → Int → Int → Int → List (S110) → List (S77) → Option (Bool)
 | 0, _, _, _, _, _, _, _, _, _ => none
 | k + 1, x18, x102000, x102001, x102002, x102003, x102004, x102005, x102006, x102007 => if x18 = true then (if x102004 ≥ 1 then (if x102004 ≤ x102005 then (some (decide (x102005 ≤ 1099511627776))) else (some false)) else (some false)) else (if x102002 < 1 then (some false) else (if x102002 > 32 then (some false) else (if x102003 < 1 then (some false) else (if x102003 > 1073741824 then (some false) else (if x102000 = 3 then (if x102004 ≥ 0 then (some (decide (x102004 ≤ 1099511627776))) else (some false)) else (if x102000 = 5 then (if x102004 ≥ 0 then (some (decide (x102004 ≤ 1099511627776))) else (some false)) else (some true)))))))
end
def parcel_numbers.f (k : Nat) (a0_0 : Int) (a0_1 : Int) (a0_2 : Int) (a0_3 : Int) (a0_4 : Int) (a0_5 : Int) (l0_6 : List (S110)) (l0_7 : List (S77)) : Option (Bool) := if a0_1 < 0 then (parcel_numbers.j0 k true a0_0 a0_1 a0_2 a0_3 a0_4 a0_5 l0_6 l0_7) else (parcel_numbers.j0 k (decide (a0_1 ≥ 3)) a0_0 a0_1 a0_2 a0_3 a0_4 a0_5 l0_6 l0_7)
set_option maxHeartbeats 8000000 in
set_option maxRecDepth 100000 in
theorem parcel_numbers.calls (k : Nat) (a0_0 : Int) (a0_1 : Int) (a0_2 : Int) (a0_3 : Int) (a0_4 : Int) (a0_5 : Int) (A0_6 : Option Addr) (c0_6 : Nat) (l0_6 : List (S110)) (A0_7 : Option Addr) (c0_7 : Nat) (l0_7 : List (S77)) (r : Bool) (w : World) (hr0_6 : Kd.C k110 w A0_6 l0_6.length l0_6) (hc0_6 : l0_6.length ≤ c0_6) (hr0_7 : Kd.C k77 w A0_7 l0_7.length l0_7) (hc0_7 : l0_7.length ≤ c0_7) (h : parcel_numbers.f k a0_0 a0_1 a0_2 a0_3 a0_4 a0_5 l0_6 l0_7 = some r) :
 Calls Tryd.prog 48 #[.agg #[.int .i64 a0_0, .int .i64 a0_1, .int .i64 a0_2, .int .i64 a0_3, .int .i64 a0_4, .int .i64 a0_5, .slice A0_6 l0_6.length c0_6, .slice A0_7 l0_7.length c0_7]] w fun e w' => e = .returned (.bool r) ∧ Below w.heap.size w w' := by
 have hu37 := Tryd.underlying37
 have HR0_6 := am_ hr0_6
 have HC0_6 := am_ hc0_6
 clear hr0_6 hc0_6
 have HR0_7 := am_ hr0_7
 have HC0_7 := am_ hc0_7
 clear hr0_7 hc0_7
 have HB := am_ (Below.refl w.heap.size w)
 have H : (if a0_1 < 0 then (parcel_numbers.j0 k true a0_0 a0_1 a0_2 a0_3 a0_4 a0_5 l0_6 l0_7) else (parcel_numbers.j0 k (decide (a0_1 ≥ 3)) a0_0 a0_1 a0_2 a0_3 a0_4 a0_5 l0_6 l0_7)) = some r := h
 clear h
 have HC2 := am_ H
 clear H
 go_enter Tryd.func48, Tryd.ntmps48
 go_upto_region 1 with (((with_reducible refine gd_ (N := 1) rfl ?_); refine bE 1 #[.int .i64 a0_0, .int .i64 a0_1, .int .i64 a0_2, .int .i64 a0_3, .int .i64 a0_4, .int .i64 a0_5, .slice A0_6 l0_6.length c0_6, .slice A0_7 l0_7.length c0_7] 37 ?_; intro gb101 hg w3 hbox hb; have n0_ := am_ (below_step HB.out hb); have n1_ := am_ (hbox); have n2_ := am_ ((by rw [hg]; exact (bz_ HB.out) : w.heap.size ≤ gb101)); have n3_ := am_ ((by rw [hg]; exact (bz_ HB.out) : w.heap.size ≤ gb101)); clear HB; have HB := n0_; have BK101 := n1_; have GW101 := n2_; have GE101 := n3_; clear n0_ n1_ n2_ n3_; clear hb hbox hg))
 (try simp only [Act.put, qa_, qb_, qc_])
 go_cut [10] (fun v10 wc => ∃ (kq : Nat) (x10_1 : Bool), v10 = .bool x10_1 ∧ Aside0 (parcel_numbers.j0 kq x10_1 a0_0 a0_1 a0_2 a0_3 a0_4 a0_5 l0_6 l0_7 = some r) ∧ Aside0 (kq ≤ k) ∧ Aside0 (wc.heap[gb101]? = some (.cells #[.int .i64 a0_0, .int .i64 a0_1, .int .i64 a0_2, .int .i64 a0_3, .int .i64 a0_4, .int .i64 a0_5, (.slice A0_6 l0_6.length c0_6), (.slice A0_7 l0_7.length c0_7)] 37 (0, 0))) ∧ Aside0 (Below w.heap.size w wc))
 case first =>
  have H := HC2.out
  clear HC2
  by_cases c4 : a0_1 < 0
  ·
   rw [if_pos c4] at H
   have c4b0 : decide (a0_1 < 0) = true := decide_eq_true c4
   clear c4
   (skip)
   have H' := am_ H
   clear H
   obtain ⟨hcz5_0, hcz5_1, hcz5_2, hcz5_3, hcz5_4, hcz5_5, hcz5_6, hcz5_7, hfz5_0, hfz5_1, hfz5_2, hfz5_3, hfz5_4, hfz5_5, hfz5_6, hfz5_7⟩ := cz8 BK101.out
   go_wp2
   go_meet
   case rel => exact ⟨_, (true), (by rfl), H', ⟨by omega⟩, ⟨by exact BK101.out⟩, ⟨by repeat (with_reducible exact HB.out)⟩⟩
  rw [if_neg c4] at H
  have c4b0 : decide (a0_1 < 0) = false := decide_eq_false c4
  clear c4
  (skip)
  have H' := am_ H
  clear H
  obtain ⟨hcz6_0, hcz6_1, hcz6_2, hcz6_3, hcz6_4, hcz6_5, hcz6_6, hcz6_7, hfz6_0, hfz6_1, hfz6_2, hfz6_3, hfz6_4, hfz6_5, hfz6_6, hfz6_7⟩ := cz8 BK101.out
  go_wp2
  go_meet
  case rel => exact ⟨_, (decide (a0_1 ≥ 3)), (by rfl), H', ⟨by omega⟩, ⟨by exact BK101.out⟩, ⟨by repeat (with_reducible exact HB.out)⟩⟩
 case rest =>
 clear HC2
 try clear c4b0
 obtain ⟨kq, x10_1, rfl, HA, HJ1, BK101, HB⟩ := hcut
 cases kq with
 | zero => exact absurd HA.out (by simp [parcel_numbers.j0])
 | succ kj1 =>
 have H := HA.out
 clear HA
 simp only [parcel_numbers.j0] at H
 by_cases c7 : x10_1 = true
 ·
  subst c7
  rw [if_pos rfl] at H
  obtain rfl := Option.some.inj H
  go_wp2
  go_ret
  exact ⟨by rfl, by repeat (with_reducible exact HB.out)⟩
 replace c7 := Bool.eq_false_iff.mpr c7
 subst c7
 rw [if_neg (show ¬ (false = true) by decide)] at H
 have HC8 := am_ H
 clear H
 go_upto_region 3 with (fail)
 go_cut [18] (fun v18 wc => ∃ (kq : Nat) (x18_7 : Bool), v18 = .bool x18_7 ∧ Aside0 (parcel_numbers.j1 kq x18_7 a0_0 a0_1 a0_2 a0_3 a0_4 a0_5 l0_6 l0_7 = some r) ∧ Aside0 (kq ≤ kj1) ∧ Aside0 (wc.heap[gb101]? = some (.cells #[.int .i64 a0_0, .int .i64 a0_1, .int .i64 a0_2, .int .i64 a0_3, .int .i64 a0_4, .int .i64 a0_5, (.slice A0_6 l0_6.length c0_6), (.slice A0_7 l0_7.length c0_7)] 37 (0, 0))) ∧ Aside0 (Below w.heap.size w wc))
 case first =>
  have H := HC8.out
  clear HC8
  by_cases c9 : a0_0 = 1
  ·
   rw [if_pos c9] at H
   have c9b0 : (a0_0 == 1) = true := beq_iff_eq.mpr c9
   have c9b1 : (a0_0 != 1) = false := bne_eq_false_iff_eq.mpr c9
   clear c9
   (skip)
   have H' := am_ H
   clear H
   obtain ⟨hcz10_0, hcz10_1, hcz10_2, hcz10_3, hcz10_4, hcz10_5, hcz10_6, hcz10_7, hfz10_0, hfz10_1, hfz10_2, hfz10_3, hfz10_4, hfz10_5, hfz10_6, hfz10_7⟩ := cz8 BK101.out
   go_wp2
   go_meet
   case rel => exact ⟨_, (true), (by rfl), H', ⟨by have := HJ1.out; omega⟩, ⟨by exact BK101.out⟩, ⟨by repeat (with_reducible exact HB.out)⟩⟩
  rw [if_neg c9] at H
  have c9b0 : (a0_0 == 1) = false := beq_eq_false_iff_ne.mpr c9
  have c9b1 : (a0_0 != 1) = true := bne_iff_ne.mpr c9
  (skip)
  have H' := am_ H
  clear H
  obtain ⟨hcz11_0, hcz11_1, hcz11_2, hcz11_3, hcz11_4, hcz11_5, hcz11_6, hcz11_7, hfz11_0, hfz11_1, hfz11_2, hfz11_3, hfz11_4, hfz11_5, hfz11_6, hfz11_7⟩ := cz8 BK101.out
  go_wp2
  go_meet
  case rel => exact ⟨_, (a0_0 == 2), (by rfl), H', ⟨by have := HJ1.out; omega⟩, ⟨by exact BK101.out⟩, ⟨by repeat (with_reducible exact HB.out)⟩⟩
 case rest =>
 clear HC8
 try clear c4b0
 obtain ⟨kq, x18_7, rfl, HA, HJ7, BK101, HB⟩ := hcut
 cases kq with
 | zero => exact absurd HA.out (by simp [parcel_numbers.j1])
 | succ kj7 =>
 have H := HA.out
 clear HA
 simp only [parcel_numbers.j1] at H
 by_cases c12 : x18_7 = true
 ·
  subst c12
  rw [if_pos rfl] at H
  by_cases c13 : a0_4 ≥ 1
  ·
   rw [if_pos c13] at H
   have c13b0 : decide (1 ≤ a0_4) = true := decide_eq_true c13
   clear c13
   by_cases c14 : a0_4 ≤ a0_5
   ·
    rw [if_pos c14] at H
    have c14b0 : decide (a0_4 ≤ a0_5) = true := decide_eq_true c14
    clear c14
    obtain rfl := Option.some.inj H
    obtain ⟨hcz15_0, hcz15_1, hcz15_2, hcz15_3, hcz15_4, hcz15_5, hcz15_6, hcz15_7, hfz15_0, hfz15_1, hfz15_2, hfz15_3, hfz15_4, hfz15_5, hfz15_6, hfz15_7⟩ := cz8 BK101.out
    go_wp2
    go_ret
    exact ⟨by rfl, by repeat (with_reducible exact HB.out)⟩
   rw [if_neg c14] at H
   have c14b0 : decide (a0_4 ≤ a0_5) = false := decide_eq_false c14
   clear c14
   obtain rfl := Option.some.inj H
   obtain ⟨hcz16_0, hcz16_1, hcz16_2, hcz16_3, hcz16_4, hcz16_5, hcz16_6, hcz16_7, hfz16_0, hfz16_1, hfz16_2, hfz16_3, hfz16_4, hfz16_5, hfz16_6, hfz16_7⟩ := cz8 BK101.out
   go_wp2
   go_ret
   exact ⟨by rfl, by repeat (with_reducible exact HB.out)⟩
  rw [if_neg c13] at H
  have c13b0 : decide (1 ≤ a0_4) = false := decide_eq_false c13
  clear c13
  obtain rfl := Option.some.inj H
  obtain ⟨hcz17_0, hcz17_1, hcz17_2, hcz17_3, hcz17_4, hcz17_5, hcz17_6, hcz17_7, hfz17_0, hfz17_1, hfz17_2, hfz17_3, hfz17_4, hfz17_5, hfz17_6, hfz17_7⟩ := cz8 BK101.out
  go_wp2
  go_ret
  exact ⟨by rfl, by repeat (with_reducible exact HB.out)⟩
 replace c12 := Bool.eq_false_iff.mpr c12
 subst c12
 rw [if_neg (show ¬ (false = true) by decide)] at H
 by_cases c18 : a0_2 < 1
 ·
  rw [if_pos c18] at H
  have c18b0 : decide (a0_2 < 1) = true := decide_eq_true c18
  clear c18
  obtain rfl := Option.some.inj H
  obtain ⟨hcz19_0, hcz19_1, hcz19_2, hcz19_3, hcz19_4, hcz19_5, hcz19_6, hcz19_7, hfz19_0, hfz19_1, hfz19_2, hfz19_3, hfz19_4, hfz19_5, hfz19_6, hfz19_7⟩ := cz8 BK101.out
  go_wp2
  go_ret
  exact ⟨by rfl, by repeat (with_reducible exact HB.out)⟩
 rw [if_neg c18] at H
 have c18b0 : decide (a0_2 < 1) = false := decide_eq_false c18
 clear c18
 by_cases c20 : a0_2 > 32
 ·
  rw [if_pos c20] at H
  have c20b0 : decide (32 < a0_2) = true := decide_eq_true c20
  clear c20
  obtain rfl := Option.some.inj H
  obtain ⟨hcz21_0, hcz21_1, hcz21_2, hcz21_3, hcz21_4, hcz21_5, hcz21_6, hcz21_7, hfz21_0, hfz21_1, hfz21_2, hfz21_3, hfz21_4, hfz21_5, hfz21_6, hfz21_7⟩ := cz8 BK101.out
  go_wp2
  go_ret
  exact ⟨by rfl, by repeat (with_reducible exact HB.out)⟩
 rw [if_neg c20] at H
 have c20b0 : decide (32 < a0_2) = false := decide_eq_false c20
 clear c20
 by_cases c22 : a0_3 < 1
 ·
  rw [if_pos c22] at H
  have c22b0 : decide (a0_3 < 1) = true := decide_eq_true c22
  clear c22
  obtain rfl := Option.some.inj H
  obtain ⟨hcz23_0, hcz23_1, hcz23_2, hcz23_3, hcz23_4, hcz23_5, hcz23_6, hcz23_7, hfz23_0, hfz23_1, hfz23_2, hfz23_3, hfz23_4, hfz23_5, hfz23_6, hfz23_7⟩ := cz8 BK101.out
  go_wp2
  go_ret
  exact ⟨by rfl, by repeat (with_reducible exact HB.out)⟩
 rw [if_neg c22] at H
 have c22b0 : decide (a0_3 < 1) = false := decide_eq_false c22
 clear c22
 by_cases c24 : a0_3 > 1073741824
 ·
  rw [if_pos c24] at H
  have c24b0 : decide (1073741824 < a0_3) = true := decide_eq_true c24
  clear c24
  obtain rfl := Option.some.inj H
  obtain ⟨hcz25_0, hcz25_1, hcz25_2, hcz25_3, hcz25_4, hcz25_5, hcz25_6, hcz25_7, hfz25_0, hfz25_1, hfz25_2, hfz25_3, hfz25_4, hfz25_5, hfz25_6, hfz25_7⟩ := cz8 BK101.out
  go_wp2
  go_ret
  exact ⟨by rfl, by repeat (with_reducible exact HB.out)⟩
 rw [if_neg c24] at H
 have c24b0 : decide (1073741824 < a0_3) = false := decide_eq_false c24
 clear c24
 by_cases c26 : a0_0 = 3
 ·
  rw [if_pos c26] at H
  have c26b0 : (a0_0 == 3) = true := beq_iff_eq.mpr c26
  have c26b1 : (a0_0 != 3) = false := bne_eq_false_iff_eq.mpr c26
  clear c26
  by_cases c27 : a0_4 ≥ 0
  ·
   rw [if_pos c27] at H
   have c27b0 : decide (0 ≤ a0_4) = true := decide_eq_true c27
   clear c27
   obtain rfl := Option.some.inj H
   obtain ⟨hcz28_0, hcz28_1, hcz28_2, hcz28_3, hcz28_4, hcz28_5, hcz28_6, hcz28_7, hfz28_0, hfz28_1, hfz28_2, hfz28_3, hfz28_4, hfz28_5, hfz28_6, hfz28_7⟩ := cz8 BK101.out
   go_wp2
   go_ret
   exact ⟨by rfl, by repeat (with_reducible exact HB.out)⟩
  rw [if_neg c27] at H
  have c27b0 : decide (0 ≤ a0_4) = false := decide_eq_false c27
  clear c27
  obtain rfl := Option.some.inj H
  obtain ⟨hcz29_0, hcz29_1, hcz29_2, hcz29_3, hcz29_4, hcz29_5, hcz29_6, hcz29_7, hfz29_0, hfz29_1, hfz29_2, hfz29_3, hfz29_4, hfz29_5, hfz29_6, hfz29_7⟩ := cz8 BK101.out
  go_wp2
  go_ret
  exact ⟨by rfl, by repeat (with_reducible exact HB.out)⟩
 rw [if_neg c26] at H
 have c26b0 : (a0_0 == 3) = false := beq_eq_false_iff_ne.mpr c26
 have c26b1 : (a0_0 != 3) = true := bne_iff_ne.mpr c26
 by_cases c30 : a0_0 = 5
 ·
  rw [if_pos c30] at H
  have c30b0 : (a0_0 == 5) = true := beq_iff_eq.mpr c30
  have c30b1 : (a0_0 != 5) = false := bne_eq_false_iff_eq.mpr c30
  clear c30
  by_cases c31 : a0_4 ≥ 0
  ·
   rw [if_pos c31] at H
   have c31b0 : decide (0 ≤ a0_4) = true := decide_eq_true c31
   clear c31
   obtain rfl := Option.some.inj H
   obtain ⟨hcz32_0, hcz32_1, hcz32_2, hcz32_3, hcz32_4, hcz32_5, hcz32_6, hcz32_7, hfz32_0, hfz32_1, hfz32_2, hfz32_3, hfz32_4, hfz32_5, hfz32_6, hfz32_7⟩ := cz8 BK101.out
   go_wp2
   go_ret
   exact ⟨by rfl, by repeat (with_reducible exact HB.out)⟩
  rw [if_neg c31] at H
  have c31b0 : decide (0 ≤ a0_4) = false := decide_eq_false c31
  clear c31
  obtain rfl := Option.some.inj H
  obtain ⟨hcz33_0, hcz33_1, hcz33_2, hcz33_3, hcz33_4, hcz33_5, hcz33_6, hcz33_7, hfz33_0, hfz33_1, hfz33_2, hfz33_3, hfz33_4, hfz33_5, hfz33_6, hfz33_7⟩ := cz8 BK101.out
  go_wp2
  go_ret
  exact ⟨by rfl, by repeat (with_reducible exact HB.out)⟩
 rw [if_neg c30] at H
 have c30b0 : (a0_0 == 5) = false := beq_eq_false_iff_ne.mpr c30
 have c30b1 : (a0_0 != 5) = true := bne_iff_ne.mpr c30
 obtain rfl := Option.some.inj H
 obtain ⟨hcz34_0, hcz34_1, hcz34_2, hcz34_3, hcz34_4, hcz34_5, hcz34_6, hcz34_7, hfz34_0, hfz34_1, hfz34_2, hfz34_3, hfz34_4, hfz34_5, hfz34_6, hfz34_7⟩ := cz8 BK101.out
 go_wp2
 go_ret
 exact ⟨by rfl, by repeat (with_reducible exact HB.out)⟩
end Go.Proofs.YtoandmnefgimoaaDoor.PL
