import Derived.Test.YtoandmnefgimoaaDoorLBPLx0
import Derived.Test.YtoandmnefgimoaaDoorLBPLx3
import Derived.Test.YtoandmnefgimoaaDoorLBPLx4
namespace Go.Proofs.YtoandmnefgimoaaDoor.PL
open Go.RowKit Go.Proofs.YtoandmnefgimoaaDoorW.PrintWords Go.Proofs.YtoandmnefgimoaaDoorW.PrintLast Go.Proofs.YtoandmnefgimoaaDoorW.PrintMore
attribute [local go_sem] max2_int min2_int max_two min_two max_three min_three max_four min_four
set_option linter.unusedVariables false
set_option linter.unusedSimpArgs false
mutual
def parcel_Check.j0 : Nat → Bool → Int → Int → Int → Int → Int → Int → List (S110) → List (S77) → Option (Int)
 | 0, _, _, _, _, _, _, _, _, _ => none
 | k + 1, x8, x108000, x108001, x108002, x108003, x108004, x108005, x108006, x108007 => if x8 = true then (some 12) else ((parcel_numbers.f k x108000 x108001 x108002 x108003 x108004 x108005 x108006 x108007).bind fun t108 => (if t108 = true then (if x108000 = 1 then (if (x108006.length : Int) > 32 then (parcel_Check.j1 k true x108000 x108001 x108002 x108003 x108004 x108005 x108006 x108007) else (parcel_Check.j1 k (decide ((x108007.length : Int) > 8)) x108000 x108001 x108002 x108003 x108004 x108005 x108006 x108007)) else (some 0)) else (some 2)))
def parcel_Check.j1 : Nat → Bool → Int → Int → Int → Int → Int → Int → List (S110) → List (S77) → Option (Int)
 | 0, _, _, _, _, _, _, _, _, _ => none
 | k + 1, x25, x108000, x108001, x108002, x108003, x108004, x108005, x108006, x108007 => if x25 = true then (some 6) else ((span_Right.f k x108006).bind fun t109 => (if t109 = true then (parcel_Check.l0 k x108006 (x108006.length : Int) 0 x108000 x108001 x108002 x108003 x108004 x108005 x108006 x108007) else (some 4)))
def parcel_Check.l0 : Nat → List (S110) → Int → Int → Int → Int → Int → Int → Int → Int → List (S110) → List (S77) → Option (Int)
 | 0, _, _, _, _, _, _, _, _, _, _, _ => none
 | k + 1, x42, x43, x44, x108000, x108001, x108002, x108003, x108004, x108005, x108006, x108007 => if x44 < x43 then (if 0 ≤ x44 then (if x44 < (x42.length : Int) then (if ((rd_T110 x42 x44).f2) = 1 then (some 4) else (if ((rd_T110 x42 x44).f0) < x108004 then (some 4) else (if ((rd_T110 x42 x44).f1) > x108005 then (some 4) else (parcel_Check.l0 k x42 x43 (wrap64 (x44 + 1)) x108000 x108001 x108002 x108003 x108004 x108005 x108006 x108007)))) else (none)) else (none)) else (parcel_Check.l1 k (wrap64 (x108004 - 1)) x108007 (x108007.length : Int) 0 x108000 x108001 x108002 x108003 x108004 x108005 x108006 x108007)
def parcel_Check.l1 : Nat → Int → List (S77) → Int → Int → Int → Int → Int → Int → Int → Int → List (S110) → List (S77) → Option (Int)
 | 0, _, _, _, _, _, _, _, _, _, _, _, _ => none
 | k + 1, x5, x70, x71, x72, x108000, x108001, x108002, x108003, x108004, x108005, x108006, x108007 => if x72 < x71 then (if 0 ≤ x72 then (if x72 < (x70.length : Int) then (if ((rd_T77 x70 x72).f0) ≤ x5 then (parcel_Check.j4 k x70 x71 x72 true x108000 x108001 x108002 x108003 x108004 x108005 x108006 x108007 ((rd_T77 x70 x72).f0) ((rd_T77 x70 x72).f1) ((rd_T77 x70 x72).f2)) else (if ((rd_T77 x70 x72).f0) > x108005 then (parcel_Check.j4 k x70 x71 x72 true x108000 x108001 x108002 x108003 x108004 x108005 x108006 x108007 ((rd_T77 x70 x72).f0) ((rd_T77 x70 x72).f1) ((rd_T77 x70 x72).f2)) else ((span_At.f k x108006 ((rd_T77 x70 x72).f0)).bind fun t114 => (parcel_Check.j4 k x70 x71 x72 (t114 != 0) x108000 x108001 x108002 x108003 x108004 x108005 x108006 x108007 ((rd_T77 x70 x72).f0) ((rd_T77 x70 x72).f1) ((rd_T77 x70 x72).f2))))) else (none)) else (none)) else (some 0)
def parcel_Check.j4 : Nat → List (S77) → Int → Int → Bool → Int → Int → Int → Int → Int → Int → List (S110) → List (S77) → Int → Int → List Int → Option (Int)
 | 0, _, _, _, _, _, _, _, _, _, _, _, _, _, _, _ => none
 | k + 1, x70, x71, x72, x94, x108000, x108001, x108002, x108003, x108004, x108005, x108006, x108007, x114000, x114001, x114002 => if x94 = true then (some 14) else (if (x114002.length : Int) > 400 then (some 6) else (parcel_Check.l1 k x114000 x70 x71 (wrap64 (x72 + 1)) x108000 x108001 x108002 x108003 x108004 x108005 x108006 x108007))
end
def parcel_Check.f (k : Nat) (a0_0 : Int) (a0_1 : Int) (a0_2 : Int) (a0_3 : Int) (a0_4 : Int) (a0_5 : Int) (l0_6 : List (S110)) (l0_7 : List (S77)) : Option (Int) := if a0_0 < 1 then (parcel_Check.j0 k true a0_0 a0_1 a0_2 a0_3 a0_4 a0_5 l0_6 l0_7) else (parcel_Check.j0 k (decide (a0_0 > 6)) a0_0 a0_1 a0_2 a0_3 a0_4 a0_5 l0_6 l0_7)
set_option maxHeartbeats 8000000 in
set_option maxRecDepth 100000 in
theorem parcel_Check.calls (k : Nat) (a0_0 : Int) (a0_1 : Int) (a0_2 : Int) (a0_3 : Int) (a0_4 : Int) (a0_5 : Int) (A0_6 : Option Addr) (c0_6 : Nat) (l0_6 : List (S110)) (A0_7 : Option Addr) (c0_7 : Nat) (l0_7 : List (S77)) (r : Int) (w : World) (hr0_6 : Kd.C k110 w A0_6 l0_6.length l0_6) (hc0_6 : l0_6.length ≤ c0_6) (hr0_7 : Kd.C k77 w A0_7 l0_7.length l0_7) (hc0_7 : l0_7.length ≤ c0_7) (h : parcel_Check.f k a0_0 a0_1 a0_2 a0_3 a0_4 a0_5 l0_6 l0_7 = some r) :
 Calls Tryd.prog 35 #[.agg #[.int .i64 a0_0, .int .i64 a0_1, .int .i64 a0_2, .int .i64 a0_3, .int .i64 a0_4, .int .i64 a0_5, .slice A0_6 l0_6.length c0_6, .slice A0_7 l0_7.length c0_7]] w fun e w' => e = .returned (.int .i64 r) ∧ Below w.heap.size w w' := by
 have hu37 := Tryd.underlying37
 have hu110 := Tryd.underlying110
 have hu77 := Tryd.underlying77
 have HR0_6 := am_ hr0_6
 have HC0_6 := am_ hc0_6
 clear hr0_6 hc0_6
 have HR0_7 := am_ hr0_7
 have HC0_7 := am_ hc0_7
 clear hr0_7 hc0_7
 have HB := am_ (Below.refl w.heap.size w)
 have H : (if a0_0 < 1 then (parcel_Check.j0 k true a0_0 a0_1 a0_2 a0_3 a0_4 a0_5 l0_6 l0_7) else (parcel_Check.j0 k (decide (a0_0 > 6)) a0_0 a0_1 a0_2 a0_3 a0_4 a0_5 l0_6 l0_7)) = some r := h
 clear h
 have HC2 := am_ H
 clear H
 go_enter Tryd.func35, Tryd.ntmps35
 go_upto_region 1 with (((with_reducible refine gd_ (N := 1) rfl ?_); (try (refine gate_guard (by rfl) ?_; dsimp only)); refine bE 1 #[.int .i64 a0_0, .int .i64 a0_1, .int .i64 a0_2, .int .i64 a0_3, .int .i64 a0_4, .int .i64 a0_5, .slice A0_6 l0_6.length c0_6, .slice A0_7 l0_7.length c0_7] 37 ?_; intro gb107 hg w3 hbox hb; have n0_ := am_ (below_step HB.out hb); have n1_ := am_ (hbox); have n2_ := am_ ((by rw [hg]; exact (bz_ HB.out) : w.heap.size ≤ gb107)); have n3_ := am_ ((by rw [hg]; exact (bz_ HB.out) : w.heap.size ≤ gb107)); clear HB; have HB := n0_; have BK107 := n1_; have GW107 := n2_; have GE107 := n3_; clear n0_ n1_ n2_ n3_; clear hb hbox hg))
 (try simp only [Act.put, qa_, qb_, qc_])
 go_cut [8] (fun v8 wc => ∃ (kq : Nat) (x8_1 : Bool), v8 = .bool x8_1 ∧ Aside0 (parcel_Check.j0 kq x8_1 a0_0 a0_1 a0_2 a0_3 a0_4 a0_5 l0_6 l0_7 = some r) ∧ Aside0 (kq ≤ k) ∧ Aside0 (wc.heap[gb107]? = some (.cells #[.int .i64 a0_0, .int .i64 a0_1, .int .i64 a0_2, .int .i64 a0_3, .int .i64 a0_4, .int .i64 a0_5, (.slice A0_6 l0_6.length c0_6), (.slice A0_7 l0_7.length c0_7)] 37 (0, 0))) ∧ Aside0 (Below w.heap.size w wc))
 case first =>
  have H := HC2.out
  clear HC2
  by_cases c4 : a0_0 < 1
  ·
   rw [if_pos c4] at H
   have c4b0 : decide (a0_0 < 1) = true := decide_eq_true c4
   clear c4
   (skip)
   have H' := am_ H
   clear H
   obtain ⟨hcz5_0, hcz5_1, hcz5_2, hcz5_3, hcz5_4, hcz5_5, hcz5_6, hcz5_7, hfz5_0, hfz5_1, hfz5_2, hfz5_3, hfz5_4, hfz5_5, hfz5_6, hfz5_7⟩ := cz8 BK107.out
   go_wp2
   go_meet
   case rel => exact ⟨_, (true), (by rfl), H', ⟨by omega⟩, ⟨by exact BK107.out⟩, ⟨by repeat (with_reducible exact HB.out)⟩⟩
  rw [if_neg c4] at H
  have c4b0 : decide (a0_0 < 1) = false := decide_eq_false c4
  clear c4
  (skip)
  have H' := am_ H
  clear H
  obtain ⟨hcz6_0, hcz6_1, hcz6_2, hcz6_3, hcz6_4, hcz6_5, hcz6_6, hcz6_7, hfz6_0, hfz6_1, hfz6_2, hfz6_3, hfz6_4, hfz6_5, hfz6_6, hfz6_7⟩ := cz8 BK107.out
  go_wp2
  go_meet
  case rel => exact ⟨_, (decide (a0_0 > 6)), (by rfl), H', ⟨by omega⟩, ⟨by exact BK107.out⟩, ⟨by repeat (with_reducible exact HB.out)⟩⟩
 case rest =>
 clear HC2
 try clear c4b0
 obtain ⟨kq, x8_1, rfl, HA, HJ1, BK107, HB⟩ := hcut
 cases kq with
 | zero => exact absurd HA.out (by simp [parcel_Check.j0])
 | succ kj1 =>
 have H := HA.out
 clear HA
 simp only [parcel_Check.j0] at H
 by_cases c7 : x8_1 = true
 ·
  subst c7
  rw [if_pos rfl] at H
  obtain rfl := Option.some.inj H
  go_wp2
  go_ret
  exact ⟨by rfl, by repeat (with_reducible exact HB.out)⟩
 replace c7 := Bool.eq_false_iff.mpr c7
 subst c7
 rw [if_neg (show ¬ (false = true) by decide)] at H
 replace H := Option.bind_eq_some_iff.mp H
 obtain ⟨t108, A80, H⟩ := H
 try dsimp only at H
 have A8 := am_ A80
 clear A80
 by_cases c9 : t108 = true
 ·
  subst c9
  rw [if_pos rfl] at H
  by_cases c10 : a0_0 = 1
  ·
   rw [if_pos c10] at H
   have c10b0 : (a0_0 == 1) = true := beq_iff_eq.mpr c10
   have c10b1 : (a0_0 != 1) = false := bne_eq_false_iff_eq.mpr c10
   clear c10
   have HC11 := am_ H
   clear H
   obtain ⟨hcz12_0, hcz12_1, hcz12_2, hcz12_3, hcz12_4, hcz12_5, hcz12_6, hcz12_7, hfz12_0, hfz12_1, hfz12_2, hfz12_3, hfz12_4, hfz12_5, hfz12_6, hfz12_7⟩ := cz8 BK107.out
   go_upto_region 7 with (((with_reducible refine gate_callee (f := 48) rfl ?_); refine gL (some 19) Tryd.func48 #[.agg #[.int .i64 a0_0, .int .i64 a0_1, .int .i64 a0_2, .int .i64 a0_3, .int .i64 a0_4, .int .i64 a0_5, .slice A0_6 l0_6.length c0_6, .slice A0_7 l0_7.length c0_7]] ?_; (with_reducible refine (parcel_numbers.calls kj1 a0_0 a0_1 a0_2 a0_3 a0_4 a0_5 _ _ l0_6 _ _ l0_7 true _ ?side1 ?side2 ?side3 ?side4 A8.out).mono ?_); (case side1 => repeat (exact (Kd.C_below HR0_6.out HB.out))); (case side2 => exact HC0_6.out); (case side3 => repeat (exact (Kd.C_below HR0_7.out HB.out))); (case side4 => exact HC0_7.out); rintro e w13 ⟨rfl, hb⟩; refine ⟨_, rfl, ?_⟩; have n0_ := am_ (blk_below (g := gb107) (o := .cells #[.int .i64 a0_0, .int .i64 a0_1, .int .i64 a0_2, .int .i64 a0_3, .int .i64 a0_4, .int .i64 a0_5, .slice A0_6 l0_6.length c0_6, .slice A0_7 l0_7.length c0_7] 37 (0, 0)) BK107.out hb); have n1_ := am_ (below_step HB.out hb); clear BK107; clear HB; have BK107 := n0_; have HB := n1_; clear n0_ n1_; (try clear hb); obtain ⟨hcz14_0, hcz14_1, hcz14_2, hcz14_3, hcz14_4, hcz14_5, hcz14_6, hcz14_7, hfz14_0, hfz14_1, hfz14_2, hfz14_3, hfz14_4, hfz14_5, hfz14_6, hfz14_7⟩ := cz8 BK107.out))
   (try simp only [Act.put, qa_, qb_, qc_])
   go_cut [25] (fun v25 wc => ∃ (kq : Nat) (x25_10 : Bool), v25 = .bool x25_10 ∧ Aside0 (parcel_Check.j1 kq x25_10 a0_0 a0_1 a0_2 a0_3 a0_4 a0_5 l0_6 l0_7 = some r) ∧ Aside0 (kq ≤ kj1) ∧ Aside0 (wc.heap[gb107]? = some (.cells #[.int .i64 a0_0, .int .i64 a0_1, .int .i64 a0_2, .int .i64 a0_3, .int .i64 a0_4, .int .i64 a0_5, (.slice A0_6 l0_6.length c0_6), (.slice A0_7 l0_7.length c0_7)] 37 (0, 0))) ∧ Aside0 (Below w.heap.size w wc))
   case first =>
    have H := HC11.out
    clear HC11
    by_cases c15 : (l0_6.length : Int) > 32
    ·
     rw [if_pos c15] at H
     have c15b0 : decide (32 < (l0_6.length : Int)) = true := decide_eq_true c15
     have c15b1 : decide (32 < l0_6.length) = true := decide_eq_true (by omega)
     clear c15
     (skip)
     have H' := am_ H
     clear H
     obtain ⟨hcz16_0, hcz16_1, hcz16_2, hcz16_3, hcz16_4, hcz16_5, hcz16_6, hcz16_7, hfz16_0, hfz16_1, hfz16_2, hfz16_3, hfz16_4, hfz16_5, hfz16_6, hfz16_7⟩ := cz8 BK107.out
     go_wp2
     go_meet
     case rel => exact ⟨_, (true), (by rfl), H', ⟨by have := HJ1.out; omega⟩, ⟨by exact BK107.out⟩, ⟨by repeat (with_reducible exact HB.out)⟩⟩
    rw [if_neg c15] at H
    have c15b0 : decide (32 < (l0_6.length : Int)) = false := decide_eq_false c15
    have c15b1 : decide (32 < l0_6.length) = false := decide_eq_false (by omega)
    clear c15
    (skip)
    have H' := am_ H
    clear H
    obtain ⟨hcz17_0, hcz17_1, hcz17_2, hcz17_3, hcz17_4, hcz17_5, hcz17_6, hcz17_7, hfz17_0, hfz17_1, hfz17_2, hfz17_3, hfz17_4, hfz17_5, hfz17_6, hfz17_7⟩ := cz8 BK107.out
    go_wp2
    go_meet
    case rel => exact ⟨_, (decide ((l0_7.length : Int) > 8)), (by rfl), H', ⟨by have := HJ1.out; omega⟩, ⟨by exact BK107.out⟩, ⟨by repeat (with_reducible exact HB.out)⟩⟩
   case rest =>
   clear HC11
   try clear c4b0
   try clear c10b0
   try clear c10b1
   try clear hcz12_0
   try clear hcz12_1
   try clear hcz12_2
   try clear hcz12_3
   try clear hcz12_4
   try clear hcz12_5
   try clear hcz12_6
   try clear hcz12_7
   try clear hcz14_0
   try clear hcz14_1
   try clear hcz14_2
   try clear hcz14_3
   try clear hcz14_4
   try clear hcz14_5
   try clear hcz14_6
   try clear hcz14_7
   try clear hfz12_0
   try clear hfz12_1
   try clear hfz12_2
   try clear hfz12_3
   try clear hfz12_4
   try clear hfz12_5
   try clear hfz12_6
   try clear hfz12_7
   try clear hfz14_0
   try clear hfz14_1
   try clear hfz14_2
   try clear hfz14_3
   try clear hfz14_4
   try clear hfz14_5
   try clear hfz14_6
   try clear hfz14_7
   obtain ⟨kq, x25_10, rfl, HA, HJ10, BK107, HB⟩ := hcut
   cases kq with
   | zero => exact absurd HA.out (by simp [parcel_Check.j1])
   | succ kj10 =>
   have H := HA.out
   clear HA
   simp only [parcel_Check.j1] at H
   by_cases c18 : x25_10 = true
   ·
    subst c18
    rw [if_pos rfl] at H
    obtain rfl := Option.some.inj H
    go_wp2
    go_ret
    exact ⟨by rfl, by repeat (with_reducible exact HB.out)⟩
   replace c18 := Bool.eq_false_iff.mpr c18
   subst c18
   rw [if_neg (show ¬ (false = true) by decide)] at H
   replace H := Option.bind_eq_some_iff.mp H
   obtain ⟨t109, A190, H⟩ := H
   try dsimp only at H
   have A19 := am_ A190
   clear A190
   by_cases c20 : t109 = true
   ·
    subst c20
    rw [if_pos rfl] at H
    have H' := am_ H
    clear H
    obtain ⟨hcz21_0, hcz21_1, hcz21_2, hcz21_3, hcz21_4, hcz21_5, hcz21_6, hcz21_7, hfz21_0, hfz21_1, hfz21_2, hfz21_3, hfz21_4, hfz21_5, hfz21_6, hfz21_7⟩ := cz8 BK107.out
    go_wp2_with (((with_reducible refine gate_callee (f := 49) rfl ?_); refine gL (some 39) Tryd.func49 #[.slice A0_6 l0_6.length c0_6] ?_; (with_reducible refine (span_Right.calls kj10 _ _ l0_6 true _ ?side1 ?side2 A19.out).mono ?_); (case side1 => repeat (exact (Kd.C_below HR0_6.out HB.out))); (case side2 => exact HC0_6.out); rintro e w22 ⟨rfl, hb⟩; refine ⟨_, rfl, ?_⟩; have n0_ := am_ (blk_below (g := gb107) (o := .cells #[.int .i64 a0_0, .int .i64 a0_1, .int .i64 a0_2, .int .i64 a0_3, .int .i64 a0_4, .int .i64 a0_5, .slice A0_6 l0_6.length c0_6, .slice A0_7 l0_7.length c0_7] 37 (0, 0)) BK107.out hb); have n1_ := am_ (below_step HB.out hb); clear BK107; clear HB; have BK107 := n0_; have HB := n1_; clear n0_ n1_; (try clear hb); obtain ⟨hcz23_0, hcz23_1, hcz23_2, hcz23_3, hcz23_4, hcz23_5, hcz23_6, hcz23_7, hfz23_0, hfz23_1, hfz23_2, hfz23_3, hfz23_4, hfz23_5, hfz23_6, hfz23_7⟩ := cz8 BK107.out))
    go_loopg [44] kj10 (fun kq v44 w' => ∃ (x44_3 : Int), v44 = .int .i64 x44_3 ∧ Aside0 (parcel_Check.l0 kq l0_6 (l0_6.length : Int) x44_3 a0_0 a0_1 a0_2 a0_3 a0_4 a0_5 l0_6 l0_7 = some r) ∧ Aside0 (kq ≤ kj10) ∧ Aside0 (w'.heap[gb107]? = some (.cells #[.int .i64 a0_0, .int .i64 a0_1, .int .i64 a0_2, .int .i64 a0_3, .int .i64 a0_4, .int .i64 a0_5, (.slice A0_6 l0_6.length c0_6), (.slice A0_7 l0_7.length c0_7)] 37 (0, 0))) ∧ Aside0 (Below w.heap.size w w'))
    case atStart => exact ⟨(0), (by rfl), H', ⟨Nat.le_refl _⟩, ⟨by exact BK107.out⟩, ⟨by repeat (with_reducible exact HB.out)⟩⟩
    case round =>
    clear H'
    try clear c4b0
    try clear c10b0
    try clear c10b1
    try clear hcz12_0
    try clear hcz12_1
    try clear hcz12_2
    try clear hcz12_3
    try clear hcz12_4
    try clear hcz12_5
    try clear hcz12_6
    try clear hcz12_7
    try clear hcz14_0
    try clear hcz14_1
    try clear hcz14_2
    try clear hcz14_3
    try clear hcz14_4
    try clear hcz14_5
    try clear hcz14_6
    try clear hcz14_7
    try clear hcz21_0
    try clear hcz21_1
    try clear hcz21_2
    try clear hcz21_3
    try clear hcz21_4
    try clear hcz21_5
    try clear hcz21_6
    try clear hcz21_7
    try clear hcz23_0
    try clear hcz23_1
    try clear hcz23_2
    try clear hcz23_3
    try clear hcz23_4
    try clear hcz23_5
    try clear hcz23_6
    try clear hcz23_7
    try clear hfz12_0
    try clear hfz12_1
    try clear hfz12_2
    try clear hfz12_3
    try clear hfz12_4
    try clear hfz12_5
    try clear hfz12_6
    try clear hfz12_7
    try clear hfz14_0
    try clear hfz14_1
    try clear hfz14_2
    try clear hfz14_3
    try clear hfz14_4
    try clear hfz14_5
    try clear hfz14_6
    try clear hfz14_7
    try clear hfz21_0
    try clear hfz21_1
    try clear hfz21_2
    try clear hfz21_3
    try clear hfz21_4
    try clear hfz21_5
    try clear hfz21_6
    try clear hfz21_7
    try clear hfz23_0
    try clear hfz23_1
    try clear hfz23_2
    try clear hfz23_3
    try clear hfz23_4
    try clear hfz23_5
    try clear hfz23_6
    try clear hfz23_7
    obtain ⟨x44_3, rfl, HA, HK3, BK107, HB⟩ := hrel
    cases gk with
    | zero => exact absurd HA.out (by simp [parcel_Check.l0])
    | succ k3 =>
    have H := HA.out
    clear HA
    simp only [parcel_Check.l0] at H
    by_cases c24 : x44_3 < (l0_6.length : Int)
    ·
     rw [if_pos c24] at H
     have c24b0 : decide (x44_3 < (l0_6.length : Int)) = true := decide_eq_true c24
     clear c24
     by_cases c25 : 0 ≤ x44_3
     ·
      rw [if_pos c25] at H
      have c25b0 : decide (0 ≤ x44_3) = true := decide_eq_true c25
      clear c25
      by_cases c26 : x44_3 < (l0_6.length : Int)
      ·
       rw [if_pos c26] at H
       have c26b0 : decide (x44_3 < (l0_6.length : Int)) = true := decide_eq_true c26
       clear c26
       by_cases c27 : ((rd_T110 l0_6 x44_3).f2) = 1
       ·
        rw [if_pos c27] at H
        have c27b0 : (((rd_T110 l0_6 x44_3).f2) == 1) = true := beq_iff_eq.mpr c27
        have c27b1 : (((rd_T110 l0_6 x44_3).f2) != 1) = false := bne_eq_false_iff_eq.mpr c27
        clear c27
        obtain rfl := Option.some.inj H
        have p110 : 0 ≤ (x44_3 : Int) := of_decide_eq_true (by (with_reducible assumption))
        have q110 : x44_3 < (l0_6.length : Int) := of_decide_eq_true (by (with_reducible assumption))
        obtain ⟨ad110, e110, hx110_0, hx110_1, hx110_2⟩ := at_T110 HR0_6.out x44_3 p110 q110
        cases e110
        replace hx110_0 := (HB.out.cell (World.block_lt_of_cell? w _ hx110_0)).trans hx110_0
        replace hx110_1 := (HB.out.cell (World.block_lt_of_cell? w _ hx110_1)).trans hx110_1
        replace hx110_2 := (HB.out.cell (World.block_lt_of_cell? w _ hx110_2)).trans hx110_2
        replace p110 := eq_true p110
        replace q110 := eq_true q110
        go_wp2_with (((with_reducible refine gd_ (N := 4) rfl ?_); (try (refine gate_guard (by rfl) ?_; dsimp only)); refine bE 4 #[.int .i64 0, .int .i64 0, .int .i64 0] 110 ?_; intro gb111 hg w28 hbox hb; have n0_ := am_ (blk_below (g := gb107) (o := .cells #[.int .i64 a0_0, .int .i64 a0_1, .int .i64 a0_2, .int .i64 a0_3, .int .i64 a0_4, .int .i64 a0_5, .slice (some ad110) l0_6.length c0_6, .slice A0_7 l0_7.length c0_7] 37 (0, 0)) BK107.out hb); have n1_ := am_ (below_step HB.out hb); have n2_ := am_ (hbox); have n3_ := am_ ((by rw [hg]; exact (bz_ HB.out) : w.heap.size ≤ gb111)); have n4_ := am_ ((by rw [hg]; exact (bz_ HB.out) : w.heap.size ≤ gb111)); have n5_ := am_ ((by rw [hg]; exact Nat.ne_of_lt (blk_lt (g := gb107) (o := .cells #[.int .i64 a0_0, .int .i64 a0_1, .int .i64 a0_2, .int .i64 a0_3, .int .i64 a0_4, .int .i64 a0_5, .slice (some ad110) l0_6.length c0_6, .slice A0_7 l0_7.length c0_7] 37 (0, 0)) BK107.out) : gb107 ≠ gb111)); have n6_ := am_ ((by rw [hg]; exact Nat.ne_of_gt (blk_lt (g := gb107) (o := .cells #[.int .i64 a0_0, .int .i64 a0_1, .int .i64 a0_2, .int .i64 a0_3, .int .i64 a0_4, .int .i64 a0_5, .slice (some ad110) l0_6.length c0_6, .slice A0_7 l0_7.length c0_7] 37 (0, 0)) BK107.out) : gb111 ≠ gb107)); clear BK107; clear HB; have BK107 := n0_; have HB := n1_; have BK111 := n2_; have GW111 := n3_; have GE111 := n4_; have NB107_111 := n5_; have NB111_107 := n6_; clear n0_ n1_ n2_ n3_ n4_ n5_ n6_; clear hb hbox hg; have hnb29 := NB111_107.out; have hnc29 := NB107_111.out; obtain ⟨hcz30_0, hcz30_1, hcz30_2, hfz30_0, hfz30_1, hfz30_2⟩ := cz3 BK111.out))
        go_ret
        exact ⟨by rfl, by repeat (with_reducible first | exact HB.out | refine bs_ ?_ GE111.out)⟩
       rw [if_neg c27] at H
       have c27b0 : (((rd_T110 l0_6 x44_3).f2) == 1) = false := beq_eq_false_iff_ne.mpr c27
       have c27b1 : (((rd_T110 l0_6 x44_3).f2) != 1) = true := bne_iff_ne.mpr c27
       by_cases c31 : ((rd_T110 l0_6 x44_3).f0) < a0_4
       ·
        rw [if_pos c31] at H
        have c31b0 : decide (((rd_T110 l0_6 x44_3).f0) < a0_4) = true := decide_eq_true c31
        clear c31
        obtain rfl := Option.some.inj H
        have p110 : 0 ≤ (x44_3 : Int) := of_decide_eq_true (by (with_reducible assumption))
        have q110 : x44_3 < (l0_6.length : Int) := of_decide_eq_true (by (with_reducible assumption))
        obtain ⟨ad110, e110, hx110_0, hx110_1, hx110_2⟩ := at_T110 HR0_6.out x44_3 p110 q110
        cases e110
        replace hx110_0 := (HB.out.cell (World.block_lt_of_cell? w _ hx110_0)).trans hx110_0
        replace hx110_1 := (HB.out.cell (World.block_lt_of_cell? w _ hx110_1)).trans hx110_1
        replace hx110_2 := (HB.out.cell (World.block_lt_of_cell? w _ hx110_2)).trans hx110_2
        replace p110 := eq_true p110
        replace q110 := eq_true q110
        go_wp2_with (((with_reducible refine gd_ (N := 4) rfl ?_); (try (refine gate_guard (by rfl) ?_; dsimp only)); refine bE 4 #[.int .i64 0, .int .i64 0, .int .i64 0] 110 ?_; intro gb111 hg w32 hbox hb; have n0_ := am_ (blk_below (g := gb107) (o := .cells #[.int .i64 a0_0, .int .i64 a0_1, .int .i64 a0_2, .int .i64 a0_3, .int .i64 a0_4, .int .i64 a0_5, .slice (some ad110) l0_6.length c0_6, .slice A0_7 l0_7.length c0_7] 37 (0, 0)) BK107.out hb); have n1_ := am_ (below_step HB.out hb); have n2_ := am_ (hbox); have n3_ := am_ ((by rw [hg]; exact (bz_ HB.out) : w.heap.size ≤ gb111)); have n4_ := am_ ((by rw [hg]; exact (bz_ HB.out) : w.heap.size ≤ gb111)); have n5_ := am_ ((by rw [hg]; exact Nat.ne_of_lt (blk_lt (g := gb107) (o := .cells #[.int .i64 a0_0, .int .i64 a0_1, .int .i64 a0_2, .int .i64 a0_3, .int .i64 a0_4, .int .i64 a0_5, .slice (some ad110) l0_6.length c0_6, .slice A0_7 l0_7.length c0_7] 37 (0, 0)) BK107.out) : gb107 ≠ gb111)); have n6_ := am_ ((by rw [hg]; exact Nat.ne_of_gt (blk_lt (g := gb107) (o := .cells #[.int .i64 a0_0, .int .i64 a0_1, .int .i64 a0_2, .int .i64 a0_3, .int .i64 a0_4, .int .i64 a0_5, .slice (some ad110) l0_6.length c0_6, .slice A0_7 l0_7.length c0_7] 37 (0, 0)) BK107.out) : gb111 ≠ gb107)); clear BK107; clear HB; have BK107 := n0_; have HB := n1_; have BK111 := n2_; have GW111 := n3_; have GE111 := n4_; have NB107_111 := n5_; have NB111_107 := n6_; clear n0_ n1_ n2_ n3_ n4_ n5_ n6_; clear hb hbox hg; have hnb33 := NB111_107.out; have hnc33 := NB107_111.out; obtain ⟨hcz34_0, hcz34_1, hcz34_2, hfz34_0, hfz34_1, hfz34_2⟩ := cz3 BK111.out; obtain ⟨hcz35_0, hcz35_1, hcz35_2, hcz35_3, hcz35_4, hcz35_5, hcz35_6, hcz35_7, hfz35_0, hfz35_1, hfz35_2, hfz35_3, hfz35_4, hfz35_5, hfz35_6, hfz35_7⟩ := cz8 BK107.out))
        go_ret
        exact ⟨by rfl, by repeat (with_reducible first | exact HB.out | refine bs_ ?_ GE111.out)⟩
       rw [if_neg c31] at H
       have c31b0 : decide (((rd_T110 l0_6 x44_3).f0) < a0_4) = false := decide_eq_false c31
       clear c31
       by_cases c36 : ((rd_T110 l0_6 x44_3).f1) > a0_5
       ·
        rw [if_pos c36] at H
        have c36b0 : decide (a0_5 < ((rd_T110 l0_6 x44_3).f1)) = true := decide_eq_true c36
        clear c36
        obtain rfl := Option.some.inj H
        have p110 : 0 ≤ (x44_3 : Int) := of_decide_eq_true (by (with_reducible assumption))
        have q110 : x44_3 < (l0_6.length : Int) := of_decide_eq_true (by (with_reducible assumption))
        obtain ⟨ad110, e110, hx110_0, hx110_1, hx110_2⟩ := at_T110 HR0_6.out x44_3 p110 q110
        cases e110
        replace hx110_0 := (HB.out.cell (World.block_lt_of_cell? w _ hx110_0)).trans hx110_0
        replace hx110_1 := (HB.out.cell (World.block_lt_of_cell? w _ hx110_1)).trans hx110_1
        replace hx110_2 := (HB.out.cell (World.block_lt_of_cell? w _ hx110_2)).trans hx110_2
        replace p110 := eq_true p110
        replace q110 := eq_true q110
        go_wp2_with (((with_reducible refine gd_ (N := 4) rfl ?_); (try (refine gate_guard (by rfl) ?_; dsimp only)); refine bE 4 #[.int .i64 0, .int .i64 0, .int .i64 0] 110 ?_; intro gb111 hg w37 hbox hb; have n0_ := am_ (blk_below (g := gb107) (o := .cells #[.int .i64 a0_0, .int .i64 a0_1, .int .i64 a0_2, .int .i64 a0_3, .int .i64 a0_4, .int .i64 a0_5, .slice (some ad110) l0_6.length c0_6, .slice A0_7 l0_7.length c0_7] 37 (0, 0)) BK107.out hb); have n1_ := am_ (below_step HB.out hb); have n2_ := am_ (hbox); have n3_ := am_ ((by rw [hg]; exact (bz_ HB.out) : w.heap.size ≤ gb111)); have n4_ := am_ ((by rw [hg]; exact (bz_ HB.out) : w.heap.size ≤ gb111)); have n5_ := am_ ((by rw [hg]; exact Nat.ne_of_lt (blk_lt (g := gb107) (o := .cells #[.int .i64 a0_0, .int .i64 a0_1, .int .i64 a0_2, .int .i64 a0_3, .int .i64 a0_4, .int .i64 a0_5, .slice (some ad110) l0_6.length c0_6, .slice A0_7 l0_7.length c0_7] 37 (0, 0)) BK107.out) : gb107 ≠ gb111)); have n6_ := am_ ((by rw [hg]; exact Nat.ne_of_gt (blk_lt (g := gb107) (o := .cells #[.int .i64 a0_0, .int .i64 a0_1, .int .i64 a0_2, .int .i64 a0_3, .int .i64 a0_4, .int .i64 a0_5, .slice (some ad110) l0_6.length c0_6, .slice A0_7 l0_7.length c0_7] 37 (0, 0)) BK107.out) : gb111 ≠ gb107)); clear BK107; clear HB; have BK107 := n0_; have HB := n1_; have BK111 := n2_; have GW111 := n3_; have GE111 := n4_; have NB107_111 := n5_; have NB111_107 := n6_; clear n0_ n1_ n2_ n3_ n4_ n5_ n6_; clear hb hbox hg; have hnb38 := NB111_107.out; have hnc38 := NB107_111.out; obtain ⟨hcz39_0, hcz39_1, hcz39_2, hfz39_0, hfz39_1, hfz39_2⟩ := cz3 BK111.out; obtain ⟨hcz40_0, hcz40_1, hcz40_2, hcz40_3, hcz40_4, hcz40_5, hcz40_6, hcz40_7, hfz40_0, hfz40_1, hfz40_2, hfz40_3, hfz40_4, hfz40_5, hfz40_6, hfz40_7⟩ := cz8 BK107.out))
        go_ret
        exact ⟨by rfl, by repeat (with_reducible first | exact HB.out | refine bs_ ?_ GE111.out)⟩
       rw [if_neg c36] at H
       have c36b0 : decide (a0_5 < ((rd_T110 l0_6 x44_3).f1)) = false := decide_eq_false c36
       clear c36
       have H' := am_ H
       clear H
       have p110 : 0 ≤ (x44_3 : Int) := of_decide_eq_true (by (with_reducible assumption))
       have q110 : x44_3 < (l0_6.length : Int) := of_decide_eq_true (by (with_reducible assumption))
       obtain ⟨ad110, e110, hx110_0, hx110_1, hx110_2⟩ := at_T110 HR0_6.out x44_3 p110 q110
       cases e110
       replace hx110_0 := (HB.out.cell (World.block_lt_of_cell? w _ hx110_0)).trans hx110_0
       replace hx110_1 := (HB.out.cell (World.block_lt_of_cell? w _ hx110_1)).trans hx110_1
       replace hx110_2 := (HB.out.cell (World.block_lt_of_cell? w _ hx110_2)).trans hx110_2
       replace p110 := eq_true p110
       replace q110 := eq_true q110
       go_wp2_with (((with_reducible refine gd_ (N := 4) rfl ?_); (try (refine gate_guard (by rfl) ?_; dsimp only)); refine bE 4 #[.int .i64 0, .int .i64 0, .int .i64 0] 110 ?_; intro gb111 hg w41 hbox hb; have n0_ := am_ (blk_below (g := gb107) (o := .cells #[.int .i64 a0_0, .int .i64 a0_1, .int .i64 a0_2, .int .i64 a0_3, .int .i64 a0_4, .int .i64 a0_5, .slice (some ad110) l0_6.length c0_6, .slice A0_7 l0_7.length c0_7] 37 (0, 0)) BK107.out hb); have n1_ := am_ (below_step HB.out hb); have n2_ := am_ (hbox); have n3_ := am_ ((by rw [hg]; exact (bz_ HB.out) : w.heap.size ≤ gb111)); have n4_ := am_ ((by rw [hg]; exact (bz_ HB.out) : w.heap.size ≤ gb111)); have n5_ := am_ ((by rw [hg]; exact Nat.ne_of_lt (blk_lt (g := gb107) (o := .cells #[.int .i64 a0_0, .int .i64 a0_1, .int .i64 a0_2, .int .i64 a0_3, .int .i64 a0_4, .int .i64 a0_5, .slice (some ad110) l0_6.length c0_6, .slice A0_7 l0_7.length c0_7] 37 (0, 0)) BK107.out) : gb107 ≠ gb111)); have n6_ := am_ ((by rw [hg]; exact Nat.ne_of_gt (blk_lt (g := gb107) (o := .cells #[.int .i64 a0_0, .int .i64 a0_1, .int .i64 a0_2, .int .i64 a0_3, .int .i64 a0_4, .int .i64 a0_5, .slice (some ad110) l0_6.length c0_6, .slice A0_7 l0_7.length c0_7] 37 (0, 0)) BK107.out) : gb111 ≠ gb107)); clear BK107; clear HB; have BK107 := n0_; have HB := n1_; have BK111 := n2_; have GW111 := n3_; have GE111 := n4_; have NB107_111 := n5_; have NB111_107 := n6_; clear n0_ n1_ n2_ n3_ n4_ n5_ n6_; clear hb hbox hg; have hnb42 := NB111_107.out; have hnc42 := NB107_111.out; obtain ⟨hcz43_0, hcz43_1, hcz43_2, hfz43_0, hfz43_1, hfz43_2⟩ := cz3 BK111.out; obtain ⟨hcz44_0, hcz44_1, hcz44_2, hcz44_3, hcz44_4, hcz44_5, hcz44_6, hcz44_7, hfz44_0, hfz44_1, hfz44_2, hfz44_3, hfz44_4, hfz44_5, hfz44_6, hfz44_7⟩ := cz8 BK107.out))
       go_roundg k3
       case measure => have := HJ1.out; have := HJ10.out; have := HK3.out; omega
       case rel => exact ⟨(wrap64 (x44_3 + 1)), (by rfl), H', ⟨by have := HJ1.out; have := HJ10.out; have := HK3.out; omega⟩, ⟨by refine blk_far ?_ NB107_111.out _; refine blk_far ?_ NB107_111.out _; refine blk_far ?_ NB107_111.out _; exact BK107.out⟩, ⟨by repeat (with_reducible first | exact HB.out | refine bs_ ?_ GE111.out)⟩⟩
      rw [if_neg c26] at H
      exact absurd H (by simp)
     rw [if_neg c25] at H
     exact absurd H (by simp)
    rw [if_neg c24] at H
    have c24b0 : decide (x44_3 < (l0_6.length : Int)) = false := decide_eq_false c24
    clear c24
    have H' := am_ H
    clear H
    obtain ⟨hcz45_0, hcz45_1, hcz45_2, hcz45_3, hcz45_4, hcz45_5, hcz45_6, hcz45_7, hfz45_0, hfz45_1, hfz45_2, hfz45_3, hfz45_4, hfz45_5, hfz45_6, hfz45_7⟩ := cz8 BK107.out
    go_wp2
    go_loopg [5, 72] k3 (fun kq v5 v72 w' => ∃ (x5_4 : Int) (x72_4 : Int), v5 = .int .i64 x5_4 ∧ v72 = .int .i64 x72_4 ∧ Aside0 (parcel_Check.l1 kq x5_4 l0_7 (l0_7.length : Int) x72_4 a0_0 a0_1 a0_2 a0_3 a0_4 a0_5 l0_6 l0_7 = some r) ∧ Aside0 (kq ≤ k3) ∧ Aside0 (w'.heap[gb107]? = some (.cells #[.int .i64 a0_0, .int .i64 a0_1, .int .i64 a0_2, .int .i64 a0_3, .int .i64 a0_4, .int .i64 a0_5, (.slice A0_6 l0_6.length c0_6), (.slice A0_7 l0_7.length c0_7)] 37 (0, 0))) ∧ Aside0 (Below w.heap.size w w'))
    case atStart => exact ⟨(wrap64 (a0_4 - 1)), (0), (by rfl), (by rfl), H', ⟨Nat.le_refl _⟩, ⟨by exact BK107.out⟩, ⟨by repeat (with_reducible exact HB.out)⟩⟩
    case round =>
    clear H'
    try clear c4b0
    try clear c10b0
    try clear c10b1
    try clear c24b0
    try clear hcz12_0
    try clear hcz12_1
    try clear hcz12_2
    try clear hcz12_3
    try clear hcz12_4
    try clear hcz12_5
    try clear hcz12_6
    try clear hcz12_7
    try clear hcz14_0
    try clear hcz14_1
    try clear hcz14_2
    try clear hcz14_3
    try clear hcz14_4
    try clear hcz14_5
    try clear hcz14_6
    try clear hcz14_7
    try clear hcz21_0
    try clear hcz21_1
    try clear hcz21_2
    try clear hcz21_3
    try clear hcz21_4
    try clear hcz21_5
    try clear hcz21_6
    try clear hcz21_7
    try clear hcz23_0
    try clear hcz23_1
    try clear hcz23_2
    try clear hcz23_3
    try clear hcz23_4
    try clear hcz23_5
    try clear hcz23_6
    try clear hcz23_7
    try clear hcz34_0
    try clear hcz34_1
    try clear hcz34_2
    try clear hcz44_0
    try clear hcz44_1
    try clear hcz44_2
    try clear hcz44_3
    try clear hcz44_4
    try clear hcz44_5
    try clear hcz44_6
    try clear hcz44_7
    try clear hcz45_0
    try clear hcz45_1
    try clear hcz45_2
    try clear hcz45_3
    try clear hcz45_4
    try clear hcz45_5
    try clear hcz45_6
    try clear hcz45_7
    try clear hfz12_0
    try clear hfz12_1
    try clear hfz12_2
    try clear hfz12_3
    try clear hfz12_4
    try clear hfz12_5
    try clear hfz12_6
    try clear hfz12_7
    try clear hfz14_0
    try clear hfz14_1
    try clear hfz14_2
    try clear hfz14_3
    try clear hfz14_4
    try clear hfz14_5
    try clear hfz14_6
    try clear hfz14_7
    try clear hfz21_0
    try clear hfz21_1
    try clear hfz21_2
    try clear hfz21_3
    try clear hfz21_4
    try clear hfz21_5
    try clear hfz21_6
    try clear hfz21_7
    try clear hfz23_0
    try clear hfz23_1
    try clear hfz23_2
    try clear hfz23_3
    try clear hfz23_4
    try clear hfz23_5
    try clear hfz23_6
    try clear hfz23_7
    try clear hfz34_0
    try clear hfz34_1
    try clear hfz34_2
    try clear hfz44_0
    try clear hfz44_1
    try clear hfz44_2
    try clear hfz44_3
    try clear hfz44_4
    try clear hfz44_5
    try clear hfz44_6
    try clear hfz44_7
    try clear hfz45_0
    try clear hfz45_1
    try clear hfz45_2
    try clear hfz45_3
    try clear hfz45_4
    try clear hfz45_5
    try clear hfz45_6
    try clear hfz45_7
    obtain ⟨x5_4, x72_4, rfl, rfl, HA, HK4, BK107, HB⟩ := hrel
    cases gk with
    | zero => exact absurd HA.out (by simp [parcel_Check.l1])
    | succ k4 =>
    have H := HA.out
    clear HA
    simp only [parcel_Check.l1] at H
    by_cases c46 : x72_4 < (l0_7.length : Int)
    ·
     rw [if_pos c46] at H
     have c46b0 : decide (x72_4 < (l0_7.length : Int)) = true := decide_eq_true c46
     clear c46
     by_cases c47 : 0 ≤ x72_4
     ·
      rw [if_pos c47] at H
      have c47b0 : decide (0 ≤ x72_4) = true := decide_eq_true c47
      clear c47
      by_cases c48 : x72_4 < (l0_7.length : Int)
      ·
       rw [if_pos c48] at H
       have c48b0 : decide (x72_4 < (l0_7.length : Int)) = true := decide_eq_true c48
       clear c48
       have HC49 := am_ H
       clear H
       have p112 : 0 ≤ (x72_4 : Int) := of_decide_eq_true (by (with_reducible assumption))
       have q112 : x72_4 < (l0_7.length : Int) := of_decide_eq_true (by (with_reducible assumption))
       obtain ⟨ad112, A112_2, c112_2, e112, hx112_0, hx112_1, hx112_2, hl112_2, hi112_2⟩ := at_T77 HR0_7.out x72_4 p112 q112
       cases e112
       replace hx112_0 := (HB.out.cell (World.block_lt_of_cell? w _ hx112_0)).trans hx112_0
       replace hx112_1 := (HB.out.cell (World.block_lt_of_cell? w _ hx112_1)).trans hx112_1
       replace hx112_2 := (HB.out.cell (World.block_lt_of_cell? w _ hx112_2)).trans hx112_2
       have HR112_2 := am_ hi112_2
       have HC112_2 := am_ hl112_2
       clear hi112_2 hl112_2
       replace p112 := eq_true p112
       replace q112 := eq_true q112
       go_upto_region 21 with (((with_reducible refine gd_ (N := 7) rfl ?_); (try (refine gate_guard (by rfl) ?_; dsimp only)); refine bE 7 #[.int .i64 0, .int .u32 0, .slice none 0 0] 77 ?_; intro gb113 hg w50 hbox hb; have n0_ := am_ (blk_below (g := gb107) (o := .cells #[.int .i64 a0_0, .int .i64 a0_1, .int .i64 a0_2, .int .i64 a0_3, .int .i64 a0_4, .int .i64 a0_5, .slice A0_6 l0_6.length c0_6, .slice (some ad112) l0_7.length c0_7] 37 (0, 0)) BK107.out hb); have n1_ := am_ (below_step HB.out hb); have n2_ := am_ (hbox); have n3_ := am_ ((by rw [hg]; exact (bz_ HB.out) : w.heap.size ≤ gb113)); have n4_ := am_ ((by rw [hg]; exact (bz_ HB.out) : w.heap.size ≤ gb113)); have n5_ := am_ ((by rw [hg]; exact Nat.ne_of_lt (blk_lt (g := gb107) (o := .cells #[.int .i64 a0_0, .int .i64 a0_1, .int .i64 a0_2, .int .i64 a0_3, .int .i64 a0_4, .int .i64 a0_5, .slice A0_6 l0_6.length c0_6, .slice (some ad112) l0_7.length c0_7] 37 (0, 0)) BK107.out) : gb107 ≠ gb113)); have n6_ := am_ ((by rw [hg]; exact Nat.ne_of_gt (blk_lt (g := gb107) (o := .cells #[.int .i64 a0_0, .int .i64 a0_1, .int .i64 a0_2, .int .i64 a0_3, .int .i64 a0_4, .int .i64 a0_5, .slice A0_6 l0_6.length c0_6, .slice (some ad112) l0_7.length c0_7] 37 (0, 0)) BK107.out) : gb113 ≠ gb107)); clear BK107; clear HB; have BK107 := n0_; have HB := n1_; have BK113 := n2_; have GW113 := n3_; have GE113 := n4_; have NB107_113 := n5_; have NB113_107 := n6_; clear n0_ n1_ n2_ n3_ n4_ n5_ n6_; clear hb hbox hg; have hnb51 := NB113_107.out; have hnc51 := NB107_113.out; obtain ⟨hcz52_0, hcz52_1, hcz52_2, hfz52_0, hfz52_1, hfz52_2⟩ := cz3 BK113.out))
       (try simp only [Act.put, qa_, qb_, qc_])
       go_cut [94] (fun v94 wc => ∃ (kq : Nat) (x94_48 : Bool), v94 = .bool x94_48 ∧ Aside0 (parcel_Check.j4 kq l0_7 (l0_7.length : Int) x72_4 x94_48 a0_0 a0_1 a0_2 a0_3 a0_4 a0_5 l0_6 l0_7 ((rd_T77 l0_7 x72_4).f0) ((rd_T77 l0_7 x72_4).f1) ((rd_T77 l0_7 x72_4).f2) = some r) ∧ Aside0 (kq ≤ k4) ∧ Aside0 (wc.heap[gb107]? = some (.cells #[.int .i64 a0_0, .int .i64 a0_1, .int .i64 a0_2, .int .i64 a0_3, .int .i64 a0_4, .int .i64 a0_5, (.slice A0_6 l0_6.length c0_6), (.slice (some ad112) l0_7.length c0_7)] 37 (0, 0))) ∧ Aside0 (wc.heap[gb113]? = some (.cells #[.int .i64 ((rd_T77 l0_7 x72_4).f0), .int .u32 ((rd_T77 l0_7 x72_4).f1), (.slice A112_2 ((rd_T77 l0_7 x72_4).f2).length c112_2)] 77 (0, 0))) ∧ Aside0 (Below w.heap.size w wc))
       case first =>
        have H := HC49.out
        clear HC49
        by_cases c53 : ((rd_T77 l0_7 x72_4).f0) ≤ x5_4
        ·
         rw [if_pos c53] at H
         have c53b0 : decide (((rd_T77 l0_7 x72_4).f0) ≤ x5_4) = true := decide_eq_true c53
         clear c53
         (skip)
         have H' := am_ H
         clear H
         have hnb54 := NB113_107.out
         have hnc54 := NB107_113.out
         obtain ⟨hcz55_0, hcz55_1, hcz55_2, hfz55_0, hfz55_1, hfz55_2⟩ := cz3 BK113.out
         go_wp2
         go_meet
         case rel => exact ⟨_, (true), (by rfl), H', ⟨by have := HJ1.out; have := HJ10.out; have := HK3.out; have := HK4.out; omega⟩, ⟨by refine blk_far ?_ NB107_113.out _; refine blk_far ?_ NB107_113.out _; refine blk_far ?_ NB107_113.out _; exact BK107.out⟩, ⟨by refine blk_put (cs := #[.int .i64 ((rd_T77 l0_7 x72_4).f0), .int .u32 ((rd_T77 l0_7 x72_4).f1), .slice none 0 0]) ?_ 2 _ rfl; refine blk_put (cs := #[.int .i64 ((rd_T77 l0_7 x72_4).f0), .int .u32 0, .slice none 0 0]) ?_ 1 _ rfl; refine blk_put (cs := #[.int .i64 0, .int .u32 0, .slice none 0 0]) ?_ 0 _ rfl; exact BK113.out⟩, ⟨by repeat (with_reducible first | exact HB.out | refine bs_ ?_ GE113.out)⟩⟩
        rw [if_neg c53] at H
        have c53b0 : decide (((rd_T77 l0_7 x72_4).f0) ≤ x5_4) = false := decide_eq_false c53
        clear c53
        (skip)
        by_cases c56 : ((rd_T77 l0_7 x72_4).f0) > a0_5
        ·
         rw [if_pos c56] at H
         have c56b0 : decide (a0_5 < ((rd_T77 l0_7 x72_4).f0)) = true := decide_eq_true c56
         clear c56
         have H' := am_ H
         clear H
         have hnb57 := NB113_107.out
         have hnc57 := NB107_113.out
         obtain ⟨hcz58_0, hcz58_1, hcz58_2, hfz58_0, hfz58_1, hfz58_2⟩ := cz3 BK113.out
         obtain ⟨hcz59_0, hcz59_1, hcz59_2, hcz59_3, hcz59_4, hcz59_5, hcz59_6, hcz59_7, hfz59_0, hfz59_1, hfz59_2, hfz59_3, hfz59_4, hfz59_5, hfz59_6, hfz59_7⟩ := cz8 BK107.out
         go_wp2
         go_meet
         case rel => exact ⟨_, (true), (by rfl), H', ⟨by have := HJ1.out; have := HJ10.out; have := HK3.out; have := HK4.out; omega⟩, ⟨by refine blk_far ?_ NB107_113.out _; refine blk_far ?_ NB107_113.out _; refine blk_far ?_ NB107_113.out _; exact BK107.out⟩, ⟨by refine blk_put (cs := #[.int .i64 ((rd_T77 l0_7 x72_4).f0), .int .u32 ((rd_T77 l0_7 x72_4).f1), .slice none 0 0]) ?_ 2 _ rfl; refine blk_put (cs := #[.int .i64 ((rd_T77 l0_7 x72_4).f0), .int .u32 0, .slice none 0 0]) ?_ 1 _ rfl; refine blk_put (cs := #[.int .i64 0, .int .u32 0, .slice none 0 0]) ?_ 0 _ rfl; exact BK113.out⟩, ⟨by repeat (with_reducible first | exact HB.out | refine bs_ ?_ GE113.out)⟩⟩
        rw [if_neg c56] at H
        have c56b0 : decide (a0_5 < ((rd_T77 l0_7 x72_4).f0)) = false := decide_eq_false c56
        clear c56
        replace H := Option.bind_eq_some_iff.mp H
        obtain ⟨t114, A600, H⟩ := H
        try dsimp only at H
        have A60 := am_ A600
        clear A600
        have H' := am_ H
        clear H
        have hnb61 := NB113_107.out
        have hnc61 := NB107_113.out
        obtain ⟨hcz62_0, hcz62_1, hcz62_2, hfz62_0, hfz62_1, hfz62_2⟩ := cz3 BK113.out
        obtain ⟨hcz63_0, hcz63_1, hcz63_2, hcz63_3, hcz63_4, hcz63_5, hcz63_6, hcz63_7, hfz63_0, hfz63_1, hfz63_2, hfz63_3, hfz63_4, hfz63_5, hfz63_6, hfz63_7⟩ := cz8 BK107.out
        go_wp2_with ((go_at_call 50; (with_reducible refine (span_At.calls k4 _ _ l0_6 ((rd_T77 l0_7 x72_4).f0) t114 _ ?side1 ?side2 A60.out).mono ?_); (case side1 => exact Kd.C_below HR0_6.out (by repeat (with_reducible first | exact HB.out | refine bs_ ?_ GE113.out))); (case side2 => exact HC0_6.out); rintro e w64 ⟨rfl, hb⟩; have n0_ := am_ (blk_below (g := gb107) (o := .cells #[.int .i64 a0_0, .int .i64 a0_1, .int .i64 a0_2, .int .i64 a0_3, .int .i64 a0_4, .int .i64 a0_5, .slice A0_6 l0_6.length c0_6, .slice (some ad112) l0_7.length c0_7] 37 (0, 0)) (by refine blk_far ?_ NB107_113.out _; refine blk_far ?_ NB107_113.out _; refine blk_far ?_ NB107_113.out _; exact BK107.out) hb); have n1_ := am_ (blk_below (g := gb113) (o := .cells #[.int .i64 ((rd_T77 l0_7 x72_4).f0), .int .u32 ((rd_T77 l0_7 x72_4).f1), .slice A112_2 ((rd_T77 l0_7 x72_4).f2).length c112_2] 77 (0, 0)) (by refine blk_put (cs := #[.int .i64 ((rd_T77 l0_7 x72_4).f0), .int .u32 ((rd_T77 l0_7 x72_4).f1), .slice none 0 0]) ?_ 2 _ rfl; refine blk_put (cs := #[.int .i64 ((rd_T77 l0_7 x72_4).f0), .int .u32 0, .slice none 0 0]) ?_ 1 _ rfl; refine blk_put (cs := #[.int .i64 0, .int .u32 0, .slice none 0 0]) ?_ 0 _ rfl; exact BK113.out) hb); have n2_ := am_ (below_step (by repeat (with_reducible first | exact HB.out | refine bs_ ?_ GE113.out)) hb); clear BK107; clear BK113; clear HB; have BK107 := n0_; have BK113 := n1_; have HB := n2_; clear n0_ n1_ n2_; (try clear hb)))
        go_meet
        case rel => exact ⟨_, (t114 != 0), (by rfl), H', ⟨by have := HJ1.out; have := HJ10.out; have := HK3.out; have := HK4.out; omega⟩, ⟨by exact BK107.out⟩, ⟨by exact BK113.out⟩, ⟨by repeat (with_reducible exact HB.out)⟩⟩
       case rest =>
       clear HC49
       try clear c4b0
       try clear c10b0
       try clear c10b1
       try clear c24b0
       try clear c46b0
       try clear c47b0
       try clear c48b0
       try clear hcz12_0
       try clear hcz12_1
       try clear hcz12_2
       try clear hcz12_3
       try clear hcz12_4
       try clear hcz12_5
       try clear hcz12_6
       try clear hcz12_7
       try clear hcz14_0
       try clear hcz14_1
       try clear hcz14_2
       try clear hcz14_3
       try clear hcz14_4
       try clear hcz14_5
       try clear hcz14_6
       try clear hcz14_7
       try clear hcz21_0
       try clear hcz21_1
       try clear hcz21_2
       try clear hcz21_3
       try clear hcz21_4
       try clear hcz21_5
       try clear hcz21_6
       try clear hcz21_7
       try clear hcz23_0
       try clear hcz23_1
       try clear hcz23_2
       try clear hcz23_3
       try clear hcz23_4
       try clear hcz23_5
       try clear hcz23_6
       try clear hcz23_7
       try clear hcz34_0
       try clear hcz34_1
       try clear hcz34_2
       try clear hcz44_0
       try clear hcz44_1
       try clear hcz44_2
       try clear hcz44_3
       try clear hcz44_4
       try clear hcz44_5
       try clear hcz44_6
       try clear hcz44_7
       try clear hcz45_0
       try clear hcz45_1
       try clear hcz45_2
       try clear hcz45_3
       try clear hcz45_4
       try clear hcz45_5
       try clear hcz45_6
       try clear hcz45_7
       try clear hcz52_0
       try clear hcz52_1
       try clear hcz52_2
       try clear hfz12_0
       try clear hfz12_1
       try clear hfz12_2
       try clear hfz12_3
       try clear hfz12_4
       try clear hfz12_5
       try clear hfz12_6
       try clear hfz12_7
       try clear hfz14_0
       try clear hfz14_1
       try clear hfz14_2
       try clear hfz14_3
       try clear hfz14_4
       try clear hfz14_5
       try clear hfz14_6
       try clear hfz14_7
       try clear hfz21_0
       try clear hfz21_1
       try clear hfz21_2
       try clear hfz21_3
       try clear hfz21_4
       try clear hfz21_5
       try clear hfz21_6
       try clear hfz21_7
       try clear hfz23_0
       try clear hfz23_1
       try clear hfz23_2
       try clear hfz23_3
       try clear hfz23_4
       try clear hfz23_5
       try clear hfz23_6
       try clear hfz23_7
       try clear hfz34_0
       try clear hfz34_1
       try clear hfz34_2
       try clear hfz44_0
       try clear hfz44_1
       try clear hfz44_2
       try clear hfz44_3
       try clear hfz44_4
       try clear hfz44_5
       try clear hfz44_6
       try clear hfz44_7
       try clear hfz45_0
       try clear hfz45_1
       try clear hfz45_2
       try clear hfz45_3
       try clear hfz45_4
       try clear hfz45_5
       try clear hfz45_6
       try clear hfz45_7
       try clear hfz52_0
       try clear hfz52_1
       try clear hfz52_2
       try clear hx112_0
       try clear hx112_1
       try clear hx112_2
       try clear p112
       try clear q112
       obtain ⟨kq, x94_48, rfl, HA, HJ48, BK107, BK113, HB⟩ := hcut
       cases kq with
       | zero => exact absurd HA.out (by simp [parcel_Check.j4])
       | succ kj48 =>
       have H := HA.out
       clear HA
       simp only [parcel_Check.j4] at H
       by_cases c65 : x94_48 = true
       ·
        subst c65
        rw [if_pos rfl] at H
        obtain rfl := Option.some.inj H
        go_wp2
        go_ret
        exact ⟨by rfl, by repeat (with_reducible exact HB.out)⟩
       replace c65 := Bool.eq_false_iff.mpr c65
       subst c65
       rw [if_neg (show ¬ (false = true) by decide)] at H
       by_cases c66 : (((rd_T77 l0_7 x72_4).f2).length : Int) > 400
       ·
        rw [if_pos c66] at H
        have c66b0 : decide (400 < (((rd_T77 l0_7 x72_4).f2).length : Int)) = true := decide_eq_true c66
        have c66b1 : decide (400 < ((rd_T77 l0_7 x72_4).f2).length) = true := decide_eq_true (by omega)
        clear c66
        obtain rfl := Option.some.inj H
        have hnb67 := NB113_107.out
        have hnc67 := NB107_113.out
        obtain ⟨hcz68_0, hcz68_1, hcz68_2, hfz68_0, hfz68_1, hfz68_2⟩ := cz3 BK113.out
        go_wp2
        go_ret
        exact ⟨by rfl, by repeat (with_reducible exact HB.out)⟩
       rw [if_neg c66] at H
       have c66b0 : decide (400 < (((rd_T77 l0_7 x72_4).f2).length : Int)) = false := decide_eq_false c66
       have c66b1 : decide (400 < ((rd_T77 l0_7 x72_4).f2).length) = false := decide_eq_false (by omega)
       clear c66
       have H' := am_ H
       clear H
       have hnb69 := NB113_107.out
       have hnc69 := NB107_113.out
       obtain ⟨hcz70_0, hcz70_1, hcz70_2, hfz70_0, hfz70_1, hfz70_2⟩ := cz3 BK113.out
       go_wp2
       go_roundg kj48
       case measure => have := HJ1.out; have := HJ10.out; have := HK3.out; have := HK4.out; have := HJ48.out; omega
       case rel => exact ⟨(((rd_T77 l0_7 x72_4).f0)), (wrap64 (x72_4 + 1)), (by rfl), (by rfl), H', ⟨by have := HJ1.out; have := HJ10.out; have := HK3.out; have := HK4.out; have := HJ48.out; omega⟩, ⟨by exact BK107.out⟩, ⟨by repeat (with_reducible exact HB.out)⟩⟩
      rw [if_neg c48] at H
      exact absurd H (by simp)
     rw [if_neg c47] at H
     exact absurd H (by simp)
    rw [if_neg c46] at H
    have c46b0 : decide (x72_4 < (l0_7.length : Int)) = false := decide_eq_false c46
    clear c46
    obtain rfl := Option.some.inj H
    go_wp2
    go_ret
    exact ⟨by rfl, by repeat (with_reducible exact HB.out)⟩
   replace c20 := Bool.eq_false_iff.mpr c20
   subst c20
   rw [if_neg (show ¬ (false = true) by decide)] at H
   obtain rfl := Option.some.inj H
   obtain ⟨hcz71_0, hcz71_1, hcz71_2, hcz71_3, hcz71_4, hcz71_5, hcz71_6, hcz71_7, hfz71_0, hfz71_1, hfz71_2, hfz71_3, hfz71_4, hfz71_5, hfz71_6, hfz71_7⟩ := cz8 BK107.out
   go_wp2_with (((with_reducible refine gate_callee (f := 49) rfl ?_); refine gL (some 39) Tryd.func49 #[.slice A0_6 l0_6.length c0_6] ?_; (with_reducible refine (span_Right.calls kj10 _ _ l0_6 false _ ?side1 ?side2 A19.out).mono ?_); (case side1 => repeat (exact (Kd.C_below HR0_6.out HB.out))); (case side2 => exact HC0_6.out); rintro e w72 ⟨rfl, hb⟩; refine ⟨_, rfl, ?_⟩; have n0_ := am_ (blk_below (g := gb107) (o := .cells #[.int .i64 a0_0, .int .i64 a0_1, .int .i64 a0_2, .int .i64 a0_3, .int .i64 a0_4, .int .i64 a0_5, .slice A0_6 l0_6.length c0_6, .slice A0_7 l0_7.length c0_7] 37 (0, 0)) BK107.out hb); have n1_ := am_ (below_step HB.out hb); clear BK107; clear HB; have BK107 := n0_; have HB := n1_; clear n0_ n1_; (try clear hb)))
   go_ret
   exact ⟨by rfl, by repeat (with_reducible exact HB.out)⟩
  rw [if_neg c10] at H
  have c10b0 : (a0_0 == 1) = false := beq_eq_false_iff_ne.mpr c10
  have c10b1 : (a0_0 != 1) = true := bne_iff_ne.mpr c10
  obtain rfl := Option.some.inj H
  obtain ⟨hcz73_0, hcz73_1, hcz73_2, hcz73_3, hcz73_4, hcz73_5, hcz73_6, hcz73_7, hfz73_0, hfz73_1, hfz73_2, hfz73_3, hfz73_4, hfz73_5, hfz73_6, hfz73_7⟩ := cz8 BK107.out
  go_wp2_with (((with_reducible refine gate_callee (f := 48) rfl ?_); refine gL (some 19) Tryd.func48 #[.agg #[.int .i64 a0_0, .int .i64 a0_1, .int .i64 a0_2, .int .i64 a0_3, .int .i64 a0_4, .int .i64 a0_5, .slice A0_6 l0_6.length c0_6, .slice A0_7 l0_7.length c0_7]] ?_; (with_reducible refine (parcel_numbers.calls kj1 a0_0 a0_1 a0_2 a0_3 a0_4 a0_5 _ _ l0_6 _ _ l0_7 true _ ?side1 ?side2 ?side3 ?side4 A8.out).mono ?_); (case side1 => repeat (exact (Kd.C_below HR0_6.out HB.out))); (case side2 => exact HC0_6.out); (case side3 => repeat (exact (Kd.C_below HR0_7.out HB.out))); (case side4 => exact HC0_7.out); rintro e w74 ⟨rfl, hb⟩; refine ⟨_, rfl, ?_⟩; have n0_ := am_ (blk_below (g := gb107) (o := .cells #[.int .i64 a0_0, .int .i64 a0_1, .int .i64 a0_2, .int .i64 a0_3, .int .i64 a0_4, .int .i64 a0_5, .slice A0_6 l0_6.length c0_6, .slice A0_7 l0_7.length c0_7] 37 (0, 0)) BK107.out hb); have n1_ := am_ (below_step HB.out hb); clear BK107; clear HB; have BK107 := n0_; have HB := n1_; clear n0_ n1_; (try clear hb); obtain ⟨hcz75_0, hcz75_1, hcz75_2, hcz75_3, hcz75_4, hcz75_5, hcz75_6, hcz75_7, hfz75_0, hfz75_1, hfz75_2, hfz75_3, hfz75_4, hfz75_5, hfz75_6, hfz75_7⟩ := cz8 BK107.out))
  go_ret
  exact ⟨by rfl, by repeat (with_reducible exact HB.out)⟩
 replace c9 := Bool.eq_false_iff.mpr c9
 subst c9
 rw [if_neg (show ¬ (false = true) by decide)] at H
 obtain rfl := Option.some.inj H
 obtain ⟨hcz76_0, hcz76_1, hcz76_2, hcz76_3, hcz76_4, hcz76_5, hcz76_6, hcz76_7, hfz76_0, hfz76_1, hfz76_2, hfz76_3, hfz76_4, hfz76_5, hfz76_6, hfz76_7⟩ := cz8 BK107.out
 go_wp2_with (((with_reducible refine gate_callee (f := 48) rfl ?_); refine gL (some 19) Tryd.func48 #[.agg #[.int .i64 a0_0, .int .i64 a0_1, .int .i64 a0_2, .int .i64 a0_3, .int .i64 a0_4, .int .i64 a0_5, .slice A0_6 l0_6.length c0_6, .slice A0_7 l0_7.length c0_7]] ?_; (with_reducible refine (parcel_numbers.calls kj1 a0_0 a0_1 a0_2 a0_3 a0_4 a0_5 _ _ l0_6 _ _ l0_7 false _ ?side1 ?side2 ?side3 ?side4 A8.out).mono ?_); (case side1 => repeat (exact (Kd.C_below HR0_6.out HB.out))); (case side2 => exact HC0_6.out); (case side3 => repeat (exact (Kd.C_below HR0_7.out HB.out))); (case side4 => exact HC0_7.out); rintro e w77 ⟨rfl, hb⟩; refine ⟨_, rfl, ?_⟩; have n0_ := am_ (blk_below (g := gb107) (o := .cells #[.int .i64 a0_0, .int .i64 a0_1, .int .i64 a0_2, .int .i64 a0_3, .int .i64 a0_4, .int .i64 a0_5, .slice A0_6 l0_6.length c0_6, .slice A0_7 l0_7.length c0_7] 37 (0, 0)) BK107.out hb); have n1_ := am_ (below_step HB.out hb); clear BK107; clear HB; have BK107 := n0_; have HB := n1_; clear n0_ n1_; (try clear hb)))
 go_ret
 exact ⟨by rfl, by repeat (with_reducible exact HB.out)⟩
end Go.Proofs.YtoandmnefgimoaaDoor.PL
