import Derived.Test.YtoandmnefgimoaaDoorLBPLx0
import Derived.Test.YtoandmnefgimoaaDoorLBPLx10
import Derived.Test.YtoandmnefgimoaaDoorLBPLx29
namespace Go.Proofs.YtoandmnefgimoaaDoor.PL
open Go.RowKit Go.Proofs.YtoandmnefgimoaaDoorW.PrintWords Go.Proofs.YtoandmnefgimoaaDoorW.PrintLast Go.Proofs.YtoandmnefgimoaaDoorW.PrintMore
attribute [local go_sem] max2_int min2_int max_two min_two max_three min_three max_four min_four
set_option linter.unusedVariables false
set_option linter.unusedSimpArgs false
mutual
def grapevineref13_Check.j0 : Nat → Bool → Int → Int → Int → Int → Int → Int → List (S110) → List (S77) → Option (Int)
 | 0, _, _, _, _, _, _, _, _, _ => none
 | k + 1, x17, x264000, x264001, x264002, x264003, x264004, x264005, x264006, x264007 => if x17 = true then (some 12) else (if x264001 < 0 then (grapevineref13_Check.j1 k true x264000 x264001 x264002 x264003 x264004 x264005 x264006 x264007) else (grapevineref13_Check.j1 k (decide (x264001 > 2)) x264000 x264001 x264002 x264003 x264004 x264005 x264006 x264007))
def grapevineref13_Check.j1 : Nat → Bool → Int → Int → Int → Int → Int → Int → List (S110) → List (S77) → Option (Int)
 | 0, _, _, _, _, _, _, _, _, _ => none
 | k + 1, x25, x264000, x264001, x264002, x264003, x264004, x264005, x264006, x264007 => if x25 = true then (some 2) else ((grapevineref13_named.f x264000).bind fun t266 => (if t266 = true then (if x264002 < 1 then (grapevineref13_Check.j2 k true x264000 x264001 x264002 x264003 x264004 x264005 x264006 x264007) else (if x264002 > 32 then (grapevineref13_Check.j2 k true x264000 x264001 x264002 x264003 x264004 x264005 x264006 x264007) else (if x264003 < 1 then (grapevineref13_Check.j2 k true x264000 x264001 x264002 x264003 x264004 x264005 x264006 x264007) else (grapevineref13_Check.j2 k (decide (x264003 > 1073741824)) x264000 x264001 x264002 x264003 x264004 x264005 x264006 x264007)))) else (grapevineref13_Check.j2 k false x264000 x264001 x264002 x264003 x264004 x264005 x264006 x264007)))
def grapevineref13_Check.j2 : Nat → Bool → Int → Int → Int → Int → Int → Int → List (S110) → List (S77) → Option (Int)
 | 0, _, _, _, _, _, _, _, _, _ => none
 | k + 1, x48, x264000, x264001, x264002, x264003, x264004, x264005, x264006, x264007 => if x48 = true then (some 2) else ((grapevineref13_ranged.f x264000).bind fun t267 => (if t267 = true then (if x264004 < 1 then (grapevineref13_Check.j3 k true x264000 x264001 x264002 x264003 x264004 x264005 x264006 x264007) else (if x264005 < x264004 then (grapevineref13_Check.j3 k true x264000 x264001 x264002 x264003 x264004 x264005 x264006 x264007) else (grapevineref13_Check.j3 k (decide (x264005 > 1099511627776)) x264000 x264001 x264002 x264003 x264004 x264005 x264006 x264007))) else (grapevineref13_Check.j3 k false x264000 x264001 x264002 x264003 x264004 x264005 x264006 x264007)))
def grapevineref13_Check.j3 : Nat → Bool → Int → Int → Int → Int → Int → Int → List (S110) → List (S77) → Option (Int)
 | 0, _, _, _, _, _, _, _, _, _ => none
 | k + 1, x68, x264000, x264001, x264002, x264003, x264004, x264005, x264006, x264007 => if x68 = true then (some 2) else ((grapevineref13_named.f x264000).bind fun t268 => (if t268 = true then ((grapevineref13_from.f x264000).bind fun t269 => (if t269 = true then (if x264004 < 0 then (grapevineref13_Check.j4 k true x264000 x264001 x264002 x264003 x264004 x264005 x264006 x264007) else (grapevineref13_Check.j4 k (decide (x264004 > 1099511627776)) x264000 x264001 x264002 x264003 x264004 x264005 x264006 x264007)) else (grapevineref13_Check.j4 k false x264000 x264001 x264002 x264003 x264004 x264005 x264006 x264007))) else (grapevineref13_Check.j4 k false x264000 x264001 x264002 x264003 x264004 x264005 x264006 x264007)))
def grapevineref13_Check.j4 : Nat → Bool → Int → Int → Int → Int → Int → Int → List (S110) → List (S77) → Option (Int)
 | 0, _, _, _, _, _, _, _, _, _ => none
 | k + 1, x86, x264000, x264001, x264002, x264003, x264004, x264005, x264006, x264007 => if x86 = true then (some 2) else (if x264000 = 1 then (if (x264006.length : Int) > 32 then (grapevineref13_Check.j5 k true x264000 x264001 x264002 x264003 x264004 x264005 x264006 x264007) else (grapevineref13_Check.j5 k (decide ((x264007.length : Int) > 8)) x264000 x264001 x264002 x264003 x264004 x264005 x264006 x264007)) else (some 0))
def grapevineref13_Check.j5 : Nat → Bool → Int → Int → Int → Int → Int → Int → List (S110) → List (S77) → Option (Int)
 | 0, _, _, _, _, _, _, _, _, _ => none
 | k + 1, x99, x264000, x264001, x264002, x264003, x264004, x264005, x264006, x264007 => if x99 = true then (some 6) else ((grapevineref08_Right.f k x264006).bind fun t270 => (grapevineref13_Check.l0 k t270 0 x264000 x264001 x264002 x264003 x264004 x264005 x264006 x264007))
def grapevineref13_Check.l0 : Nat → Bool → Int → Int → Int → Int → Int → Int → Int → List (S110) → List (S77) → Option (Int)
 | 0, _, _, _, _, _, _, _, _, _, _ => none
 | k + 1, x3, x4, x264000, x264001, x264002, x264003, x264004, x264005, x264006, x264007 => if x4 < (x264006.length : Int) then (if 0 ≤ x4 then (if x3 = true then (if ((rd_T110 x264006 x4).f2) = 2 then (if ((rd_T110 x264006 x4).f0) ≥ x264004 then (grapevineref13_Check.l0 k (decide (((rd_T110 x264006 x4).f1) ≤ x264005)) (wrap64 (x4 + 1)) x264000 x264001 x264002 x264003 x264004 x264005 x264006 x264007) else (grapevineref13_Check.l0 k false (wrap64 (x4 + 1)) x264000 x264001 x264002 x264003 x264004 x264005 x264006 x264007)) else (if ((rd_T110 x264006 x4).f2) = 3 then (if ((rd_T110 x264006 x4).f0) ≥ x264004 then (grapevineref13_Check.l0 k (decide (((rd_T110 x264006 x4).f1) ≤ x264005)) (wrap64 (x4 + 1)) x264000 x264001 x264002 x264003 x264004 x264005 x264006 x264007) else (grapevineref13_Check.l0 k false (wrap64 (x4 + 1)) x264000 x264001 x264002 x264003 x264004 x264005 x264006 x264007)) else (grapevineref13_Check.l0 k false (wrap64 (x4 + 1)) x264000 x264001 x264002 x264003 x264004 x264005 x264006 x264007))) else (grapevineref13_Check.l0 k false (wrap64 (x4 + 1)) x264000 x264001 x264002 x264003 x264004 x264005 x264006 x264007)) else (none)) else (if x3 = true then (grapevineref13_Check.l1 k 0 x264000 x264001 x264002 x264003 x264004 x264005 x264006 x264007) else (some 4))
def grapevineref13_Check.l1 : Nat → Int → Int → Int → Int → Int → Int → Int → List (S110) → List (S77) → Option (Int)
 | 0, _, _, _, _, _, _, _, _, _ => none
 | k + 1, x6, x264000, x264001, x264002, x264003, x264004, x264005, x264006, x264007 => if x6 < (x264007.length : Int) then (if 0 ≤ x6 then (if ((rd_T77 x264007 x6).f0) < x264004 then (grapevineref13_Check.j8 k x6 true x264000 x264001 x264002 x264003 x264004 x264005 x264006 x264007) else (if ((rd_T77 x264007 x6).f0) > x264005 then (grapevineref13_Check.j8 k x6 true x264000 x264001 x264002 x264003 x264004 x264005 x264006 x264007) else (if x6 > 0 then (if 0 ≤ (wrap64 (x6 - 1)) then (if (wrap64 (x6 - 1)) < (x264007.length : Int) then (if ((rd_T77 x264007 x6).f0) ≤ ((rd_T77 x264007 (wrap64 (x6 - 1))).f0) then (grapevineref13_Check.j8 k x6 true x264000 x264001 x264002 x264003 x264004 x264005 x264006 x264007) else ((grapevineref08_At.f k x264006 ((rd_T77 x264007 x6).f0)).bind fun t275 => (grapevineref13_Check.j8 k x6 (t275 != 0) x264000 x264001 x264002 x264003 x264004 x264005 x264006 x264007))) else (none)) else (none)) else ((grapevineref08_At.f k x264006 ((rd_T77 x264007 x6).f0)).bind fun t276 => (grapevineref13_Check.j8 k x6 (t276 != 0) x264000 x264001 x264002 x264003 x264004 x264005 x264006 x264007))))) else (none)) else (some 0)
def grapevineref13_Check.j8 : Nat → Int → Bool → Int → Int → Int → Int → Int → Int → List (S110) → List (S77) → Option (Int)
 | 0, _, _, _, _, _, _, _, _, _, _ => none
 | k + 1, x6, x186, x264000, x264001, x264002, x264003, x264004, x264005, x264006, x264007 => if x186 = true then (some 14) else (if 0 ≤ x6 then (if x6 < (x264007.length : Int) then (if (((rd_T77 x264007 x6).f2).length : Int) > 400 then (some 6) else (grapevineref13_Check.l1 k (wrap64 (x6 + 1)) x264000 x264001 x264002 x264003 x264004 x264005 x264006 x264007)) else (none)) else (none))
end
def grapevineref13_Check.f (k : Nat) (a0_0 : Int) (a0_1 : Int) (a0_2 : Int) (a0_3 : Int) (a0_4 : Int) (a0_5 : Int) (l0_6 : List (S110)) (l0_7 : List (S77)) : Option (Int) := (grapevineref13_ranged.f a0_0).bind fun t264 => (if t264 = true then (grapevineref13_Check.j0 k false a0_0 a0_1 a0_2 a0_3 a0_4 a0_5 l0_6 l0_7) else ((grapevineref13_named.f a0_0).bind fun t265 => (grapevineref13_Check.j0 k (!t265) a0_0 a0_1 a0_2 a0_3 a0_4 a0_5 l0_6 l0_7)))
set_option maxHeartbeats 8000000 in
set_option maxRecDepth 100000 in
theorem grapevineref13_Check.calls (k : Nat) (a0_0 : Int) (a0_1 : Int) (a0_2 : Int) (a0_3 : Int) (a0_4 : Int) (a0_5 : Int) (A0_6 : Option Addr) (c0_6 : Nat) (l0_6 : List (S110)) (A0_7 : Option Addr) (c0_7 : Nat) (l0_7 : List (S77)) (r : Int) (w : World) (hr0_6 : Kd.C k110 w A0_6 l0_6.length l0_6) (hc0_6 : l0_6.length ≤ c0_6) (hr0_7 : Kd.C k77 w A0_7 l0_7.length l0_7) (hc0_7 : l0_7.length ≤ c0_7) (h : grapevineref13_Check.f k a0_0 a0_1 a0_2 a0_3 a0_4 a0_5 l0_6 l0_7 = some r) :
 Calls Tryd.prog 45 #[.agg #[.int .i64 a0_0, .int .i64 a0_1, .int .i64 a0_2, .int .i64 a0_3, .int .i64 a0_4, .int .i64 a0_5, .slice A0_6 l0_6.length c0_6, .slice A0_7 l0_7.length c0_7]] w fun e w' => e = .returned (.int .i64 r) ∧ Below w.heap.size w w' := by
 have hu37 := Tryd.underlying37
 have hu110 := Tryd.underlying110
 have HR0_6 := am_ hr0_6
 have HC0_6 := am_ hc0_6
 clear hr0_6 hc0_6
 have HR0_7 := am_ hr0_7
 have HC0_7 := am_ hc0_7
 clear hr0_7 hc0_7
 have HB := am_ (Below.refl w.heap.size w)
 have H : ((grapevineref13_ranged.f a0_0).bind fun t264 => (if t264 = true then (grapevineref13_Check.j0 k false a0_0 a0_1 a0_2 a0_3 a0_4 a0_5 l0_6 l0_7) else ((grapevineref13_named.f a0_0).bind fun t265 => (grapevineref13_Check.j0 k (!t265) a0_0 a0_1 a0_2 a0_3 a0_4 a0_5 l0_6 l0_7)))) = some r := h
 clear h
 have HC2 := am_ H
 clear H
 go_enter Tryd.func45, Tryd.ntmps45
 go_upto_region 1 with (((with_reducible refine gd_ (N := 1) rfl ?_); (try (refine gate_guard (by rfl) ?_; dsimp only)); refine bE 1 #[.int .i64 a0_0, .int .i64 a0_1, .int .i64 a0_2, .int .i64 a0_3, .int .i64 a0_4, .int .i64 a0_5, .slice A0_6 l0_6.length c0_6, .slice A0_7 l0_7.length c0_7] 37 ?_; intro gb263 hg w3 hbox hb; have n0_ := am_ (below_step HB.out hb); have n1_ := am_ (hbox); have n2_ := am_ ((by rw [hg]; exact (bz_ HB.out) : w.heap.size ≤ gb263)); have n3_ := am_ ((by rw [hg]; exact (bz_ HB.out) : w.heap.size ≤ gb263)); clear HB; have HB := n0_; have BK263 := n1_; have GW263 := n2_; have GE263 := n3_; clear n0_ n1_ n2_ n3_; clear hb hbox hg))
 (try simp only [Act.put, qa_, qb_, qc_])
 go_cut [17] (fun v17 wc => ∃ (kq : Nat) (x17_1 : Bool), v17 = .bool x17_1 ∧ Aside0 (grapevineref13_Check.j0 kq x17_1 a0_0 a0_1 a0_2 a0_3 a0_4 a0_5 l0_6 l0_7 = some r) ∧ Aside0 (kq ≤ k) ∧ Aside0 (wc.heap[gb263]? = some (.cells #[.int .i64 a0_0, .int .i64 a0_1, .int .i64 a0_2, .int .i64 a0_3, .int .i64 a0_4, .int .i64 a0_5, (.slice A0_6 l0_6.length c0_6), (.slice A0_7 l0_7.length c0_7)] 37 (0, 0))) ∧ Aside0 (Below w.heap.size w wc))
 case first =>
  have H := HC2.out
  clear HC2
  replace H := Option.bind_eq_some_iff.mp H
  obtain ⟨t264, A40, H⟩ := H
  try dsimp only at H
  have A4 := am_ A40
  clear A40
  by_cases c5 : t264 = true
  ·
   subst c5
   rw [if_pos rfl] at H
   have H' := am_ H
   clear H
   obtain ⟨hcz6_0, hcz6_1, hcz6_2, hcz6_3, hcz6_4, hcz6_5, hcz6_6, hcz6_7, hfz6_0, hfz6_1, hfz6_2, hfz6_3, hfz6_4, hfz6_5, hfz6_6, hfz6_7⟩ := cz8 BK263.out
   go_wp2_with (((with_reducible refine gate_callee (f := 23) rfl ?_); refine gL (some 10) Tryd.func23 #[.int .i64 a0_0] ?_; (with_reducible refine (grapevineref13_ranged.calls a0_0 true _ A4.out).mono ?_); rintro e w' ⟨rfl, ⟨nd, rfl⟩⟩; refine ⟨_, rfl, ?_⟩))
   go_meet
   case rel => exact ⟨_, (false), (by rfl), H', ⟨by omega⟩, ⟨by (with_reducible repeat (refine kn_ ?_ _)); exact BK263.out⟩, ⟨by repeat (with_reducible first | exact HB.out | apply bn_)⟩⟩
  as_aux_lemma =>
  replace c5 := Bool.eq_false_iff.mpr c5
  subst c5
  rw [if_neg (show ¬ (false = true) by decide)] at H
  replace H := Option.bind_eq_some_iff.mp H
  obtain ⟨t265, A70, H⟩ := H
  try dsimp only at H
  have A7 := am_ A70
  clear A70
  have H' := am_ H
  clear H
  obtain ⟨hcz8_0, hcz8_1, hcz8_2, hcz8_3, hcz8_4, hcz8_5, hcz8_6, hcz8_7, hfz8_0, hfz8_1, hfz8_2, hfz8_3, hfz8_4, hfz8_5, hfz8_6, hfz8_7⟩ := cz8 BK263.out
  go_wp2_with (first | ((with_reducible refine gate_callee (f := 23) rfl ?_); refine gL (some 10) Tryd.func23 #[.int .i64 a0_0] ?_; (with_reducible refine (grapevineref13_ranged.calls a0_0 false _ A4.out).mono ?_); rintro e w' ⟨rfl, ⟨nd, rfl⟩⟩; refine ⟨_, rfl, ?_⟩) | (go_at_call 24; (with_reducible refine (grapevineref13_named.calls a0_0 t265 _ A7.out).mono ?_); rintro e w' ⟨rfl, ⟨nd, rfl⟩⟩))
  go_meet
  case rel => exact ⟨_, (!t265), (by rfl), H', ⟨by omega⟩, ⟨by (with_reducible repeat (refine kn_ ?_ _)); exact BK263.out⟩, ⟨by repeat (with_reducible first | exact HB.out | apply bn_)⟩⟩
 case rest =>
 clear HC2
 obtain ⟨kq, x17_1, rfl, HA, HJ1, BK263, HB⟩ := hcut
 cases kq with
 | zero => exact absurd HA.out (by simp [grapevineref13_Check.j0])
 | succ kj1 =>
 have H := HA.out
 clear HA
 simp only [grapevineref13_Check.j0] at H
 by_cases c9 : x17_1 = true
 ·
  subst c9
  rw [if_pos rfl] at H
  obtain rfl := Option.some.inj H
  go_wp2
  go_ret
  exact ⟨by rfl, by repeat (with_reducible exact HB.out)⟩
 as_aux_lemma =>
 replace c9 := Bool.eq_false_iff.mpr c9
 subst c9
 rw [if_neg (show ¬ (false = true) by decide)] at H
 have HC10 := am_ H
 clear H
 go_upto_region 3 with (fail)
 go_cut [25] (fun v25 wc => ∃ (kq : Nat) (x25_9 : Bool), v25 = .bool x25_9 ∧ Aside0 (grapevineref13_Check.j1 kq x25_9 a0_0 a0_1 a0_2 a0_3 a0_4 a0_5 l0_6 l0_7 = some r) ∧ Aside0 (kq ≤ kj1) ∧ Aside0 (wc.heap[gb263]? = some (.cells #[.int .i64 a0_0, .int .i64 a0_1, .int .i64 a0_2, .int .i64 a0_3, .int .i64 a0_4, .int .i64 a0_5, (.slice A0_6 l0_6.length c0_6), (.slice A0_7 l0_7.length c0_7)] 37 (0, 0))) ∧ Aside0 (Below w.heap.size w wc))
 case first =>
  have H := HC10.out
  clear HC10
  by_cases c11 : a0_1 < 0
  ·
   rw [if_pos c11] at H
   have c11b0 : decide (a0_1 < 0) = true := decide_eq_true c11
   clear c11
   (first | rw [c11b0] | (simp only [i64_w, i32_w]; rw [c11b0]) | skip)
   have H' := am_ H
   clear H
   obtain ⟨hcz12_0, hcz12_1, hcz12_2, hcz12_3, hcz12_4, hcz12_5, hcz12_6, hcz12_7, hfz12_0, hfz12_1, hfz12_2, hfz12_3, hfz12_4, hfz12_5, hfz12_6, hfz12_7⟩ := cz8 BK263.out
   go_wp2
   go_meet
   case rel => exact ⟨_, (true), (by rfl), H', ⟨by have := HJ1.out; omega⟩, ⟨by exact BK263.out⟩, ⟨by repeat (with_reducible exact HB.out)⟩⟩
  rw [if_neg c11] at H
  have c11b0 : decide (a0_1 < 0) = false := decide_eq_false c11
  clear c11
  (first | rw [c11b0] | (simp only [i64_w, i32_w]; rw [c11b0]) | skip)
  have H' := am_ H
  clear H
  obtain ⟨hcz13_0, hcz13_1, hcz13_2, hcz13_3, hcz13_4, hcz13_5, hcz13_6, hcz13_7, hfz13_0, hfz13_1, hfz13_2, hfz13_3, hfz13_4, hfz13_5, hfz13_6, hfz13_7⟩ := cz8 BK263.out
  go_wp2
  go_meet
  case rel => exact ⟨_, (decide (a0_1 > 2)), (by rfl), H', ⟨by have := HJ1.out; omega⟩, ⟨by exact BK263.out⟩, ⟨by repeat (with_reducible exact HB.out)⟩⟩
 case rest =>
 clear HC10
 try clear hcz12_0
 try clear hcz12_1
 try clear hcz12_2
 try clear hcz12_3
 try clear hcz12_4
 try clear hcz12_5
 try clear hcz12_6
 try clear hcz12_7
 try clear hfz12_0
 try clear hfz12_1
 try clear hfz12_2
 try clear hfz12_3
 try clear hfz12_4
 try clear hfz12_5
 try clear hfz12_6
 try clear hfz12_7
 obtain ⟨kq, x25_9, rfl, HA, HJ9, BK263, HB⟩ := hcut
 cases kq with
 | zero => exact absurd HA.out (by simp [grapevineref13_Check.j1])
 | succ kj9 =>
 have H := HA.out
 clear HA
 simp only [grapevineref13_Check.j1] at H
 by_cases c14 : x25_9 = true
 ·
  subst c14
  rw [if_pos rfl] at H
  obtain rfl := Option.some.inj H
  go_wp2
  go_ret
  exact ⟨by rfl, by repeat (with_reducible exact HB.out)⟩
 as_aux_lemma =>
 replace c14 := Bool.eq_false_iff.mpr c14
 subst c14
 rw [if_neg (show ¬ (false = true) by decide)] at H
 have HC15 := am_ H
 clear H
 go_upto_region 5 with (fail)
 go_cut [48] (fun v48 wc => ∃ (kq : Nat) (x48_14 : Bool), v48 = .bool x48_14 ∧ Aside0 (grapevineref13_Check.j2 kq x48_14 a0_0 a0_1 a0_2 a0_3 a0_4 a0_5 l0_6 l0_7 = some r) ∧ Aside0 (kq ≤ kj9) ∧ Aside0 (wc.heap[gb263]? = some (.cells #[.int .i64 a0_0, .int .i64 a0_1, .int .i64 a0_2, .int .i64 a0_3, .int .i64 a0_4, .int .i64 a0_5, (.slice A0_6 l0_6.length c0_6), (.slice A0_7 l0_7.length c0_7)] 37 (0, 0))) ∧ Aside0 (Below w.heap.size w wc))
 case first =>
  have H := HC15.out
  clear HC15
  replace H := Option.bind_eq_some_iff.mp H
  obtain ⟨t266, A160, H⟩ := H
  try dsimp only at H
  have A16 := am_ A160
  clear A160
  by_cases c17 : t266 = true
  ·
   subst c17
   rw [if_pos rfl] at H
   by_cases c18 : a0_2 < 1
   ·
    rw [if_pos c18] at H
    have c18b0 : decide (a0_2 < 1) = true := decide_eq_true c18
    clear c18
    (skip)
    have H' := am_ H
    clear H
    obtain ⟨hcz19_0, hcz19_1, hcz19_2, hcz19_3, hcz19_4, hcz19_5, hcz19_6, hcz19_7, hfz19_0, hfz19_1, hfz19_2, hfz19_3, hfz19_4, hfz19_5, hfz19_6, hfz19_7⟩ := cz8 BK263.out
    go_wp2_with (((with_reducible refine gate_callee (f := 24) rfl ?_); refine gL (some 28) Tryd.func24 #[.int .i64 a0_0] ?_; (with_reducible refine (grapevineref13_named.calls a0_0 true _ A16.out).mono ?_); rintro e w' ⟨rfl, ⟨nd, rfl⟩⟩; refine ⟨_, rfl, ?_⟩))
    go_meet
    case rel => exact ⟨_, (true), (by rfl), H', ⟨by have := HJ1.out; have := HJ9.out; omega⟩, ⟨by (with_reducible repeat (refine kn_ ?_ _)); exact BK263.out⟩, ⟨by repeat (with_reducible first | exact HB.out | apply bn_)⟩⟩
   rw [if_neg c18] at H
   have c18b0 : decide (a0_2 < 1) = false := decide_eq_false c18
   clear c18
   (skip)
   by_cases c20 : a0_2 > 32
   ·
    rw [if_pos c20] at H
    have c20b0 : decide (32 < a0_2) = true := decide_eq_true c20
    clear c20
    have H' := am_ H
    clear H
    obtain ⟨hcz21_0, hcz21_1, hcz21_2, hcz21_3, hcz21_4, hcz21_5, hcz21_6, hcz21_7, hfz21_0, hfz21_1, hfz21_2, hfz21_3, hfz21_4, hfz21_5, hfz21_6, hfz21_7⟩ := cz8 BK263.out
    go_wp2_with (((with_reducible refine gate_callee (f := 24) rfl ?_); refine gL (some 28) Tryd.func24 #[.int .i64 a0_0] ?_; (with_reducible refine (grapevineref13_named.calls a0_0 true _ A16.out).mono ?_); rintro e w' ⟨rfl, ⟨nd, rfl⟩⟩; refine ⟨_, rfl, ?_⟩))
    go_meet
    case rel => exact ⟨_, (true), (by rfl), H', ⟨by have := HJ1.out; have := HJ9.out; omega⟩, ⟨by (with_reducible repeat (refine kn_ ?_ _)); exact BK263.out⟩, ⟨by repeat (with_reducible first | exact HB.out | apply bn_)⟩⟩
   rw [if_neg c20] at H
   have c20b0 : decide (32 < a0_2) = false := decide_eq_false c20
   clear c20
   by_cases c22 : a0_3 < 1
   ·
    rw [if_pos c22] at H
    have c22b0 : decide (a0_3 < 1) = true := decide_eq_true c22
    clear c22
    have H' := am_ H
    clear H
    obtain ⟨hcz23_0, hcz23_1, hcz23_2, hcz23_3, hcz23_4, hcz23_5, hcz23_6, hcz23_7, hfz23_0, hfz23_1, hfz23_2, hfz23_3, hfz23_4, hfz23_5, hfz23_6, hfz23_7⟩ := cz8 BK263.out
    go_wp2_with (((with_reducible refine gate_callee (f := 24) rfl ?_); refine gL (some 28) Tryd.func24 #[.int .i64 a0_0] ?_; (with_reducible refine (grapevineref13_named.calls a0_0 true _ A16.out).mono ?_); rintro e w' ⟨rfl, ⟨nd, rfl⟩⟩; refine ⟨_, rfl, ?_⟩))
    go_meet
    case rel => exact ⟨_, (true), (by rfl), H', ⟨by have := HJ1.out; have := HJ9.out; omega⟩, ⟨by (with_reducible repeat (refine kn_ ?_ _)); exact BK263.out⟩, ⟨by repeat (with_reducible first | exact HB.out | apply bn_)⟩⟩
   rw [if_neg c22] at H
   have c22b0 : decide (a0_3 < 1) = false := decide_eq_false c22
   clear c22
   have H' := am_ H
   clear H
   obtain ⟨hcz24_0, hcz24_1, hcz24_2, hcz24_3, hcz24_4, hcz24_5, hcz24_6, hcz24_7, hfz24_0, hfz24_1, hfz24_2, hfz24_3, hfz24_4, hfz24_5, hfz24_6, hfz24_7⟩ := cz8 BK263.out
   go_wp2_with (((with_reducible refine gate_callee (f := 24) rfl ?_); refine gL (some 28) Tryd.func24 #[.int .i64 a0_0] ?_; (with_reducible refine (grapevineref13_named.calls a0_0 true _ A16.out).mono ?_); rintro e w' ⟨rfl, ⟨nd, rfl⟩⟩; refine ⟨_, rfl, ?_⟩))
   go_meet
   case rel => exact ⟨_, (decide (a0_3 > 1073741824)), (by rfl), H', ⟨by have := HJ1.out; have := HJ9.out; omega⟩, ⟨by (with_reducible repeat (refine kn_ ?_ _)); exact BK263.out⟩, ⟨by repeat (with_reducible first | exact HB.out | apply bn_)⟩⟩
  as_aux_lemma =>
  replace c17 := Bool.eq_false_iff.mpr c17
  subst c17
  rw [if_neg (show ¬ (false = true) by decide)] at H
  have H' := am_ H
  clear H
  obtain ⟨hcz25_0, hcz25_1, hcz25_2, hcz25_3, hcz25_4, hcz25_5, hcz25_6, hcz25_7, hfz25_0, hfz25_1, hfz25_2, hfz25_3, hfz25_4, hfz25_5, hfz25_6, hfz25_7⟩ := cz8 BK263.out
  go_wp2_with (((with_reducible refine gate_callee (f := 24) rfl ?_); refine gL (some 28) Tryd.func24 #[.int .i64 a0_0] ?_; (with_reducible refine (grapevineref13_named.calls a0_0 false _ A16.out).mono ?_); rintro e w' ⟨rfl, ⟨nd, rfl⟩⟩; refine ⟨_, rfl, ?_⟩))
  go_meet
  case rel => exact ⟨_, (false), (by rfl), H', ⟨by have := HJ1.out; have := HJ9.out; omega⟩, ⟨by (with_reducible repeat (refine kn_ ?_ _)); exact BK263.out⟩, ⟨by repeat (with_reducible first | exact HB.out | apply bn_)⟩⟩
 case rest =>
 clear HC15
 try clear hcz12_0
 try clear hcz12_1
 try clear hcz12_2
 try clear hcz12_3
 try clear hcz12_4
 try clear hcz12_5
 try clear hcz12_6
 try clear hcz12_7
 try clear hcz21_0
 try clear hcz21_1
 try clear hcz21_2
 try clear hcz21_3
 try clear hcz21_4
 try clear hcz21_5
 try clear hcz21_6
 try clear hcz21_7
 try clear hcz23_0
 try clear hcz23_1
 try clear hcz23_2
 try clear hcz23_3
 try clear hcz23_4
 try clear hcz23_5
 try clear hcz23_6
 try clear hcz23_7
 try clear hfz12_0
 try clear hfz12_1
 try clear hfz12_2
 try clear hfz12_3
 try clear hfz12_4
 try clear hfz12_5
 try clear hfz12_6
 try clear hfz12_7
 try clear hfz21_0
 try clear hfz21_1
 try clear hfz21_2
 try clear hfz21_3
 try clear hfz21_4
 try clear hfz21_5
 try clear hfz21_6
 try clear hfz21_7
 try clear hfz23_0
 try clear hfz23_1
 try clear hfz23_2
 try clear hfz23_3
 try clear hfz23_4
 try clear hfz23_5
 try clear hfz23_6
 try clear hfz23_7
 obtain ⟨kq, x48_14, rfl, HA, HJ14, BK263, HB⟩ := hcut
 cases kq with
 | zero => exact absurd HA.out (by simp [grapevineref13_Check.j2])
 | succ kj14 =>
 have H := HA.out
 clear HA
 simp only [grapevineref13_Check.j2] at H
 by_cases c26 : x48_14 = true
 ·
  subst c26
  rw [if_pos rfl] at H
  obtain rfl := Option.some.inj H
  go_wp2
  go_ret
  exact ⟨by rfl, by repeat (with_reducible exact HB.out)⟩
 as_aux_lemma =>
 replace c26 := Bool.eq_false_iff.mpr c26
 subst c26
 rw [if_neg (show ¬ (false = true) by decide)] at H
 have HC27 := am_ H
 clear H
 go_upto_region 7 with (fail)
 go_cut [68] (fun v68 wc => ∃ (kq : Nat) (x68_26 : Bool), v68 = .bool x68_26 ∧ Aside0 (grapevineref13_Check.j3 kq x68_26 a0_0 a0_1 a0_2 a0_3 a0_4 a0_5 l0_6 l0_7 = some r) ∧ Aside0 (kq ≤ kj14) ∧ Aside0 (wc.heap[gb263]? = some (.cells #[.int .i64 a0_0, .int .i64 a0_1, .int .i64 a0_2, .int .i64 a0_3, .int .i64 a0_4, .int .i64 a0_5, (.slice A0_6 l0_6.length c0_6), (.slice A0_7 l0_7.length c0_7)] 37 (0, 0))) ∧ Aside0 (Below w.heap.size w wc))
 case first =>
  have H := HC27.out
  clear HC27
  replace H := Option.bind_eq_some_iff.mp H
  obtain ⟨t267, A280, H⟩ := H
  try dsimp only at H
  have A28 := am_ A280
  clear A280
  by_cases c29 : t267 = true
  ·
   subst c29
   rw [if_pos rfl] at H
   by_cases c30 : a0_4 < 1
   ·
    rw [if_pos c30] at H
    have c30b0 : decide (a0_4 < 1) = true := decide_eq_true c30
    clear c30
    (skip)
    have H' := am_ H
    clear H
    obtain ⟨hcz31_0, hcz31_1, hcz31_2, hcz31_3, hcz31_4, hcz31_5, hcz31_6, hcz31_7, hfz31_0, hfz31_1, hfz31_2, hfz31_3, hfz31_4, hfz31_5, hfz31_6, hfz31_7⟩ := cz8 BK263.out
    go_wp2_with (((with_reducible refine gate_callee (f := 23) rfl ?_); refine gL (some 51) Tryd.func23 #[.int .i64 a0_0] ?_; (with_reducible refine (grapevineref13_ranged.calls a0_0 true _ A28.out).mono ?_); rintro e w' ⟨rfl, ⟨nd, rfl⟩⟩; refine ⟨_, rfl, ?_⟩))
    go_meet
    case rel => exact ⟨_, (true), (by rfl), H', ⟨by have := HJ1.out; have := HJ9.out; have := HJ14.out; omega⟩, ⟨by (with_reducible repeat (refine kn_ ?_ _)); exact BK263.out⟩, ⟨by repeat (with_reducible first | exact HB.out | apply bn_)⟩⟩
   rw [if_neg c30] at H
   have c30b0 : decide (a0_4 < 1) = false := decide_eq_false c30
   clear c30
   (skip)
   by_cases c32 : a0_5 < a0_4
   ·
    rw [if_pos c32] at H
    have c32b0 : decide (a0_5 < a0_4) = true := decide_eq_true c32
    clear c32
    have H' := am_ H
    clear H
    obtain ⟨hcz33_0, hcz33_1, hcz33_2, hcz33_3, hcz33_4, hcz33_5, hcz33_6, hcz33_7, hfz33_0, hfz33_1, hfz33_2, hfz33_3, hfz33_4, hfz33_5, hfz33_6, hfz33_7⟩ := cz8 BK263.out
    go_wp2_with (((with_reducible refine gate_callee (f := 23) rfl ?_); refine gL (some 51) Tryd.func23 #[.int .i64 a0_0] ?_; (with_reducible refine (grapevineref13_ranged.calls a0_0 true _ A28.out).mono ?_); rintro e w' ⟨rfl, ⟨nd, rfl⟩⟩; refine ⟨_, rfl, ?_⟩))
    go_meet
    case rel => exact ⟨_, (true), (by rfl), H', ⟨by have := HJ1.out; have := HJ9.out; have := HJ14.out; omega⟩, ⟨by (with_reducible repeat (refine kn_ ?_ _)); exact BK263.out⟩, ⟨by repeat (with_reducible first | exact HB.out | apply bn_)⟩⟩
   rw [if_neg c32] at H
   have c32b0 : decide (a0_5 < a0_4) = false := decide_eq_false c32
   clear c32
   have H' := am_ H
   clear H
   obtain ⟨hcz34_0, hcz34_1, hcz34_2, hcz34_3, hcz34_4, hcz34_5, hcz34_6, hcz34_7, hfz34_0, hfz34_1, hfz34_2, hfz34_3, hfz34_4, hfz34_5, hfz34_6, hfz34_7⟩ := cz8 BK263.out
   go_wp2_with (((with_reducible refine gate_callee (f := 23) rfl ?_); refine gL (some 51) Tryd.func23 #[.int .i64 a0_0] ?_; (with_reducible refine (grapevineref13_ranged.calls a0_0 true _ A28.out).mono ?_); rintro e w' ⟨rfl, ⟨nd, rfl⟩⟩; refine ⟨_, rfl, ?_⟩))
   go_meet
   case rel => exact ⟨_, (decide (a0_5 > 1099511627776)), (by rfl), H', ⟨by have := HJ1.out; have := HJ9.out; have := HJ14.out; omega⟩, ⟨by (with_reducible repeat (refine kn_ ?_ _)); exact BK263.out⟩, ⟨by repeat (with_reducible first | exact HB.out | apply bn_)⟩⟩
  as_aux_lemma =>
  replace c29 := Bool.eq_false_iff.mpr c29
  subst c29
  rw [if_neg (show ¬ (false = true) by decide)] at H
  have H' := am_ H
  clear H
  obtain ⟨hcz35_0, hcz35_1, hcz35_2, hcz35_3, hcz35_4, hcz35_5, hcz35_6, hcz35_7, hfz35_0, hfz35_1, hfz35_2, hfz35_3, hfz35_4, hfz35_5, hfz35_6, hfz35_7⟩ := cz8 BK263.out
  go_wp2_with (((with_reducible refine gate_callee (f := 23) rfl ?_); refine gL (some 51) Tryd.func23 #[.int .i64 a0_0] ?_; (with_reducible refine (grapevineref13_ranged.calls a0_0 false _ A28.out).mono ?_); rintro e w' ⟨rfl, ⟨nd, rfl⟩⟩; refine ⟨_, rfl, ?_⟩))
  go_meet
  case rel => exact ⟨_, (false), (by rfl), H', ⟨by have := HJ1.out; have := HJ9.out; have := HJ14.out; omega⟩, ⟨by (with_reducible repeat (refine kn_ ?_ _)); exact BK263.out⟩, ⟨by repeat (with_reducible first | exact HB.out | apply bn_)⟩⟩
 case rest =>
 clear HC27
 try clear hcz12_0
 try clear hcz12_1
 try clear hcz12_2
 try clear hcz12_3
 try clear hcz12_4
 try clear hcz12_5
 try clear hcz12_6
 try clear hcz12_7
 try clear hcz21_0
 try clear hcz21_1
 try clear hcz21_2
 try clear hcz21_3
 try clear hcz21_4
 try clear hcz21_5
 try clear hcz21_6
 try clear hcz21_7
 try clear hcz23_0
 try clear hcz23_1
 try clear hcz23_2
 try clear hcz23_3
 try clear hcz23_4
 try clear hcz23_5
 try clear hcz23_6
 try clear hcz23_7
 try clear hcz34_0
 try clear hcz34_1
 try clear hcz34_2
 try clear hcz34_3
 try clear hcz34_4
 try clear hcz34_5
 try clear hcz34_6
 try clear hcz34_7
 try clear hfz12_0
 try clear hfz12_1
 try clear hfz12_2
 try clear hfz12_3
 try clear hfz12_4
 try clear hfz12_5
 try clear hfz12_6
 try clear hfz12_7
 try clear hfz21_0
 try clear hfz21_1
 try clear hfz21_2
 try clear hfz21_3
 try clear hfz21_4
 try clear hfz21_5
 try clear hfz21_6
 try clear hfz21_7
 try clear hfz23_0
 try clear hfz23_1
 try clear hfz23_2
 try clear hfz23_3
 try clear hfz23_4
 try clear hfz23_5
 try clear hfz23_6
 try clear hfz23_7
 try clear hfz34_0
 try clear hfz34_1
 try clear hfz34_2
 try clear hfz34_3
 try clear hfz34_4
 try clear hfz34_5
 try clear hfz34_6
 try clear hfz34_7
 obtain ⟨kq, x68_26, rfl, HA, HJ26, BK263, HB⟩ := hcut
 cases kq with
 | zero => exact absurd HA.out (by simp [grapevineref13_Check.j3])
 | succ kj26 =>
 have H := HA.out
 clear HA
 simp only [grapevineref13_Check.j3] at H
 by_cases c36 : x68_26 = true
 ·
  subst c36
  rw [if_pos rfl] at H
  obtain rfl := Option.some.inj H
  go_wp2
  go_ret
  exact ⟨by rfl, by repeat (with_reducible exact HB.out)⟩
 as_aux_lemma =>
 replace c36 := Bool.eq_false_iff.mpr c36
 subst c36
 rw [if_neg (show ¬ (false = true) by decide)] at H
 have HC37 := am_ H
 clear H
 go_upto_region 9 with (fail)
 go_cut [86] (fun v86 wc => ∃ (kq : Nat) (x86_36 : Bool), v86 = .bool x86_36 ∧ Aside0 (grapevineref13_Check.j4 kq x86_36 a0_0 a0_1 a0_2 a0_3 a0_4 a0_5 l0_6 l0_7 = some r) ∧ Aside0 (kq ≤ kj26) ∧ Aside0 (wc.heap[gb263]? = some (.cells #[.int .i64 a0_0, .int .i64 a0_1, .int .i64 a0_2, .int .i64 a0_3, .int .i64 a0_4, .int .i64 a0_5, (.slice A0_6 l0_6.length c0_6), (.slice A0_7 l0_7.length c0_7)] 37 (0, 0))) ∧ Aside0 (Below w.heap.size w wc))
 case first =>
  have H := HC37.out
  clear HC37
  replace H := Option.bind_eq_some_iff.mp H
  obtain ⟨t268, A380, H⟩ := H
  try dsimp only at H
  have A38 := am_ A380
  clear A380
  by_cases c39 : t268 = true
  ·
   subst c39
   rw [if_pos rfl] at H
   replace H := Option.bind_eq_some_iff.mp H
   obtain ⟨t269, A400, H⟩ := H
   try dsimp only at H
   have A40 := am_ A400
   clear A400
   by_cases c41 : t269 = true
   ·
    subst c41
    rw [if_pos rfl] at H
    by_cases c42 : a0_4 < 0
    ·
     rw [if_pos c42] at H
     have c42b0 : decide (a0_4 < 0) = true := decide_eq_true c42
     clear c42
     (skip)
     have H' := am_ H
     clear H
     obtain ⟨hcz43_0, hcz43_1, hcz43_2, hcz43_3, hcz43_4, hcz43_5, hcz43_6, hcz43_7, hfz43_0, hfz43_1, hfz43_2, hfz43_3, hfz43_4, hfz43_5, hfz43_6, hfz43_7⟩ := cz8 BK263.out
     go_wp2_with (first | ((with_reducible refine gate_callee (f := 24) rfl ?_); refine gL (some 71) Tryd.func24 #[.int .i64 a0_0] ?_; (with_reducible refine (grapevineref13_named.calls a0_0 true _ A38.out).mono ?_); rintro e w' ⟨rfl, ⟨nd, rfl⟩⟩; refine ⟨_, rfl, ?_⟩) | (go_at_call 25; (with_reducible refine (grapevineref13_from.calls a0_0 true _ A40.out).mono ?_); rintro e w' ⟨rfl, ⟨nd, rfl⟩⟩))
     go_meet
     case rel => exact ⟨_, (true), (by rfl), H', ⟨by have := HJ1.out; have := HJ9.out; have := HJ14.out; have := HJ26.out; omega⟩, ⟨by (with_reducible repeat (refine kn_ ?_ _)); exact BK263.out⟩, ⟨by repeat (with_reducible first | exact HB.out | apply bn_)⟩⟩
    rw [if_neg c42] at H
    have c42b0 : decide (a0_4 < 0) = false := decide_eq_false c42
    clear c42
    (skip)
    have H' := am_ H
    clear H
    obtain ⟨hcz44_0, hcz44_1, hcz44_2, hcz44_3, hcz44_4, hcz44_5, hcz44_6, hcz44_7, hfz44_0, hfz44_1, hfz44_2, hfz44_3, hfz44_4, hfz44_5, hfz44_6, hfz44_7⟩ := cz8 BK263.out
    go_wp2_with (first | ((with_reducible refine gate_callee (f := 24) rfl ?_); refine gL (some 71) Tryd.func24 #[.int .i64 a0_0] ?_; (with_reducible refine (grapevineref13_named.calls a0_0 true _ A38.out).mono ?_); rintro e w' ⟨rfl, ⟨nd, rfl⟩⟩; refine ⟨_, rfl, ?_⟩) | (go_at_call 25; (with_reducible refine (grapevineref13_from.calls a0_0 true _ A40.out).mono ?_); rintro e w' ⟨rfl, ⟨nd, rfl⟩⟩))
    go_meet
    case rel => exact ⟨_, (decide (a0_4 > 1099511627776)), (by rfl), H', ⟨by have := HJ1.out; have := HJ9.out; have := HJ14.out; have := HJ26.out; omega⟩, ⟨by (with_reducible repeat (refine kn_ ?_ _)); exact BK263.out⟩, ⟨by repeat (with_reducible first | exact HB.out | apply bn_)⟩⟩
   as_aux_lemma =>
   replace c41 := Bool.eq_false_iff.mpr c41
   subst c41
   rw [if_neg (show ¬ (false = true) by decide)] at H
   have H' := am_ H
   clear H
   obtain ⟨hcz45_0, hcz45_1, hcz45_2, hcz45_3, hcz45_4, hcz45_5, hcz45_6, hcz45_7, hfz45_0, hfz45_1, hfz45_2, hfz45_3, hfz45_4, hfz45_5, hfz45_6, hfz45_7⟩ := cz8 BK263.out
   go_wp2_with (first | ((with_reducible refine gate_callee (f := 24) rfl ?_); refine gL (some 71) Tryd.func24 #[.int .i64 a0_0] ?_; (with_reducible refine (grapevineref13_named.calls a0_0 true _ A38.out).mono ?_); rintro e w' ⟨rfl, ⟨nd, rfl⟩⟩; refine ⟨_, rfl, ?_⟩) | (go_at_call 25; (with_reducible refine (grapevineref13_from.calls a0_0 false _ A40.out).mono ?_); rintro e w' ⟨rfl, ⟨nd, rfl⟩⟩))
   go_meet
   case rel => exact ⟨_, (false), (by rfl), H', ⟨by have := HJ1.out; have := HJ9.out; have := HJ14.out; have := HJ26.out; omega⟩, ⟨by (with_reducible repeat (refine kn_ ?_ _)); exact BK263.out⟩, ⟨by repeat (with_reducible first | exact HB.out | apply bn_)⟩⟩
  as_aux_lemma =>
  replace c39 := Bool.eq_false_iff.mpr c39
  subst c39
  rw [if_neg (show ¬ (false = true) by decide)] at H
  have H' := am_ H
  clear H
  obtain ⟨hcz46_0, hcz46_1, hcz46_2, hcz46_3, hcz46_4, hcz46_5, hcz46_6, hcz46_7, hfz46_0, hfz46_1, hfz46_2, hfz46_3, hfz46_4, hfz46_5, hfz46_6, hfz46_7⟩ := cz8 BK263.out
  go_wp2_with (((with_reducible refine gate_callee (f := 24) rfl ?_); refine gL (some 71) Tryd.func24 #[.int .i64 a0_0] ?_; (with_reducible refine (grapevineref13_named.calls a0_0 false _ A38.out).mono ?_); rintro e w' ⟨rfl, ⟨nd, rfl⟩⟩; refine ⟨_, rfl, ?_⟩))
  go_meet
  case rel => exact ⟨_, (false), (by rfl), H', ⟨by have := HJ1.out; have := HJ9.out; have := HJ14.out; have := HJ26.out; omega⟩, ⟨by (with_reducible repeat (refine kn_ ?_ _)); exact BK263.out⟩, ⟨by repeat (with_reducible first | exact HB.out | apply bn_)⟩⟩
 case rest =>
 clear HC37
 try clear hcz12_0
 try clear hcz12_1
 try clear hcz12_2
 try clear hcz12_3
 try clear hcz12_4
 try clear hcz12_5
 try clear hcz12_6
 try clear hcz12_7
 try clear hcz21_0
 try clear hcz21_1
 try clear hcz21_2
 try clear hcz21_3
 try clear hcz21_4
 try clear hcz21_5
 try clear hcz21_6
 try clear hcz21_7
 try clear hcz23_0
 try clear hcz23_1
 try clear hcz23_2
 try clear hcz23_3
 try clear hcz23_4
 try clear hcz23_5
 try clear hcz23_6
 try clear hcz23_7
 try clear hcz34_0
 try clear hcz34_1
 try clear hcz34_2
 try clear hcz34_3
 try clear hcz34_4
 try clear hcz34_5
 try clear hcz34_6
 try clear hcz34_7
 try clear hcz44_0
 try clear hcz44_1
 try clear hcz44_2
 try clear hcz44_3
 try clear hcz44_4
 try clear hcz44_5
 try clear hcz44_6
 try clear hcz44_7
 try clear hcz45_0
 try clear hcz45_1
 try clear hcz45_2
 try clear hcz45_3
 try clear hcz45_4
 try clear hcz45_5
 try clear hcz45_6
 try clear hcz45_7
 try clear hfz12_0
 try clear hfz12_1
 try clear hfz12_2
 try clear hfz12_3
 try clear hfz12_4
 try clear hfz12_5
 try clear hfz12_6
 try clear hfz12_7
 try clear hfz21_0
 try clear hfz21_1
 try clear hfz21_2
 try clear hfz21_3
 try clear hfz21_4
 try clear hfz21_5
 try clear hfz21_6
 try clear hfz21_7
 try clear hfz23_0
 try clear hfz23_1
 try clear hfz23_2
 try clear hfz23_3
 try clear hfz23_4
 try clear hfz23_5
 try clear hfz23_6
 try clear hfz23_7
 try clear hfz34_0
 try clear hfz34_1
 try clear hfz34_2
 try clear hfz34_3
 try clear hfz34_4
 try clear hfz34_5
 try clear hfz34_6
 try clear hfz34_7
 try clear hfz44_0
 try clear hfz44_1
 try clear hfz44_2
 try clear hfz44_3
 try clear hfz44_4
 try clear hfz44_5
 try clear hfz44_6
 try clear hfz44_7
 try clear hfz45_0
 try clear hfz45_1
 try clear hfz45_2
 try clear hfz45_3
 try clear hfz45_4
 try clear hfz45_5
 try clear hfz45_6
 try clear hfz45_7
 obtain ⟨kq, x86_36, rfl, HA, HJ36, BK263, HB⟩ := hcut
 cases kq with
 | zero => exact absurd HA.out (by simp [grapevineref13_Check.j4])
 | succ kj36 =>
 have H := HA.out
 clear HA
 simp only [grapevineref13_Check.j4] at H
 by_cases c47 : x86_36 = true
 ·
  subst c47
  rw [if_pos rfl] at H
  obtain rfl := Option.some.inj H
  go_wp2
  go_ret
  exact ⟨by rfl, by repeat (with_reducible exact HB.out)⟩
 as_aux_lemma =>
 replace c47 := Bool.eq_false_iff.mpr c47
 subst c47
 rw [if_neg (show ¬ (false = true) by decide)] at H
 by_cases c48 : a0_0 = 1
 ·
  rw [if_pos c48] at H
  have c48b0 : (a0_0 == 1) = true := beq_iff_eq.mpr c48
  have c48b1 : (a0_0 != 1) = false := bne_eq_false_iff_eq.mpr c48
  clear c48
  have HC49 := am_ H
  clear H
  obtain ⟨hcz50_0, hcz50_1, hcz50_2, hcz50_3, hcz50_4, hcz50_5, hcz50_6, hcz50_7, hfz50_0, hfz50_1, hfz50_2, hfz50_3, hfz50_4, hfz50_5, hfz50_6, hfz50_7⟩ := cz8 BK263.out
  go_upto_region 13 with (fail)
  go_cut [99] (fun v99 wc => ∃ (kq : Nat) (x99_48 : Bool), v99 = .bool x99_48 ∧ Aside0 (grapevineref13_Check.j5 kq x99_48 a0_0 a0_1 a0_2 a0_3 a0_4 a0_5 l0_6 l0_7 = some r) ∧ Aside0 (kq ≤ kj36) ∧ Aside0 (wc.heap[gb263]? = some (.cells #[.int .i64 a0_0, .int .i64 a0_1, .int .i64 a0_2, .int .i64 a0_3, .int .i64 a0_4, .int .i64 a0_5, (.slice A0_6 l0_6.length c0_6), (.slice A0_7 l0_7.length c0_7)] 37 (0, 0))) ∧ Aside0 (Below w.heap.size w wc))
  case first =>
   have H := HC49.out
   clear HC49
   by_cases c51 : (l0_6.length : Int) > 32
   ·
    rw [if_pos c51] at H
    have c51b0 : decide (32 < (l0_6.length : Int)) = true := decide_eq_true c51
    have c51b1 : decide (32 < l0_6.length) = true := decide_eq_true (by omega)
    clear c51
    (skip)
    have H' := am_ H
    clear H
    obtain ⟨hcz52_0, hcz52_1, hcz52_2, hcz52_3, hcz52_4, hcz52_5, hcz52_6, hcz52_7, hfz52_0, hfz52_1, hfz52_2, hfz52_3, hfz52_4, hfz52_5, hfz52_6, hfz52_7⟩ := cz8 BK263.out
    go_wp2
    go_meet
    case rel => exact ⟨_, (true), (by rfl), H', ⟨by have := HJ1.out; have := HJ9.out; have := HJ14.out; have := HJ26.out; have := HJ36.out; omega⟩, ⟨by exact BK263.out⟩, ⟨by repeat (with_reducible exact HB.out)⟩⟩
   rw [if_neg c51] at H
   have c51b0 : decide (32 < (l0_6.length : Int)) = false := decide_eq_false c51
   have c51b1 : decide (32 < l0_6.length) = false := decide_eq_false (by omega)
   clear c51
   (skip)
   have H' := am_ H
   clear H
   obtain ⟨hcz53_0, hcz53_1, hcz53_2, hcz53_3, hcz53_4, hcz53_5, hcz53_6, hcz53_7, hfz53_0, hfz53_1, hfz53_2, hfz53_3, hfz53_4, hfz53_5, hfz53_6, hfz53_7⟩ := cz8 BK263.out
   go_wp2
   go_meet
   case rel => exact ⟨_, (decide ((l0_7.length : Int) > 8)), (by rfl), H', ⟨by have := HJ1.out; have := HJ9.out; have := HJ14.out; have := HJ26.out; have := HJ36.out; omega⟩, ⟨by exact BK263.out⟩, ⟨by repeat (with_reducible exact HB.out)⟩⟩
  case rest =>
  clear HC49
  try clear c48b0
  try clear c48b1
  try clear hcz12_0
  try clear hcz12_1
  try clear hcz12_2
  try clear hcz12_3
  try clear hcz12_4
  try clear hcz12_5
  try clear hcz12_6
  try clear hcz12_7
  try clear hcz21_0
  try clear hcz21_1
  try clear hcz21_2
  try clear hcz21_3
  try clear hcz21_4
  try clear hcz21_5
  try clear hcz21_6
  try clear hcz21_7
  try clear hcz23_0
  try clear hcz23_1
  try clear hcz23_2
  try clear hcz23_3
  try clear hcz23_4
  try clear hcz23_5
  try clear hcz23_6
  try clear hcz23_7
  try clear hcz34_0
  try clear hcz34_1
  try clear hcz34_2
  try clear hcz34_3
  try clear hcz34_4
  try clear hcz34_5
  try clear hcz34_6
  try clear hcz34_7
  try clear hcz44_0
  try clear hcz44_1
  try clear hcz44_2
  try clear hcz44_3
  try clear hcz44_4
  try clear hcz44_5
  try clear hcz44_6
  try clear hcz44_7
  try clear hcz45_0
  try clear hcz45_1
  try clear hcz45_2
  try clear hcz45_3
  try clear hcz45_4
  try clear hcz45_5
  try clear hcz45_6
  try clear hcz45_7
  try clear hcz50_0
  try clear hcz50_1
  try clear hcz50_2
  try clear hcz50_3
  try clear hcz50_4
  try clear hcz50_5
  try clear hcz50_6
  try clear hcz50_7
  try clear hcz52_0
  try clear hcz52_1
  try clear hcz52_2
  try clear hfz12_0
  try clear hfz12_1
  try clear hfz12_2
  try clear hfz12_3
  try clear hfz12_4
  try clear hfz12_5
  try clear hfz12_6
  try clear hfz12_7
  try clear hfz21_0
  try clear hfz21_1
  try clear hfz21_2
  try clear hfz21_3
  try clear hfz21_4
  try clear hfz21_5
  try clear hfz21_6
  try clear hfz21_7
  try clear hfz23_0
  try clear hfz23_1
  try clear hfz23_2
  try clear hfz23_3
  try clear hfz23_4
  try clear hfz23_5
  try clear hfz23_6
  try clear hfz23_7
  try clear hfz34_0
  try clear hfz34_1
  try clear hfz34_2
  try clear hfz34_3
  try clear hfz34_4
  try clear hfz34_5
  try clear hfz34_6
  try clear hfz34_7
  try clear hfz44_0
  try clear hfz44_1
  try clear hfz44_2
  try clear hfz44_3
  try clear hfz44_4
  try clear hfz44_5
  try clear hfz44_6
  try clear hfz44_7
  try clear hfz45_0
  try clear hfz45_1
  try clear hfz45_2
  try clear hfz45_3
  try clear hfz45_4
  try clear hfz45_5
  try clear hfz45_6
  try clear hfz45_7
  try clear hfz50_0
  try clear hfz50_1
  try clear hfz50_2
  try clear hfz50_3
  try clear hfz50_4
  try clear hfz50_5
  try clear hfz50_6
  try clear hfz50_7
  try clear hfz52_0
  try clear hfz52_1
  try clear hfz52_2
  obtain ⟨kq, x99_48, rfl, HA, HJ48, BK263, HB⟩ := hcut
  cases kq with
  | zero => exact absurd HA.out (by simp [grapevineref13_Check.j5])
  | succ kj48 =>
  have H := HA.out
  clear HA
  simp only [grapevineref13_Check.j5] at H
  by_cases c54 : x99_48 = true
  ·
   subst c54
   rw [if_pos rfl] at H
   obtain rfl := Option.some.inj H
   go_wp2
   go_ret
   exact ⟨by rfl, by repeat (with_reducible exact HB.out)⟩
  as_aux_lemma =>
  replace c54 := Bool.eq_false_iff.mpr c54
  subst c54
  rw [if_neg (show ¬ (false = true) by decide)] at H
  replace H := Option.bind_eq_some_iff.mp H
  obtain ⟨t270, A550, H⟩ := H
  try dsimp only at H
  have A55 := am_ A550
  clear A550
  have H' := am_ H
  clear H
  obtain ⟨hcz56_0, hcz56_1, hcz56_2, hcz56_3, hcz56_4, hcz56_5, hcz56_6, hcz56_7, hfz56_0, hfz56_1, hfz56_2, hfz56_3, hfz56_4, hfz56_5, hfz56_6, hfz56_7⟩ := cz8 BK263.out
  go_wp2_with (((with_reducible refine gate_callee (f := 57) rfl ?_); refine gL (some 102) Tryd.func57 #[.slice A0_6 l0_6.length c0_6] ?_; (with_reducible refine (grapevineref08_Right.calls kj48 _ _ l0_6 t270 _ ?side1 ?side2 A55.out).mono ?_); (case side1 => repeat (exact (Kd.C_below HR0_6.out HB.out))); (case side2 => exact HC0_6.out); rintro e w' ⟨rfl, ⟨nd, rfl⟩⟩; refine ⟨_, rfl, ?_⟩))
  go_loopg [3, 4] kj48 (fun kq v3 v4 w' => ∃ (x3_7 : Bool) (x4_7 : Int), v3 = .bool x3_7 ∧ v4 = .int .i64 x4_7 ∧ Aside0 (grapevineref13_Check.l0 kq x3_7 x4_7 a0_0 a0_1 a0_2 a0_3 a0_4 a0_5 l0_6 l0_7 = some r) ∧ Aside0 (kq ≤ kj48) ∧ Aside0 (w'.heap[gb263]? = some (.cells #[.int .i64 a0_0, .int .i64 a0_1, .int .i64 a0_2, .int .i64 a0_3, .int .i64 a0_4, .int .i64 a0_5, (.slice A0_6 l0_6.length c0_6), (.slice A0_7 l0_7.length c0_7)] 37 (0, 0))) ∧ Aside0 (Below w.heap.size w w'))
  case atStart => exact ⟨(t270), (0), (by rfl), (by rfl), H', ⟨Nat.le_refl _⟩, ⟨by (with_reducible repeat (refine kn_ ?_ _)); exact BK263.out⟩, ⟨by repeat (with_reducible first | exact HB.out | apply bn_)⟩⟩
  case round =>
  as_aux_lemma =>
  clear H'
  try clear c48b0
  try clear c48b1
  try clear hcz12_0
  try clear hcz12_1
  try clear hcz12_2
  try clear hcz12_3
  try clear hcz12_4
  try clear hcz12_5
  try clear hcz12_6
  try clear hcz12_7
  try clear hcz21_0
  try clear hcz21_1
  try clear hcz21_2
  try clear hcz21_3
  try clear hcz21_4
  try clear hcz21_5
  try clear hcz21_6
  try clear hcz21_7
  try clear hcz23_0
  try clear hcz23_1
  try clear hcz23_2
  try clear hcz23_3
  try clear hcz23_4
  try clear hcz23_5
  try clear hcz23_6
  try clear hcz23_7
  try clear hcz34_0
  try clear hcz34_1
  try clear hcz34_2
  try clear hcz34_3
  try clear hcz34_4
  try clear hcz34_5
  try clear hcz34_6
  try clear hcz34_7
  try clear hcz44_0
  try clear hcz44_1
  try clear hcz44_2
  try clear hcz44_3
  try clear hcz44_4
  try clear hcz44_5
  try clear hcz44_6
  try clear hcz44_7
  try clear hcz45_0
  try clear hcz45_1
  try clear hcz45_2
  try clear hcz45_3
  try clear hcz45_4
  try clear hcz45_5
  try clear hcz45_6
  try clear hcz45_7
  try clear hcz50_0
  try clear hcz50_1
  try clear hcz50_2
  try clear hcz50_3
  try clear hcz50_4
  try clear hcz50_5
  try clear hcz50_6
  try clear hcz50_7
  try clear hcz52_0
  try clear hcz52_1
  try clear hcz52_2
  try clear hcz56_0
  try clear hcz56_1
  try clear hcz56_2
  try clear hcz56_3
  try clear hcz56_4
  try clear hcz56_5
  try clear hcz56_6
  try clear hcz56_7
  try clear hfz12_0
  try clear hfz12_1
  try clear hfz12_2
  try clear hfz12_3
  try clear hfz12_4
  try clear hfz12_5
  try clear hfz12_6
  try clear hfz12_7
  try clear hfz21_0
  try clear hfz21_1
  try clear hfz21_2
  try clear hfz21_3
  try clear hfz21_4
  try clear hfz21_5
  try clear hfz21_6
  try clear hfz21_7
  try clear hfz23_0
  try clear hfz23_1
  try clear hfz23_2
  try clear hfz23_3
  try clear hfz23_4
  try clear hfz23_5
  try clear hfz23_6
  try clear hfz23_7
  try clear hfz34_0
  try clear hfz34_1
  try clear hfz34_2
  try clear hfz34_3
  try clear hfz34_4
  try clear hfz34_5
  try clear hfz34_6
  try clear hfz34_7
  try clear hfz44_0
  try clear hfz44_1
  try clear hfz44_2
  try clear hfz44_3
  try clear hfz44_4
  try clear hfz44_5
  try clear hfz44_6
  try clear hfz44_7
  try clear hfz45_0
  try clear hfz45_1
  try clear hfz45_2
  try clear hfz45_3
  try clear hfz45_4
  try clear hfz45_5
  try clear hfz45_6
  try clear hfz45_7
  try clear hfz50_0
  try clear hfz50_1
  try clear hfz50_2
  try clear hfz50_3
  try clear hfz50_4
  try clear hfz50_5
  try clear hfz50_6
  try clear hfz50_7
  try clear hfz52_0
  try clear hfz52_1
  try clear hfz52_2
  try clear hfz56_0
  try clear hfz56_1
  try clear hfz56_2
  try clear hfz56_3
  try clear hfz56_4
  try clear hfz56_5
  try clear hfz56_6
  try clear hfz56_7
  obtain ⟨x3_7, x4_7, rfl, rfl, HA, HK7, BK263, HB⟩ := hrel
  cases gk with
  | zero => exact absurd HA.out (by simp [grapevineref13_Check.l0])
  | succ k7 =>
  have H := HA.out
  clear HA
  simp only [grapevineref13_Check.l0] at H
  by_cases c57 : x4_7 < (l0_6.length : Int)
  ·
   rw [if_pos c57] at H
   have c57b0 : decide (x4_7 < (l0_6.length : Int)) = true := decide_eq_true c57
   clear c57
   by_cases c58 : 0 ≤ x4_7
   ·
    rw [if_pos c58] at H
    have c58b0 : decide (0 ≤ x4_7) = true := decide_eq_true c58
    clear c58
    by_cases c59 : x3_7 = true
    ·
     subst c59
     rw [if_pos rfl] at H
     by_cases c60 : ((rd_T110 l0_6 x4_7).f2) = 2
     ·
      rw [if_pos c60] at H
      have c60b0 : (((rd_T110 l0_6 x4_7).f2) == 2) = true := beq_iff_eq.mpr c60
      have c60b1 : (((rd_T110 l0_6 x4_7).f2) != 2) = false := bne_eq_false_iff_eq.mpr c60
      clear c60
      by_cases c61 : ((rd_T110 l0_6 x4_7).f0) ≥ a0_4
      ·
       rw [if_pos c61] at H
       have c61b0 : decide (a0_4 ≤ ((rd_T110 l0_6 x4_7).f0)) = true := decide_eq_true c61
       clear c61
       have H' := am_ H
       clear H
       obtain ⟨hcz62_0, hcz62_1, hcz62_2, hcz62_3, hcz62_4, hcz62_5, hcz62_6, hcz62_7, hfz62_0, hfz62_1, hfz62_2, hfz62_3, hfz62_4, hfz62_5, hfz62_6, hfz62_7⟩ := cz8 BK263.out
       have p271 : 0 ≤ (x4_7 : Int) := of_decide_eq_true (by (with_reducible assumption))
       have q271 : x4_7 < (l0_6.length : Int) := of_decide_eq_true (by (with_reducible assumption))
       obtain ⟨ad271, e271, hx271_0, hx271_1, hx271_2⟩ := at_T110 HR0_6.out x4_7 p271 q271
       cases e271
       replace hx271_0 := (HB.out.cell (World.block_lt_of_cell? w _ hx271_0)).trans hx271_0
       replace hx271_1 := (HB.out.cell (World.block_lt_of_cell? w _ hx271_1)).trans hx271_1
       replace hx271_2 := (HB.out.cell (World.block_lt_of_cell? w _ hx271_2)).trans hx271_2
       replace p271 := eq_true p271
       replace q271 := eq_true q271
       go_wp2_with (((with_reducible refine gd_ (N := 5) rfl ?_); (try (refine gate_guard (by rfl) ?_; dsimp only)); refine bE 5 #[.int .i64 0, .int .i64 0, .int .i64 0] 110 ?_; intro gb272 hg w63 hbox hb; have n0_ := am_ (blk_below (g := gb263) (o := .cells #[.int .i64 a0_0, .int .i64 a0_1, .int .i64 a0_2, .int .i64 a0_3, .int .i64 a0_4, .int .i64 a0_5, .slice (some ad271) l0_6.length c0_6, .slice A0_7 l0_7.length c0_7] 37 (0, 0)) BK263.out hb); have n1_ := am_ (below_step HB.out hb); have n2_ := am_ (hbox); have n3_ := am_ ((by rw [hg]; exact (bz_ HB.out) : w.heap.size ≤ gb272)); have n4_ := am_ ((by rw [hg]; exact (bz_ HB.out) : w.heap.size ≤ gb272)); have n5_ := am_ ((by rw [hg]; exact Nat.ne_of_lt (blk_lt (g := gb263) (o := .cells #[.int .i64 a0_0, .int .i64 a0_1, .int .i64 a0_2, .int .i64 a0_3, .int .i64 a0_4, .int .i64 a0_5, .slice (some ad271) l0_6.length c0_6, .slice A0_7 l0_7.length c0_7] 37 (0, 0)) BK263.out) : gb263 ≠ gb272)); have n6_ := am_ ((by rw [hg]; exact Nat.ne_of_gt (blk_lt (g := gb263) (o := .cells #[.int .i64 a0_0, .int .i64 a0_1, .int .i64 a0_2, .int .i64 a0_3, .int .i64 a0_4, .int .i64 a0_5, .slice (some ad271) l0_6.length c0_6, .slice A0_7 l0_7.length c0_7] 37 (0, 0)) BK263.out) : gb272 ≠ gb263)); clear BK263; clear HB; have BK263 := n0_; have HB := n1_; have BK272 := n2_; have GW272 := n3_; have GE272 := n4_; have NB263_272 := n5_; have NB272_263 := n6_; clear n0_ n1_ n2_ n3_ n4_ n5_ n6_; clear hb hbox hg; have hnb64 := NB272_263.out; have hnc64 := NB263_272.out; obtain ⟨hcz65_0, hcz65_1, hcz65_2, hfz65_0, hfz65_1, hfz65_2⟩ := cz3 BK272.out; obtain ⟨hcz66_0, hcz66_1, hcz66_2, hcz66_3, hcz66_4, hcz66_5, hcz66_6, hcz66_7, hfz66_0, hfz66_1, hfz66_2, hfz66_3, hfz66_4, hfz66_5, hfz66_6, hfz66_7⟩ := cz8 BK263.out))
       go_roundg k7
       case measure => have := HJ1.out; have := HJ9.out; have := HJ14.out; have := HJ26.out; have := HJ36.out; have := HJ48.out; have := HK7.out; omega
       case rel => exact ⟨(decide (((rd_T110 l0_6 x4_7).f1) ≤ a0_5)), (wrap64 (x4_7 + 1)), (by rfl), (by rfl), H', ⟨by have := HJ1.out; have := HJ9.out; have := HJ14.out; have := HJ26.out; have := HJ36.out; have := HJ48.out; have := HK7.out; omega⟩, ⟨by refine blk_far ?_ NB263_272.out _; refine blk_far ?_ NB263_272.out _; refine blk_far ?_ NB263_272.out _; exact BK263.out⟩, ⟨by repeat (with_reducible first | exact HB.out | refine bs_ ?_ GE272.out)⟩⟩
      rw [if_neg c61] at H
      have c61b0 : decide (a0_4 ≤ ((rd_T110 l0_6 x4_7).f0)) = false := decide_eq_false c61
      clear c61
      have H' := am_ H
      clear H
      obtain ⟨hcz67_0, hcz67_1, hcz67_2, hcz67_3, hcz67_4, hcz67_5, hcz67_6, hcz67_7, hfz67_0, hfz67_1, hfz67_2, hfz67_3, hfz67_4, hfz67_5, hfz67_6, hfz67_7⟩ := cz8 BK263.out
      have p271 : 0 ≤ (x4_7 : Int) := of_decide_eq_true (by (with_reducible assumption))
      have q271 : x4_7 < (l0_6.length : Int) := of_decide_eq_true (by (with_reducible assumption))
      obtain ⟨ad271, e271, hx271_0, hx271_1, hx271_2⟩ := at_T110 HR0_6.out x4_7 p271 q271
      cases e271
      replace hx271_0 := (HB.out.cell (World.block_lt_of_cell? w _ hx271_0)).trans hx271_0
      replace hx271_1 := (HB.out.cell (World.block_lt_of_cell? w _ hx271_1)).trans hx271_1
      replace hx271_2 := (HB.out.cell (World.block_lt_of_cell? w _ hx271_2)).trans hx271_2
      replace p271 := eq_true p271
      replace q271 := eq_true q271
      go_wp2_with (((with_reducible refine gd_ (N := 5) rfl ?_); (try (refine gate_guard (by rfl) ?_; dsimp only)); refine bE 5 #[.int .i64 0, .int .i64 0, .int .i64 0] 110 ?_; intro gb272 hg w68 hbox hb; have n0_ := am_ (blk_below (g := gb263) (o := .cells #[.int .i64 a0_0, .int .i64 a0_1, .int .i64 a0_2, .int .i64 a0_3, .int .i64 a0_4, .int .i64 a0_5, .slice (some ad271) l0_6.length c0_6, .slice A0_7 l0_7.length c0_7] 37 (0, 0)) BK263.out hb); have n1_ := am_ (below_step HB.out hb); have n2_ := am_ (hbox); have n3_ := am_ ((by rw [hg]; exact (bz_ HB.out) : w.heap.size ≤ gb272)); have n4_ := am_ ((by rw [hg]; exact (bz_ HB.out) : w.heap.size ≤ gb272)); have n5_ := am_ ((by rw [hg]; exact Nat.ne_of_lt (blk_lt (g := gb263) (o := .cells #[.int .i64 a0_0, .int .i64 a0_1, .int .i64 a0_2, .int .i64 a0_3, .int .i64 a0_4, .int .i64 a0_5, .slice (some ad271) l0_6.length c0_6, .slice A0_7 l0_7.length c0_7] 37 (0, 0)) BK263.out) : gb263 ≠ gb272)); have n6_ := am_ ((by rw [hg]; exact Nat.ne_of_gt (blk_lt (g := gb263) (o := .cells #[.int .i64 a0_0, .int .i64 a0_1, .int .i64 a0_2, .int .i64 a0_3, .int .i64 a0_4, .int .i64 a0_5, .slice (some ad271) l0_6.length c0_6, .slice A0_7 l0_7.length c0_7] 37 (0, 0)) BK263.out) : gb272 ≠ gb263)); clear BK263; clear HB; have BK263 := n0_; have HB := n1_; have BK272 := n2_; have GW272 := n3_; have GE272 := n4_; have NB263_272 := n5_; have NB272_263 := n6_; clear n0_ n1_ n2_ n3_ n4_ n5_ n6_; clear hb hbox hg; have hnb69 := NB272_263.out; have hnc69 := NB263_272.out; obtain ⟨hcz70_0, hcz70_1, hcz70_2, hfz70_0, hfz70_1, hfz70_2⟩ := cz3 BK272.out; obtain ⟨hcz71_0, hcz71_1, hcz71_2, hcz71_3, hcz71_4, hcz71_5, hcz71_6, hcz71_7, hfz71_0, hfz71_1, hfz71_2, hfz71_3, hfz71_4, hfz71_5, hfz71_6, hfz71_7⟩ := cz8 BK263.out))
      go_roundg k7
      case measure => have := HJ1.out; have := HJ9.out; have := HJ14.out; have := HJ26.out; have := HJ36.out; have := HJ48.out; have := HK7.out; omega
      case rel => exact ⟨(false), (wrap64 (x4_7 + 1)), (by rfl), (by rfl), H', ⟨by have := HJ1.out; have := HJ9.out; have := HJ14.out; have := HJ26.out; have := HJ36.out; have := HJ48.out; have := HK7.out; omega⟩, ⟨by refine blk_far ?_ NB263_272.out _; refine blk_far ?_ NB263_272.out _; refine blk_far ?_ NB263_272.out _; exact BK263.out⟩, ⟨by repeat (with_reducible first | exact HB.out | refine bs_ ?_ GE272.out)⟩⟩
     rw [if_neg c60] at H
     have c60b0 : (((rd_T110 l0_6 x4_7).f2) == 2) = false := beq_eq_false_iff_ne.mpr c60
     have c60b1 : (((rd_T110 l0_6 x4_7).f2) != 2) = true := bne_iff_ne.mpr c60
     by_cases c72 : ((rd_T110 l0_6 x4_7).f2) = 3
     ·
      rw [if_pos c72] at H
      have c72b0 : (((rd_T110 l0_6 x4_7).f2) == 3) = true := beq_iff_eq.mpr c72
      have c72b1 : (((rd_T110 l0_6 x4_7).f2) != 3) = false := bne_eq_false_iff_eq.mpr c72
      clear c72
      by_cases c73 : ((rd_T110 l0_6 x4_7).f0) ≥ a0_4
      ·
       rw [if_pos c73] at H
       have c73b0 : decide (a0_4 ≤ ((rd_T110 l0_6 x4_7).f0)) = true := decide_eq_true c73
       clear c73
       have H' := am_ H
       clear H
       obtain ⟨hcz74_0, hcz74_1, hcz74_2, hcz74_3, hcz74_4, hcz74_5, hcz74_6, hcz74_7, hfz74_0, hfz74_1, hfz74_2, hfz74_3, hfz74_4, hfz74_5, hfz74_6, hfz74_7⟩ := cz8 BK263.out
       have p271 : 0 ≤ (x4_7 : Int) := of_decide_eq_true (by (with_reducible assumption))
       have q271 : x4_7 < (l0_6.length : Int) := of_decide_eq_true (by (with_reducible assumption))
       obtain ⟨ad271, e271, hx271_0, hx271_1, hx271_2⟩ := at_T110 HR0_6.out x4_7 p271 q271
       cases e271
       replace hx271_0 := (HB.out.cell (World.block_lt_of_cell? w _ hx271_0)).trans hx271_0
       replace hx271_1 := (HB.out.cell (World.block_lt_of_cell? w _ hx271_1)).trans hx271_1
       replace hx271_2 := (HB.out.cell (World.block_lt_of_cell? w _ hx271_2)).trans hx271_2
       replace p271 := eq_true p271
       replace q271 := eq_true q271
       go_wp2_with (((with_reducible refine gd_ (N := 5) rfl ?_); (try (refine gate_guard (by rfl) ?_; dsimp only)); refine bE 5 #[.int .i64 0, .int .i64 0, .int .i64 0] 110 ?_; intro gb272 hg w75 hbox hb; have n0_ := am_ (blk_below (g := gb263) (o := .cells #[.int .i64 a0_0, .int .i64 a0_1, .int .i64 a0_2, .int .i64 a0_3, .int .i64 a0_4, .int .i64 a0_5, .slice (some ad271) l0_6.length c0_6, .slice A0_7 l0_7.length c0_7] 37 (0, 0)) BK263.out hb); have n1_ := am_ (below_step HB.out hb); have n2_ := am_ (hbox); have n3_ := am_ ((by rw [hg]; exact (bz_ HB.out) : w.heap.size ≤ gb272)); have n4_ := am_ ((by rw [hg]; exact (bz_ HB.out) : w.heap.size ≤ gb272)); have n5_ := am_ ((by rw [hg]; exact Nat.ne_of_lt (blk_lt (g := gb263) (o := .cells #[.int .i64 a0_0, .int .i64 a0_1, .int .i64 a0_2, .int .i64 a0_3, .int .i64 a0_4, .int .i64 a0_5, .slice (some ad271) l0_6.length c0_6, .slice A0_7 l0_7.length c0_7] 37 (0, 0)) BK263.out) : gb263 ≠ gb272)); have n6_ := am_ ((by rw [hg]; exact Nat.ne_of_gt (blk_lt (g := gb263) (o := .cells #[.int .i64 a0_0, .int .i64 a0_1, .int .i64 a0_2, .int .i64 a0_3, .int .i64 a0_4, .int .i64 a0_5, .slice (some ad271) l0_6.length c0_6, .slice A0_7 l0_7.length c0_7] 37 (0, 0)) BK263.out) : gb272 ≠ gb263)); clear BK263; clear HB; have BK263 := n0_; have HB := n1_; have BK272 := n2_; have GW272 := n3_; have GE272 := n4_; have NB263_272 := n5_; have NB272_263 := n6_; clear n0_ n1_ n2_ n3_ n4_ n5_ n6_; clear hb hbox hg; have hnb76 := NB272_263.out; have hnc76 := NB263_272.out; obtain ⟨hcz77_0, hcz77_1, hcz77_2, hfz77_0, hfz77_1, hfz77_2⟩ := cz3 BK272.out; obtain ⟨hcz78_0, hcz78_1, hcz78_2, hcz78_3, hcz78_4, hcz78_5, hcz78_6, hcz78_7, hfz78_0, hfz78_1, hfz78_2, hfz78_3, hfz78_4, hfz78_5, hfz78_6, hfz78_7⟩ := cz8 BK263.out))
       go_roundg k7
       case measure => have := HJ1.out; have := HJ9.out; have := HJ14.out; have := HJ26.out; have := HJ36.out; have := HJ48.out; have := HK7.out; omega
       case rel => exact ⟨(decide (((rd_T110 l0_6 x4_7).f1) ≤ a0_5)), (wrap64 (x4_7 + 1)), (by rfl), (by rfl), H', ⟨by have := HJ1.out; have := HJ9.out; have := HJ14.out; have := HJ26.out; have := HJ36.out; have := HJ48.out; have := HK7.out; omega⟩, ⟨by refine blk_far ?_ NB263_272.out _; refine blk_far ?_ NB263_272.out _; refine blk_far ?_ NB263_272.out _; exact BK263.out⟩, ⟨by repeat (with_reducible first | exact HB.out | refine bs_ ?_ GE272.out)⟩⟩
      rw [if_neg c73] at H
      have c73b0 : decide (a0_4 ≤ ((rd_T110 l0_6 x4_7).f0)) = false := decide_eq_false c73
      clear c73
      have H' := am_ H
      clear H
      obtain ⟨hcz79_0, hcz79_1, hcz79_2, hcz79_3, hcz79_4, hcz79_5, hcz79_6, hcz79_7, hfz79_0, hfz79_1, hfz79_2, hfz79_3, hfz79_4, hfz79_5, hfz79_6, hfz79_7⟩ := cz8 BK263.out
      have p271 : 0 ≤ (x4_7 : Int) := of_decide_eq_true (by (with_reducible assumption))
      have q271 : x4_7 < (l0_6.length : Int) := of_decide_eq_true (by (with_reducible assumption))
      obtain ⟨ad271, e271, hx271_0, hx271_1, hx271_2⟩ := at_T110 HR0_6.out x4_7 p271 q271
      cases e271
      replace hx271_0 := (HB.out.cell (World.block_lt_of_cell? w _ hx271_0)).trans hx271_0
      replace hx271_1 := (HB.out.cell (World.block_lt_of_cell? w _ hx271_1)).trans hx271_1
      replace hx271_2 := (HB.out.cell (World.block_lt_of_cell? w _ hx271_2)).trans hx271_2
      replace p271 := eq_true p271
      replace q271 := eq_true q271
      go_wp2_with (((with_reducible refine gd_ (N := 5) rfl ?_); (try (refine gate_guard (by rfl) ?_; dsimp only)); refine bE 5 #[.int .i64 0, .int .i64 0, .int .i64 0] 110 ?_; intro gb272 hg w80 hbox hb; have n0_ := am_ (blk_below (g := gb263) (o := .cells #[.int .i64 a0_0, .int .i64 a0_1, .int .i64 a0_2, .int .i64 a0_3, .int .i64 a0_4, .int .i64 a0_5, .slice (some ad271) l0_6.length c0_6, .slice A0_7 l0_7.length c0_7] 37 (0, 0)) BK263.out hb); have n1_ := am_ (below_step HB.out hb); have n2_ := am_ (hbox); have n3_ := am_ ((by rw [hg]; exact (bz_ HB.out) : w.heap.size ≤ gb272)); have n4_ := am_ ((by rw [hg]; exact (bz_ HB.out) : w.heap.size ≤ gb272)); have n5_ := am_ ((by rw [hg]; exact Nat.ne_of_lt (blk_lt (g := gb263) (o := .cells #[.int .i64 a0_0, .int .i64 a0_1, .int .i64 a0_2, .int .i64 a0_3, .int .i64 a0_4, .int .i64 a0_5, .slice (some ad271) l0_6.length c0_6, .slice A0_7 l0_7.length c0_7] 37 (0, 0)) BK263.out) : gb263 ≠ gb272)); have n6_ := am_ ((by rw [hg]; exact Nat.ne_of_gt (blk_lt (g := gb263) (o := .cells #[.int .i64 a0_0, .int .i64 a0_1, .int .i64 a0_2, .int .i64 a0_3, .int .i64 a0_4, .int .i64 a0_5, .slice (some ad271) l0_6.length c0_6, .slice A0_7 l0_7.length c0_7] 37 (0, 0)) BK263.out) : gb272 ≠ gb263)); clear BK263; clear HB; have BK263 := n0_; have HB := n1_; have BK272 := n2_; have GW272 := n3_; have GE272 := n4_; have NB263_272 := n5_; have NB272_263 := n6_; clear n0_ n1_ n2_ n3_ n4_ n5_ n6_; clear hb hbox hg; have hnb81 := NB272_263.out; have hnc81 := NB263_272.out; obtain ⟨hcz82_0, hcz82_1, hcz82_2, hfz82_0, hfz82_1, hfz82_2⟩ := cz3 BK272.out; obtain ⟨hcz83_0, hcz83_1, hcz83_2, hcz83_3, hcz83_4, hcz83_5, hcz83_6, hcz83_7, hfz83_0, hfz83_1, hfz83_2, hfz83_3, hfz83_4, hfz83_5, hfz83_6, hfz83_7⟩ := cz8 BK263.out))
      go_roundg k7
      case measure => have := HJ1.out; have := HJ9.out; have := HJ14.out; have := HJ26.out; have := HJ36.out; have := HJ48.out; have := HK7.out; omega
      case rel => exact ⟨(false), (wrap64 (x4_7 + 1)), (by rfl), (by rfl), H', ⟨by have := HJ1.out; have := HJ9.out; have := HJ14.out; have := HJ26.out; have := HJ36.out; have := HJ48.out; have := HK7.out; omega⟩, ⟨by refine blk_far ?_ NB263_272.out _; refine blk_far ?_ NB263_272.out _; refine blk_far ?_ NB263_272.out _; exact BK263.out⟩, ⟨by repeat (with_reducible first | exact HB.out | refine bs_ ?_ GE272.out)⟩⟩
     rw [if_neg c72] at H
     have c72b0 : (((rd_T110 l0_6 x4_7).f2) == 3) = false := beq_eq_false_iff_ne.mpr c72
     have c72b1 : (((rd_T110 l0_6 x4_7).f2) != 3) = true := bne_iff_ne.mpr c72
     have H' := am_ H
     clear H
     obtain ⟨hcz84_0, hcz84_1, hcz84_2, hcz84_3, hcz84_4, hcz84_5, hcz84_6, hcz84_7, hfz84_0, hfz84_1, hfz84_2, hfz84_3, hfz84_4, hfz84_5, hfz84_6, hfz84_7⟩ := cz8 BK263.out
     have p271 : 0 ≤ (x4_7 : Int) := of_decide_eq_true (by (with_reducible assumption))
     have q271 : x4_7 < (l0_6.length : Int) := of_decide_eq_true (by (with_reducible assumption))
     obtain ⟨ad271, e271, hx271_0, hx271_1, hx271_2⟩ := at_T110 HR0_6.out x4_7 p271 q271
     cases e271
     replace hx271_0 := (HB.out.cell (World.block_lt_of_cell? w _ hx271_0)).trans hx271_0
     replace hx271_1 := (HB.out.cell (World.block_lt_of_cell? w _ hx271_1)).trans hx271_1
     replace hx271_2 := (HB.out.cell (World.block_lt_of_cell? w _ hx271_2)).trans hx271_2
     replace p271 := eq_true p271
     replace q271 := eq_true q271
     go_wp2_with (((with_reducible refine gd_ (N := 5) rfl ?_); (try (refine gate_guard (by rfl) ?_; dsimp only)); refine bE 5 #[.int .i64 0, .int .i64 0, .int .i64 0] 110 ?_; intro gb272 hg w85 hbox hb; have n0_ := am_ (blk_below (g := gb263) (o := .cells #[.int .i64 a0_0, .int .i64 a0_1, .int .i64 a0_2, .int .i64 a0_3, .int .i64 a0_4, .int .i64 a0_5, .slice (some ad271) l0_6.length c0_6, .slice A0_7 l0_7.length c0_7] 37 (0, 0)) BK263.out hb); have n1_ := am_ (below_step HB.out hb); have n2_ := am_ (hbox); have n3_ := am_ ((by rw [hg]; exact (bz_ HB.out) : w.heap.size ≤ gb272)); have n4_ := am_ ((by rw [hg]; exact (bz_ HB.out) : w.heap.size ≤ gb272)); have n5_ := am_ ((by rw [hg]; exact Nat.ne_of_lt (blk_lt (g := gb263) (o := .cells #[.int .i64 a0_0, .int .i64 a0_1, .int .i64 a0_2, .int .i64 a0_3, .int .i64 a0_4, .int .i64 a0_5, .slice (some ad271) l0_6.length c0_6, .slice A0_7 l0_7.length c0_7] 37 (0, 0)) BK263.out) : gb263 ≠ gb272)); have n6_ := am_ ((by rw [hg]; exact Nat.ne_of_gt (blk_lt (g := gb263) (o := .cells #[.int .i64 a0_0, .int .i64 a0_1, .int .i64 a0_2, .int .i64 a0_3, .int .i64 a0_4, .int .i64 a0_5, .slice (some ad271) l0_6.length c0_6, .slice A0_7 l0_7.length c0_7] 37 (0, 0)) BK263.out) : gb272 ≠ gb263)); clear BK263; clear HB; have BK263 := n0_; have HB := n1_; have BK272 := n2_; have GW272 := n3_; have GE272 := n4_; have NB263_272 := n5_; have NB272_263 := n6_; clear n0_ n1_ n2_ n3_ n4_ n5_ n6_; clear hb hbox hg; have hnb86 := NB272_263.out; have hnc86 := NB263_272.out; obtain ⟨hcz87_0, hcz87_1, hcz87_2, hfz87_0, hfz87_1, hfz87_2⟩ := cz3 BK272.out))
     go_roundg k7
     case measure => have := HJ1.out; have := HJ9.out; have := HJ14.out; have := HJ26.out; have := HJ36.out; have := HJ48.out; have := HK7.out; omega
     case rel => exact ⟨(false), (wrap64 (x4_7 + 1)), (by rfl), (by rfl), H', ⟨by have := HJ1.out; have := HJ9.out; have := HJ14.out; have := HJ26.out; have := HJ36.out; have := HJ48.out; have := HK7.out; omega⟩, ⟨by refine blk_far ?_ NB263_272.out _; refine blk_far ?_ NB263_272.out _; refine blk_far ?_ NB263_272.out _; exact BK263.out⟩, ⟨by repeat (with_reducible first | exact HB.out | refine bs_ ?_ GE272.out)⟩⟩
    as_aux_lemma =>
    replace c59 := Bool.eq_false_iff.mpr c59
    subst c59
    rw [if_neg (show ¬ (false = true) by decide)] at H
    have H' := am_ H
    clear H
    obtain ⟨hcz88_0, hcz88_1, hcz88_2, hcz88_3, hcz88_4, hcz88_5, hcz88_6, hcz88_7, hfz88_0, hfz88_1, hfz88_2, hfz88_3, hfz88_4, hfz88_5, hfz88_6, hfz88_7⟩ := cz8 BK263.out
    have p271 : 0 ≤ (x4_7 : Int) := of_decide_eq_true (by (with_reducible assumption))
    have q271 : x4_7 < (l0_6.length : Int) := of_decide_eq_true (by (with_reducible assumption))
    obtain ⟨ad271, e271, hx271_0, hx271_1, hx271_2⟩ := at_T110 HR0_6.out x4_7 p271 q271
    cases e271
    replace hx271_0 := (HB.out.cell (World.block_lt_of_cell? w _ hx271_0)).trans hx271_0
    replace hx271_1 := (HB.out.cell (World.block_lt_of_cell? w _ hx271_1)).trans hx271_1
    replace hx271_2 := (HB.out.cell (World.block_lt_of_cell? w _ hx271_2)).trans hx271_2
    replace p271 := eq_true p271
    replace q271 := eq_true q271
    go_wp2_with (((with_reducible refine gd_ (N := 5) rfl ?_); (try (refine gate_guard (by rfl) ?_; dsimp only)); refine bE 5 #[.int .i64 0, .int .i64 0, .int .i64 0] 110 ?_; intro gb272 hg w89 hbox hb; have n0_ := am_ (blk_below (g := gb263) (o := .cells #[.int .i64 a0_0, .int .i64 a0_1, .int .i64 a0_2, .int .i64 a0_3, .int .i64 a0_4, .int .i64 a0_5, .slice (some ad271) l0_6.length c0_6, .slice A0_7 l0_7.length c0_7] 37 (0, 0)) BK263.out hb); have n1_ := am_ (below_step HB.out hb); have n2_ := am_ (hbox); have n3_ := am_ ((by rw [hg]; exact (bz_ HB.out) : w.heap.size ≤ gb272)); have n4_ := am_ ((by rw [hg]; exact (bz_ HB.out) : w.heap.size ≤ gb272)); have n5_ := am_ ((by rw [hg]; exact Nat.ne_of_lt (blk_lt (g := gb263) (o := .cells #[.int .i64 a0_0, .int .i64 a0_1, .int .i64 a0_2, .int .i64 a0_3, .int .i64 a0_4, .int .i64 a0_5, .slice (some ad271) l0_6.length c0_6, .slice A0_7 l0_7.length c0_7] 37 (0, 0)) BK263.out) : gb263 ≠ gb272)); have n6_ := am_ ((by rw [hg]; exact Nat.ne_of_gt (blk_lt (g := gb263) (o := .cells #[.int .i64 a0_0, .int .i64 a0_1, .int .i64 a0_2, .int .i64 a0_3, .int .i64 a0_4, .int .i64 a0_5, .slice (some ad271) l0_6.length c0_6, .slice A0_7 l0_7.length c0_7] 37 (0, 0)) BK263.out) : gb272 ≠ gb263)); clear BK263; clear HB; have BK263 := n0_; have HB := n1_; have BK272 := n2_; have GW272 := n3_; have GE272 := n4_; have NB263_272 := n5_; have NB272_263 := n6_; clear n0_ n1_ n2_ n3_ n4_ n5_ n6_; clear hb hbox hg; have hnb90 := NB272_263.out; have hnc90 := NB263_272.out; obtain ⟨hcz91_0, hcz91_1, hcz91_2, hfz91_0, hfz91_1, hfz91_2⟩ := cz3 BK272.out))
    go_roundg k7
    case measure => have := HJ1.out; have := HJ9.out; have := HJ14.out; have := HJ26.out; have := HJ36.out; have := HJ48.out; have := HK7.out; omega
    case rel => exact ⟨(false), (wrap64 (x4_7 + 1)), (by rfl), (by rfl), H', ⟨by have := HJ1.out; have := HJ9.out; have := HJ14.out; have := HJ26.out; have := HJ36.out; have := HJ48.out; have := HK7.out; omega⟩, ⟨by refine blk_far ?_ NB263_272.out _; refine blk_far ?_ NB263_272.out _; refine blk_far ?_ NB263_272.out _; exact BK263.out⟩, ⟨by repeat (with_reducible first | exact HB.out | refine bs_ ?_ GE272.out)⟩⟩
   rw [if_neg c58] at H
   exact absurd H (by simp)
  rw [if_neg c57] at H
  have c57b0 : decide (x4_7 < (l0_6.length : Int)) = false := decide_eq_false c57
  clear c57
  by_cases c92 : x3_7 = true
  ·
   subst c92
   rw [if_pos rfl] at H
   have H' := am_ H
   clear H
   obtain ⟨hcz93_0, hcz93_1, hcz93_2, hcz93_3, hcz93_4, hcz93_5, hcz93_6, hcz93_7, hfz93_0, hfz93_1, hfz93_2, hfz93_3, hfz93_4, hfz93_5, hfz93_6, hfz93_7⟩ := cz8 BK263.out
   go_wp2
   go_loopg [6] k7 (fun kq v6 w' => ∃ (x6_8 : Int), v6 = .int .i64 x6_8 ∧ Aside0 (grapevineref13_Check.l1 kq x6_8 a0_0 a0_1 a0_2 a0_3 a0_4 a0_5 l0_6 l0_7 = some r) ∧ Aside0 (kq ≤ k7) ∧ Aside0 (w'.heap[gb263]? = some (.cells #[.int .i64 a0_0, .int .i64 a0_1, .int .i64 a0_2, .int .i64 a0_3, .int .i64 a0_4, .int .i64 a0_5, (.slice A0_6 l0_6.length c0_6), (.slice A0_7 l0_7.length c0_7)] 37 (0, 0))) ∧ Aside0 (Below w.heap.size w w'))
   case atStart => exact ⟨(0), (by rfl), H', ⟨Nat.le_refl _⟩, ⟨by exact BK263.out⟩, ⟨by repeat (with_reducible exact HB.out)⟩⟩
   case round =>
   as_aux_lemma =>
   clear H'
   try clear c57b0
   try clear hcz21_0
   try clear hcz21_1
   try clear hcz21_2
   try clear hcz21_3
   try clear hcz21_4
   try clear hcz21_5
   try clear hcz21_6
   try clear hcz21_7
   try clear hcz23_0
   try clear hcz23_1
   try clear hcz23_2
   try clear hcz23_3
   try clear hcz23_4
   try clear hcz23_5
   try clear hcz23_6
   try clear hcz23_7
   try clear hcz34_0
   try clear hcz34_1
   try clear hcz34_2
   try clear hcz34_3
   try clear hcz34_4
   try clear hcz34_5
   try clear hcz34_6
   try clear hcz34_7
   try clear hcz44_0
   try clear hcz44_1
   try clear hcz44_2
   try clear hcz44_3
   try clear hcz44_4
   try clear hcz44_5
   try clear hcz44_6
   try clear hcz44_7
   try clear hcz45_0
   try clear hcz45_1
   try clear hcz45_2
   try clear hcz45_3
   try clear hcz45_4
   try clear hcz45_5
   try clear hcz45_6
   try clear hcz45_7
   try clear hcz50_0
   try clear hcz50_1
   try clear hcz50_2
   try clear hcz50_3
   try clear hcz50_4
   try clear hcz50_5
   try clear hcz50_6
   try clear hcz50_7
   try clear hcz52_0
   try clear hcz52_1
   try clear hcz52_2
   try clear hcz56_0
   try clear hcz56_1
   try clear hcz56_2
   try clear hcz56_3
   try clear hcz56_4
   try clear hcz56_5
   try clear hcz56_6
   try clear hcz56_7
   try clear hcz93_0
   try clear hcz93_1
   try clear hcz93_2
   try clear hcz93_3
   try clear hcz93_4
   try clear hcz93_5
   try clear hcz93_6
   try clear hcz93_7
   try clear hfz12_0
   try clear hfz12_1
   try clear hfz12_2
   try clear hfz12_3
   try clear hfz12_4
   try clear hfz12_5
   try clear hfz12_6
   try clear hfz12_7
   try clear hfz21_0
   try clear hfz21_1
   try clear hfz21_2
   try clear hfz21_3
   try clear hfz21_4
   try clear hfz21_5
   try clear hfz21_6
   try clear hfz21_7
   try clear hfz23_0
   try clear hfz23_1
   try clear hfz23_2
   try clear hfz23_3
   try clear hfz23_4
   try clear hfz23_5
   try clear hfz23_6
   try clear hfz23_7
   try clear hfz34_0
   try clear hfz34_1
   try clear hfz34_2
   try clear hfz34_3
   try clear hfz34_4
   try clear hfz34_5
   try clear hfz34_6
   try clear hfz34_7
   try clear hfz44_0
   try clear hfz44_1
   try clear hfz44_2
   try clear hfz44_3
   try clear hfz44_4
   try clear hfz44_5
   try clear hfz44_6
   try clear hfz44_7
   try clear hfz45_0
   try clear hfz45_1
   try clear hfz45_2
   try clear hfz45_3
   try clear hfz45_4
   try clear hfz45_5
   try clear hfz45_6
   try clear hfz45_7
   try clear hfz50_0
   try clear hfz50_1
   try clear hfz50_2
   try clear hfz50_3
   try clear hfz50_4
   try clear hfz50_5
   try clear hfz50_6
   try clear hfz50_7
   try clear hfz52_0
   try clear hfz52_1
   try clear hfz52_2
   try clear hfz56_0
   try clear hfz56_1
   try clear hfz56_2
   try clear hfz56_3
   try clear hfz56_4
   try clear hfz56_5
   try clear hfz56_6
   try clear hfz56_7
   try clear hfz93_0
   try clear hfz93_1
   try clear hfz93_2
   try clear hfz93_3
   try clear hfz93_4
   try clear hfz93_5
   try clear hfz93_6
   try clear hfz93_7
   obtain ⟨x6_8, rfl, HA, HK8, BK263, HB⟩ := hrel
   cases gk with
   | zero => exact absurd HA.out (by simp [grapevineref13_Check.l1])
   | succ k8 =>
   have H := HA.out
   clear HA
   simp only [grapevineref13_Check.l1] at H
   by_cases c94 : x6_8 < (l0_7.length : Int)
   ·
    rw [if_pos c94] at H
    have c94b0 : decide (x6_8 < (l0_7.length : Int)) = true := decide_eq_true c94
    clear c94
    by_cases c95 : 0 ≤ x6_8
    ·
     rw [if_pos c95] at H
     have c95b0 : decide (0 ≤ x6_8) = true := decide_eq_true c95
     clear c95
     have HC96 := am_ H
     clear H
     obtain ⟨hcz97_0, hcz97_1, hcz97_2, hcz97_3, hcz97_4, hcz97_5, hcz97_6, hcz97_7, hfz97_0, hfz97_1, hfz97_2, hfz97_3, hfz97_4, hfz97_5, hfz97_6, hfz97_7⟩ := cz8 BK263.out
     have p273 : 0 ≤ (x6_8 : Int) := of_decide_eq_true (by (with_reducible assumption))
     have q273 : x6_8 < (l0_7.length : Int) := of_decide_eq_true (by (with_reducible assumption))
     obtain ⟨ad273, A273_2, c273_2, e273, hx273_0, hx273_1, hx273_2, hl273_2, hi273_2⟩ := at_T77 HR0_7.out x6_8 p273 q273
     cases e273
     replace hx273_0 := (HB.out.cell (World.block_lt_of_cell? w _ hx273_0)).trans hx273_0
     replace hx273_1 := (HB.out.cell (World.block_lt_of_cell? w _ hx273_1)).trans hx273_1
     replace hx273_2 := (HB.out.cell (World.block_lt_of_cell? w _ hx273_2)).trans hx273_2
     have HR273_2 := am_ hi273_2
     have HC273_2 := am_ hl273_2
     clear hi273_2 hl273_2
     replace p273 := eq_true p273
     replace q273 := eq_true q273
     go_upto_region 27 with (fail)
     go_cut [186] (fun v186 wc => ∃ (kq : Nat) (x186_95 : Bool), v186 = .bool x186_95 ∧ Aside0 (grapevineref13_Check.j8 kq x6_8 x186_95 a0_0 a0_1 a0_2 a0_3 a0_4 a0_5 l0_6 l0_7 = some r) ∧ Aside0 (kq ≤ k8) ∧ Aside0 (wc.heap[gb263]? = some (.cells #[.int .i64 a0_0, .int .i64 a0_1, .int .i64 a0_2, .int .i64 a0_3, .int .i64 a0_4, .int .i64 a0_5, (.slice A0_6 l0_6.length c0_6), (.slice (some ad273) l0_7.length c0_7)] 37 (0, 0))) ∧ Aside0 (Below w.heap.size w wc))
     case first =>
      have H := HC96.out
      clear HC96
      by_cases c98 : ((rd_T77 l0_7 x6_8).f0) < a0_4
      ·
       rw [if_pos c98] at H
       have c98b0 : decide (((rd_T77 l0_7 x6_8).f0) < a0_4) = true := decide_eq_true c98
       clear c98
       (skip)
       have H' := am_ H
       clear H
       obtain ⟨hcz99_0, hcz99_1, hcz99_2, hcz99_3, hcz99_4, hcz99_5, hcz99_6, hcz99_7, hfz99_0, hfz99_1, hfz99_2, hfz99_3, hfz99_4, hfz99_5, hfz99_6, hfz99_7⟩ := cz8 BK263.out
       go_wp2
       go_meet
       case rel => exact ⟨_, (true), (by rfl), H', ⟨by have := HJ1.out; have := HJ9.out; have := HJ14.out; have := HJ26.out; have := HJ36.out; have := HJ48.out; have := HK7.out; have := HK8.out; omega⟩, ⟨by exact BK263.out⟩, ⟨by repeat (with_reducible exact HB.out)⟩⟩
      rw [if_neg c98] at H
      have c98b0 : decide (((rd_T77 l0_7 x6_8).f0) < a0_4) = false := decide_eq_false c98
      clear c98
      (skip)
      by_cases c100 : ((rd_T77 l0_7 x6_8).f0) > a0_5
      ·
       rw [if_pos c100] at H
       have c100b0 : decide (a0_5 < ((rd_T77 l0_7 x6_8).f0)) = true := decide_eq_true c100
       clear c100
       have H' := am_ H
       clear H
       obtain ⟨hcz101_0, hcz101_1, hcz101_2, hcz101_3, hcz101_4, hcz101_5, hcz101_6, hcz101_7, hfz101_0, hfz101_1, hfz101_2, hfz101_3, hfz101_4, hfz101_5, hfz101_6, hfz101_7⟩ := cz8 BK263.out
       go_wp2
       go_meet
       case rel => exact ⟨_, (true), (by rfl), H', ⟨by have := HJ1.out; have := HJ9.out; have := HJ14.out; have := HJ26.out; have := HJ36.out; have := HJ48.out; have := HK7.out; have := HK8.out; omega⟩, ⟨by exact BK263.out⟩, ⟨by repeat (with_reducible exact HB.out)⟩⟩
      rw [if_neg c100] at H
      have c100b0 : decide (a0_5 < ((rd_T77 l0_7 x6_8).f0)) = false := decide_eq_false c100
      clear c100
      by_cases c102 : x6_8 > 0
      ·
       rw [if_pos c102] at H
       have c102b0 : decide (0 < x6_8) = true := decide_eq_true c102
       clear c102
       obtain ⟨ji103, hji103⟩ : ∃ j_ : Int, (wrap64 (x6_8 - 1)) = j_ := ⟨_, rfl⟩
       replace H : (if 0 ≤ (ji103) then (if (ji103) < (l0_7.length : Int) then (if ((rd_T77 l0_7 x6_8).f0) ≤ ((rd_T77 l0_7 (ji103)).f0) then (grapevineref13_Check.j8 k8 x6_8 true a0_0 a0_1 a0_2 a0_3 a0_4 a0_5 l0_6 l0_7) else ((grapevineref08_At.f k8 l0_6 ((rd_T77 l0_7 x6_8).f0)).bind fun t275 => (grapevineref13_Check.j8 k8 x6_8 (t275 != 0) a0_0 a0_1 a0_2 a0_3 a0_4 a0_5 l0_6 l0_7))) else (none)) else (none)) = some r := by (rw [hji103] at H; exact H)
       have hji103w : (IntKind.i64.wrap (x6_8 - 1)) = ji103 := (i64_w _).trans hji103
       by_cases c104 : 0 ≤ (ji103)
       ·
        rw [if_pos c104] at H
        have c104b0 : decide (0 ≤ (ji103)) = true := decide_eq_true c104
        clear c104
        by_cases c105 : (ji103) < (l0_7.length : Int)
        ·
         rw [if_pos c105] at H
         have c105b0 : decide ((ji103) < (l0_7.length : Int)) = true := decide_eq_true c105
         clear c105
         by_cases c106 : ((rd_T77 l0_7 x6_8).f0) ≤ ((rd_T77 l0_7 (ji103)).f0)
         ·
          rw [if_pos c106] at H
          have c106b0 : decide (((rd_T77 l0_7 x6_8).f0) ≤ ((rd_T77 l0_7 (ji103)).f0)) = true := decide_eq_true c106
          clear c106
          have H' := am_ H
          clear H
          obtain ⟨hcz107_0, hcz107_1, hcz107_2, hcz107_3, hcz107_4, hcz107_5, hcz107_6, hcz107_7, hfz107_0, hfz107_1, hfz107_2, hfz107_3, hfz107_4, hfz107_5, hfz107_6, hfz107_7⟩ := cz8 BK263.out
          have p274 : 0 ≤ ((ji103) : Int) := of_decide_eq_true (by (with_reducible assumption))
          have q274 : (ji103) < (l0_7.length : Int) := of_decide_eq_true (by (with_reducible assumption))
          obtain ⟨ad274, A274_2, c274_2, e274, hx274_0, hx274_1, hx274_2, hl274_2, hi274_2⟩ := at_T77 HR0_7.out (ji103) p274 q274
          obtain rfl : ad273 = ad274 := (by injection e274)
          replace hx274_0 := (HB.out.cell (World.block_lt_of_cell? w _ hx274_0)).trans hx274_0
          replace hx274_1 := (HB.out.cell (World.block_lt_of_cell? w _ hx274_1)).trans hx274_1
          replace hx274_2 := (HB.out.cell (World.block_lt_of_cell? w _ hx274_2)).trans hx274_2
          have HR274_2 := am_ hi274_2
          have HC274_2 := am_ hl274_2
          clear hi274_2 hl274_2
          replace p274 := eq_true p274
          replace q274 := eq_true q274
          go_wp2
          go_meet
          case rel => exact ⟨_, (true), (by rfl), H', ⟨by have := HJ1.out; have := HJ9.out; have := HJ14.out; have := HJ26.out; have := HJ36.out; have := HJ48.out; have := HK7.out; have := HK8.out; omega⟩, ⟨by exact BK263.out⟩, ⟨by repeat (with_reducible exact HB.out)⟩⟩
         rw [if_neg c106] at H
         have c106b0 : decide (((rd_T77 l0_7 x6_8).f0) ≤ ((rd_T77 l0_7 (ji103)).f0)) = false := decide_eq_false c106
         clear c106
         replace H := Option.bind_eq_some_iff.mp H
         obtain ⟨t275, A1080, H⟩ := H
         try dsimp only at H
         have A108 := am_ A1080
         clear A1080
         have H' := am_ H
         clear H
         obtain ⟨hcz109_0, hcz109_1, hcz109_2, hcz109_3, hcz109_4, hcz109_5, hcz109_6, hcz109_7, hfz109_0, hfz109_1, hfz109_2, hfz109_3, hfz109_4, hfz109_5, hfz109_6, hfz109_7⟩ := cz8 BK263.out
         have p274 : 0 ≤ ((ji103) : Int) := of_decide_eq_true (by (with_reducible assumption))
         have q274 : (ji103) < (l0_7.length : Int) := of_decide_eq_true (by (with_reducible assumption))
         obtain ⟨ad274, A274_2, c274_2, e274, hx274_0, hx274_1, hx274_2, hl274_2, hi274_2⟩ := at_T77 HR0_7.out (ji103) p274 q274
         obtain rfl : ad273 = ad274 := (by injection e274)
         replace hx274_0 := (HB.out.cell (World.block_lt_of_cell? w _ hx274_0)).trans hx274_0
         replace hx274_1 := (HB.out.cell (World.block_lt_of_cell? w _ hx274_1)).trans hx274_1
         replace hx274_2 := (HB.out.cell (World.block_lt_of_cell? w _ hx274_2)).trans hx274_2
         have HR274_2 := am_ hi274_2
         have HC274_2 := am_ hl274_2
         clear hi274_2 hl274_2
         replace p274 := eq_true p274
         replace q274 := eq_true q274
         go_wp2_with ((go_at_call 58; (with_reducible refine (grapevineref08_At.calls k8 _ _ l0_6 ((rd_T77 l0_7 x6_8).f0) t275 _ ?side1 ?side2 A108.out).mono ?_); (case side1 => repeat (exact (Kd.C_below HR0_6.out HB.out))); (case side2 => exact HC0_6.out); rintro e w' ⟨rfl, ⟨nd, rfl⟩⟩))
         go_meet
         case rel => exact ⟨_, (t275 != 0), (by rfl), H', ⟨by have := HJ1.out; have := HJ9.out; have := HJ14.out; have := HJ26.out; have := HJ36.out; have := HJ48.out; have := HK7.out; have := HK8.out; omega⟩, ⟨by (with_reducible repeat (refine kn_ ?_ _)); exact BK263.out⟩, ⟨by repeat (with_reducible first | exact HB.out | apply bn_)⟩⟩
        rw [if_neg c105] at H
        exact absurd H (by simp)
       rw [if_neg c104] at H
       exact absurd H (by simp)
      rw [if_neg c102] at H
      have c102b0 : decide (0 < x6_8) = false := decide_eq_false c102
      clear c102
      replace H := Option.bind_eq_some_iff.mp H
      obtain ⟨t276, A1100, H⟩ := H
      try dsimp only at H
      have A110 := am_ A1100
      clear A1100
      have H' := am_ H
      clear H
      obtain ⟨hcz111_0, hcz111_1, hcz111_2, hcz111_3, hcz111_4, hcz111_5, hcz111_6, hcz111_7, hfz111_0, hfz111_1, hfz111_2, hfz111_3, hfz111_4, hfz111_5, hfz111_6, hfz111_7⟩ := cz8 BK263.out
      go_wp2_with ((go_at_call 58; (with_reducible refine (grapevineref08_At.calls k8 _ _ l0_6 ((rd_T77 l0_7 x6_8).f0) t276 _ ?side1 ?side2 A110.out).mono ?_); (case side1 => repeat (exact (Kd.C_below HR0_6.out HB.out))); (case side2 => exact HC0_6.out); rintro e w' ⟨rfl, ⟨nd, rfl⟩⟩))
      go_meet
      case rel => exact ⟨_, (t276 != 0), (by rfl), H', ⟨by have := HJ1.out; have := HJ9.out; have := HJ14.out; have := HJ26.out; have := HJ36.out; have := HJ48.out; have := HK7.out; have := HK8.out; omega⟩, ⟨by (with_reducible repeat (refine kn_ ?_ _)); exact BK263.out⟩, ⟨by repeat (with_reducible first | exact HB.out | apply bn_)⟩⟩
     case rest =>
     clear HC96
     try clear c94b0
     try clear c95b0
     try clear hcz93_0
     try clear hcz93_1
     try clear hcz93_2
     try clear hcz93_3
     try clear hcz93_4
     try clear hcz93_5
     try clear hcz93_6
     try clear hcz93_7
     try clear hcz97_0
     try clear hcz97_1
     try clear hcz97_2
     try clear hcz97_3
     try clear hcz97_4
     try clear hcz97_5
     try clear hcz97_6
     try clear hcz97_7
     try clear hfz12_0
     try clear hfz12_1
     try clear hfz12_2
     try clear hfz12_3
     try clear hfz12_4
     try clear hfz12_5
     try clear hfz12_6
     try clear hfz12_7
     try clear hfz21_0
     try clear hfz21_1
     try clear hfz21_2
     try clear hfz21_3
     try clear hfz21_4
     try clear hfz21_5
     try clear hfz21_6
     try clear hfz21_7
     try clear hfz23_0
     try clear hfz23_1
     try clear hfz23_2
     try clear hfz23_3
     try clear hfz23_4
     try clear hfz23_5
     try clear hfz23_6
     try clear hfz23_7
     try clear hfz34_0
     try clear hfz34_1
     try clear hfz34_2
     try clear hfz34_3
     try clear hfz34_4
     try clear hfz34_5
     try clear hfz34_6
     try clear hfz34_7
     try clear hfz44_0
     try clear hfz44_1
     try clear hfz44_2
     try clear hfz44_3
     try clear hfz44_4
     try clear hfz44_5
     try clear hfz44_6
     try clear hfz44_7
     try clear hfz45_0
     try clear hfz45_1
     try clear hfz45_2
     try clear hfz45_3
     try clear hfz45_4
     try clear hfz45_5
     try clear hfz45_6
     try clear hfz45_7
     try clear hfz50_0
     try clear hfz50_1
     try clear hfz50_2
     try clear hfz50_3
     try clear hfz50_4
     try clear hfz50_5
     try clear hfz50_6
     try clear hfz50_7
     try clear hfz52_0
     try clear hfz52_1
     try clear hfz52_2
     try clear hfz56_0
     try clear hfz56_1
     try clear hfz56_2
     try clear hfz56_3
     try clear hfz56_4
     try clear hfz56_5
     try clear hfz56_6
     try clear hfz56_7
     try clear hfz93_0
     try clear hfz93_1
     try clear hfz93_2
     try clear hfz93_3
     try clear hfz93_4
     try clear hfz93_5
     try clear hfz93_6
     try clear hfz93_7
     try clear hfz97_0
     try clear hfz97_1
     try clear hfz97_2
     try clear hfz97_3
     try clear hfz97_4
     try clear hfz97_5
     try clear hfz97_6
     try clear hfz97_7
     try clear hx273_0
     try clear hx273_1
     try clear hx273_2
     try clear p273
     try clear q273
     obtain ⟨kq, x186_95, rfl, HA, HJ95, BK263, HB⟩ := hcut
     cases kq with
     | zero => exact absurd HA.out (by simp [grapevineref13_Check.j8])
     | succ kj95 =>
     have H := HA.out
     clear HA
     simp only [grapevineref13_Check.j8] at H
     by_cases c112 : x186_95 = true
     ·
      subst c112
      rw [if_pos rfl] at H
      obtain rfl := Option.some.inj H
      go_wp2
      go_ret
      exact ⟨by rfl, by repeat (with_reducible exact HB.out)⟩
     as_aux_lemma =>
     replace c112 := Bool.eq_false_iff.mpr c112
     subst c112
     rw [if_neg (show ¬ (false = true) by decide)] at H
     by_cases c113 : 0 ≤ x6_8
     ·
      rw [if_pos c113] at H
      have c113b0 : decide (0 ≤ x6_8) = true := decide_eq_true c113
      clear c113
      by_cases c114 : x6_8 < (l0_7.length : Int)
      ·
       rw [if_pos c114] at H
       have c114b0 : decide (x6_8 < (l0_7.length : Int)) = true := decide_eq_true c114
       clear c114
       by_cases c115 : (((rd_T77 l0_7 x6_8).f2).length : Int) > 400
       ·
        rw [if_pos c115] at H
        have c115b0 : decide (400 < (((rd_T77 l0_7 x6_8).f2).length : Int)) = true := decide_eq_true c115
        have c115b1 : decide (400 < ((rd_T77 l0_7 x6_8).f2).length) = true := decide_eq_true (by omega)
        clear c115
        obtain rfl := Option.some.inj H
        obtain ⟨hcz116_0, hcz116_1, hcz116_2, hcz116_3, hcz116_4, hcz116_5, hcz116_6, hcz116_7, hfz116_0, hfz116_1, hfz116_2, hfz116_3, hfz116_4, hfz116_5, hfz116_6, hfz116_7⟩ := cz8 BK263.out
        have p277 : 0 ≤ (x6_8 : Int) := of_decide_eq_true (by (with_reducible assumption))
        have q277 : x6_8 < (l0_7.length : Int) := of_decide_eq_true (by (with_reducible assumption))
        obtain ⟨ad277, A277_2, c277_2, e277, hx277_0, hx277_1, hx277_2, hl277_2, hi277_2⟩ := at_T77 HR0_7.out x6_8 p277 q277
        obtain rfl : ad273 = ad277 := (by injection e277)
        replace hx277_0 := (HB.out.cell (World.block_lt_of_cell? w _ hx277_0)).trans hx277_0
        replace hx277_1 := (HB.out.cell (World.block_lt_of_cell? w _ hx277_1)).trans hx277_1
        replace hx277_2 := (HB.out.cell (World.block_lt_of_cell? w _ hx277_2)).trans hx277_2
        have HR277_2 := am_ hi277_2
        have HC277_2 := am_ hl277_2
        clear hi277_2 hl277_2
        replace p277 := eq_true p277
        replace q277 := eq_true q277
        go_wp2
        go_ret
        exact ⟨by rfl, by repeat (with_reducible exact HB.out)⟩
       rw [if_neg c115] at H
       have c115b0 : decide (400 < (((rd_T77 l0_7 x6_8).f2).length : Int)) = false := decide_eq_false c115
       have c115b1 : decide (400 < ((rd_T77 l0_7 x6_8).f2).length) = false := decide_eq_false (by omega)
       clear c115
       have H' := am_ H
       clear H
       obtain ⟨hcz117_0, hcz117_1, hcz117_2, hcz117_3, hcz117_4, hcz117_5, hcz117_6, hcz117_7, hfz117_0, hfz117_1, hfz117_2, hfz117_3, hfz117_4, hfz117_5, hfz117_6, hfz117_7⟩ := cz8 BK263.out
       have p277 : 0 ≤ (x6_8 : Int) := of_decide_eq_true (by (with_reducible assumption))
       have q277 : x6_8 < (l0_7.length : Int) := of_decide_eq_true (by (with_reducible assumption))
       obtain ⟨ad277, A277_2, c277_2, e277, hx277_0, hx277_1, hx277_2, hl277_2, hi277_2⟩ := at_T77 HR0_7.out x6_8 p277 q277
       obtain rfl : ad273 = ad277 := (by injection e277)
       replace hx277_0 := (HB.out.cell (World.block_lt_of_cell? w _ hx277_0)).trans hx277_0
       replace hx277_1 := (HB.out.cell (World.block_lt_of_cell? w _ hx277_1)).trans hx277_1
       replace hx277_2 := (HB.out.cell (World.block_lt_of_cell? w _ hx277_2)).trans hx277_2
       have HR277_2 := am_ hi277_2
       have HC277_2 := am_ hl277_2
       clear hi277_2 hl277_2
       replace p277 := eq_true p277
       replace q277 := eq_true q277
       go_wp2
       go_roundg kj95
       case measure => have := HJ1.out; have := HJ9.out; have := HJ14.out; have := HJ26.out; have := HJ36.out; have := HJ48.out; have := HK7.out; have := HK8.out; have := HJ95.out; omega
       case rel => exact ⟨(wrap64 (x6_8 + 1)), (by rfl), H', ⟨by have := HJ1.out; have := HJ9.out; have := HJ14.out; have := HJ26.out; have := HJ36.out; have := HJ48.out; have := HK7.out; have := HK8.out; have := HJ95.out; omega⟩, ⟨by exact BK263.out⟩, ⟨by repeat (with_reducible exact HB.out)⟩⟩
      rw [if_neg c114] at H
      exact absurd H (by simp)
     rw [if_neg c113] at H
     exact absurd H (by simp)
    rw [if_neg c95] at H
    exact absurd H (by simp)
   rw [if_neg c94] at H
   have c94b0 : decide (x6_8 < (l0_7.length : Int)) = false := decide_eq_false c94
   clear c94
   obtain rfl := Option.some.inj H
   obtain ⟨hcz118_0, hcz118_1, hcz118_2, hcz118_3, hcz118_4, hcz118_5, hcz118_6, hcz118_7, hfz118_0, hfz118_1, hfz118_2, hfz118_3, hfz118_4, hfz118_5, hfz118_6, hfz118_7⟩ := cz8 BK263.out
   go_wp2
   go_ret
   exact ⟨by rfl, by repeat (with_reducible exact HB.out)⟩
  as_aux_lemma =>
  replace c92 := Bool.eq_false_iff.mpr c92
  subst c92
  rw [if_neg (show ¬ (false = true) by decide)] at H
  obtain rfl := Option.some.inj H
  obtain ⟨hcz119_0, hcz119_1, hcz119_2, hcz119_3, hcz119_4, hcz119_5, hcz119_6, hcz119_7, hfz119_0, hfz119_1, hfz119_2, hfz119_3, hfz119_4, hfz119_5, hfz119_6, hfz119_7⟩ := cz8 BK263.out
  go_wp2
  go_ret
  exact ⟨by rfl, by repeat (with_reducible exact HB.out)⟩
 rw [if_neg c48] at H
 have c48b0 : (a0_0 == 1) = false := beq_eq_false_iff_ne.mpr c48
 have c48b1 : (a0_0 != 1) = true := bne_iff_ne.mpr c48
 obtain rfl := Option.some.inj H
 obtain ⟨hcz120_0, hcz120_1, hcz120_2, hcz120_3, hcz120_4, hcz120_5, hcz120_6, hcz120_7, hfz120_0, hfz120_1, hfz120_2, hfz120_3, hfz120_4, hfz120_5, hfz120_6, hfz120_7⟩ := cz8 BK263.out
 go_wp2
 go_ret
 exact ⟨by rfl, by repeat (with_reducible exact HB.out)⟩
end Go.Proofs.YtoandmnefgimoaaDoor.PL
