import Derived.Test.YtoandmnefgimoaaDoorLBPLx0
import Derived.Test.YtoandmnefgimoaaDoorLBPLx10
import Derived.Test.YtoandmnefgimoaaDoorLBPLx30
import Derived.Test.YtoandmnefgimoaaDoorLBPLx31
namespace Go.Proofs.YtoandmnefgimoaaDoor.PL
open Go.RowKit Go.Proofs.YtoandmnefgimoaaDoorW.PrintWords Go.Proofs.YtoandmnefgimoaaDoorW.PrintLast Go.Proofs.YtoandmnefgimoaaDoorW.PrintMore
attribute [local go_sem] max2_int min2_int max_two min_two max_three min_three max_four min_four
set_option linter.unusedVariables false
set_option linter.unusedSimpArgs false
mutual
def grapevineref13_Put.j0 : Nat → List Int → Int → Int → Int → Int → Int → Int → List (S110) → List (S77) → Option (List Int × Int)
 | 0, _, _, _, _, _, _, _, _, _ => none
 | k + 1, x5, x325000, x325001, x325002, x325003, x325004, x325005, x325006, x325007 => (grapevineref13_from.f x325000).bind fun t348 => (if t348 = true then ((grapevineref13_num.f k x325004).bind fun t349 => (if x5.length + t349.length < 140737488355328 then (grapevineref13_Put.j1 k (x5 ++ t349) x325000 x325001 x325002 x325003 x325004 x325005 x325006 x325007) else (none))) else (grapevineref13_Put.j1 k x5 x325000 x325001 x325002 x325003 x325004 x325005 x325006 x325007))
def grapevineref13_Put.j1 : Nat → List Int → Int → Int → Int → Int → Int → Int → List (S110) → List (S77) → Option (List Int × Int)
 | 0, _, _, _, _, _, _, _, _, _ => none
 | k + 1, x5, x325000, x325001, x325002, x325003, x325004, x325005, x325006, x325007 => (grapevineref13_ranged.f x325000).bind fun t355 => (if t355 = true then ((grapevineref13_num.f k x325005).bind fun t356 => (if x5.length + t356.length < 140737488355328 then (grapevineref13_Put.j2 k (x5 ++ t356) x325000 x325001 x325002 x325003 x325004 x325005 x325006 x325007) else (none))) else (grapevineref13_Put.j2 k x5 x325000 x325001 x325002 x325003 x325004 x325005 x325006 x325007))
def grapevineref13_Put.j2 : Nat → List Int → Int → Int → Int → Int → Int → Int → List (S110) → List (S77) → Option (List Int × Int)
 | 0, _, _, _, _, _, _, _, _, _ => none
 | k + 1, x5, x325000, x325001, x325002, x325003, x325004, x325005, x325006, x325007 => if x325000 = 1 then ((grapevineref08_Put.f k x325006).bind fun bt362 => (if x5.length + bt362.1.length < 140737488355328 then ((some (x5 ++ bt362.1 : List Int)).bind fun y366 => ((grapevineref13_num.f k (x325007.length : Int)).bind fun t369 => (if y366.length + t369.length < 140737488355328 then (grapevineref13_Put.l0 k (y366 ++ t369) 0 x325000 x325001 x325002 x325003 x325004 x325005 x325006 x325007) else (none)))) else (none))) else (some (x5, 0))
def grapevineref13_Put.l0 : Nat → List Int → Int → Int → Int → Int → Int → Int → Int → List (S110) → List (S77) → Option (List Int × Int)
 | 0, _, _, _, _, _, _, _, _, _, _ => none
 | k + 1, x5, x8, x325000, x325001, x325002, x325003, x325004, x325005, x325006, x325007 => if x8 < (x325007.length : Int) then (if 0 ≤ x8 then ((grapevineref13_num.f k ((rd_T77 x325007 x8).f0)).bind fun t376 => (if x5.length + t376.length < 140737488355328 then ((some (x5 ++ t376 : List Int)).bind fun y379 => ((grapevineref13_num.f k (wrap64 ((rd_T77 x325007 x8).f1))).bind fun t383 => (if y379.length + t383.length < 140737488355328 then ((some (y379 ++ t383 : List Int)).bind fun y386 => ((grapevineref13_num.f k (((rd_T77 x325007 x8).f2).length : Int)).bind fun t390 => (if y386.length + t390.length < 140737488355328 then ((some (y386 ++ t390 : List Int)).bind fun y393 => (if y393.length + ((rd_T77 x325007 x8).f2).length < 140737488355328 then (grapevineref13_Put.l0 k (y393 ++ ((rd_T77 x325007 x8).f2)) (wrap64 (x8 + 1)) x325000 x325001 x325002 x325003 x325004 x325005 x325006 x325007) else (none))) else (none)))) else (none)))) else (none))) else (none)) else (some (x5, 0))
end
def grapevineref13_Put.f (k : Nat) (a0_0 : Int) (a0_1 : Int) (a0_2 : Int) (a0_3 : Int) (a0_4 : Int) (a0_5 : Int) (l0_6 : List (S110)) (l0_7 : List (S77)) : Option (List Int × Int) := (grapevineref13_Check.f k a0_0 a0_1 a0_2 a0_3 a0_4 a0_5 l0_6 l0_7).bind fun t325 => (if t325 = 0 then ((some (([(a0_0) % 256] : List Int) : List Int)).bind fun y326 => ((grapevineref13_num.f k a0_1).bind fun t329 => (if y326.length + t329.length < 140737488355328 then ((some (y326 ++ t329 : List Int)).bind fun y332 => ((grapevineref13_named.f a0_0).bind fun t335 => (if t335 = true then ((grapevineref13_num.f k a0_2).bind fun t336 => (if y332.length + t336.length < 140737488355328 then ((some (y332 ++ t336 : List Int)).bind fun y339 => ((grapevineref13_num.f k a0_3).bind fun t342 => (if y339.length + t342.length < 140737488355328 then (grapevineref13_Put.j0 k (y339 ++ t342) a0_0 a0_1 a0_2 a0_3 a0_4 a0_5 l0_6 l0_7) else (none)))) else (none))) else (grapevineref13_Put.j0 k y332 a0_0 a0_1 a0_2 a0_3 a0_4 a0_5 l0_6 l0_7)))) else (none)))) else (some (([] : List Int), t325)))
def grapevineref13_Put.T4 : Bool × List (List Nat × List Nat) := (true, [([], []), ([0], [0]), ([1], [1]), ([2], [2]), ([], []), ([4], [4]), ([5], [5]), ([3, 6, 6], [3, 6]), ([7, 7, 0, 1, 2, 3, 4, 5, 6, 7], [7])])
def grapevineref13_Put.B4 : List Nat := [0, 1, 3, 7, 0, 16, 48, 127, 255]
theorem grapevineref13_Put.tab4 : rtab .any (opsOf Tryd.f33 4) = grapevineref13_Put.T4 := by kernel_rfl
theorem grapevineref13_Put.bits4 : waitsOk grapevineref13_Put.T4.2 grapevineref13_Put.B4 = true := by kernel_rfl
set_option maxHeartbeats 8000000 in
set_option maxRecDepth 100000 in
theorem grapevineref13_Put.calls (k : Nat) (a0_0 : Int) (a0_1 : Int) (a0_2 : Int) (a0_3 : Int) (a0_4 : Int) (a0_5 : Int) (A0_6 : Option Addr) (c0_6 : Nat) (l0_6 : List (S110)) (A0_7 : Option Addr) (c0_7 : Nat) (l0_7 : List (S77)) (r1 : List Int) (r2 : Int) (w : World) (hr0_6 : Kd.C k110 w A0_6 l0_6.length l0_6) (hc0_6 : l0_6.length ≤ c0_6) (hr0_7 : Kd.C k77 w A0_7 l0_7.length l0_7) (hc0_7 : l0_7.length ≤ c0_7) (h : grapevineref13_Put.f k a0_0 a0_1 a0_2 a0_3 a0_4 a0_5 l0_6 l0_7 = some (r1, r2)) :
 Calls Tryd.prog 33 #[.agg #[.int .i64 a0_0, .int .i64 a0_1, .int .i64 a0_2, .int .i64 a0_3, .int .i64 a0_4, .int .i64 a0_5, .slice A0_6 l0_6.length c0_6, .slice A0_7 l0_7.length c0_7]] w fun e w' => ∃ v0_ : Value, e = .returned (.tuple #[v0_, .int .i64 r2]) ∧ Kd.R (Kd.int .u8) 5 w' w.heap.size (fun _ => True) v0_ r1 ∧ Below w.heap.size w w' := by
 have hu37 := Tryd.underlying37
 have HR0_6 := am_ hr0_6
 have HC0_6 := am_ hc0_6
 clear hr0_6 hc0_6
 have HR0_7 := am_ hr0_7
 have HC0_7 := am_ hc0_7
 clear hr0_7 hc0_7
 have HB := am_ (Below.refl w.heap.size w)
 have H : ((grapevineref13_Check.f k a0_0 a0_1 a0_2 a0_3 a0_4 a0_5 l0_6 l0_7).bind fun t325 => (if t325 = 0 then ((some (([(a0_0) % 256] : List Int) : List Int)).bind fun y326 => ((grapevineref13_num.f k a0_1).bind fun t329 => (if y326.length + t329.length < 140737488355328 then ((some (y326 ++ t329 : List Int)).bind fun y332 => ((grapevineref13_named.f a0_0).bind fun t335 => (if t335 = true then ((grapevineref13_num.f k a0_2).bind fun t336 => (if y332.length + t336.length < 140737488355328 then ((some (y332 ++ t336 : List Int)).bind fun y339 => ((grapevineref13_num.f k a0_3).bind fun t342 => (if y339.length + t342.length < 140737488355328 then (grapevineref13_Put.j0 k (y339 ++ t342) a0_0 a0_1 a0_2 a0_3 a0_4 a0_5 l0_6 l0_7) else (none)))) else (none))) else (grapevineref13_Put.j0 k y332 a0_0 a0_1 a0_2 a0_3 a0_4 a0_5 l0_6 l0_7)))) else (none)))) else (some (([] : List Int), t325)))) = some (r1, r2) := h
 clear h
 replace H := Option.bind_eq_some_iff.mp H
 obtain ⟨t325, A20, H⟩ := H
 try dsimp only at H
 have A2 := am_ A20
 clear A20
 by_cases c3 : t325 = 0
 ·
  rw [if_pos c3] at H
  have c3b0 : (t325 == 0) = true := beq_iff_eq.mpr c3
  have c3b1 : (t325 != 0) = false := bne_eq_false_iff_eq.mpr c3
  clear c3
  obtain ⟨y326, hy326⟩ : ∃ y_ : List Int, y_ = (([(a0_0) % 256] : List Int)) := ⟨_, rfl⟩
  replace H : ((grapevineref13_num.f k a0_1).bind fun t329 => (if y326.length + t329.length < 140737488355328 then ((some (y326 ++ t329 : List Int)).bind fun y332 => ((grapevineref13_named.f a0_0).bind fun t335 => (if t335 = true then ((grapevineref13_num.f k a0_2).bind fun t336 => (if y332.length + t336.length < 140737488355328 then ((some (y332 ++ t336 : List Int)).bind fun y339 => ((grapevineref13_num.f k a0_3).bind fun t342 => (if y339.length + t342.length < 140737488355328 then (grapevineref13_Put.j0 k (y339 ++ t342) a0_0 a0_1 a0_2 a0_3 a0_4 a0_5 l0_6 l0_7) else (none)))) else (none))) else (grapevineref13_Put.j0 k y332 a0_0 a0_1 a0_2 a0_3 a0_4 a0_5 l0_6 l0_7)))) else (none))) = some (r1, r2) := by (have H2_ := (Option.bind_some _ _).symm.trans H; rw [hy326]; with_reducible exact H2_)
  have Ny326 := am_ hy326
  clear hy326
  replace H := Option.bind_eq_some_iff.mp H
  obtain ⟨t329, A40, H⟩ := H
  try dsimp only at H
  have A4 := am_ A40
  clear A40
  by_cases c5 : y326.length + t329.length < 140737488355328
  ·
   rw [if_pos c5] at H
   have LMc5 := am_ c5
   clear c5
   obtain ⟨y332, hy332⟩ : ∃ y_ : List Int, y_ = (y326 ++ t329) := ⟨_, rfl⟩
   replace H : ((grapevineref13_named.f a0_0).bind fun t335 => (if t335 = true then ((grapevineref13_num.f k a0_2).bind fun t336 => (if y332.length + t336.length < 140737488355328 then ((some (y332 ++ t336 : List Int)).bind fun y339 => ((grapevineref13_num.f k a0_3).bind fun t342 => (if y339.length + t342.length < 140737488355328 then (grapevineref13_Put.j0 k (y339 ++ t342) a0_0 a0_1 a0_2 a0_3 a0_4 a0_5 l0_6 l0_7) else (none)))) else (none))) else (grapevineref13_Put.j0 k y332 a0_0 a0_1 a0_2 a0_3 a0_4 a0_5 l0_6 l0_7))) = some (r1, r2) := by (have H2_ := (Option.bind_some _ _).symm.trans H; rw [hy332]; with_reducible exact H2_)
   have Ny332 := am_ hy332
   clear hy332
   replace H := Option.bind_eq_some_iff.mp H
   obtain ⟨t335, A60, H⟩ := H
   try dsimp only at H
   have A6 := am_ A60
   clear A60
   have HC7 := am_ H
   clear H
   go_enter Tryd.func33, Tryd.ntmps33
   try go_wp2_with (first | ((with_reducible refine gd_ (N := 1) rfl ?_); refine bE 1 #[.int .i64 a0_0, .int .i64 a0_1, .int .i64 a0_2, .int .i64 a0_3, .int .i64 a0_4, .int .i64 a0_5, .slice A0_6 l0_6.length c0_6, .slice A0_7 l0_7.length c0_7] 37 ?_; intro gb324 hg w8 hbox hb; have n0_ := am_ (below_step HB.out hb); have n1_ := am_ (hbox); have n2_ := am_ ((by rw [hg]; exact (bz_ HB.out) : w.heap.size ≤ gb324)); have n3_ := am_ ((by rw [hg]; exact (bz_ HB.out) : w.heap.size ≤ gb324)); clear HB; have HB := n0_; have BK324 := n1_; have GW324 := n2_; have GE324 := n3_; clear n0_ n1_ n2_ n3_; clear hb hbox hg; obtain ⟨hcz9_0, hcz9_1, hcz9_2, hcz9_3, hcz9_4, hcz9_5, hcz9_6, hcz9_7, hfz9_0, hfz9_1, hfz9_2, hfz9_3, hfz9_4, hfz9_5, hfz9_6, hfz9_7⟩ := cz8 BK324.out) | ((with_reducible refine gate_callee (f := 45) rfl ?_); refine gL (some 10) Tryd.func45 #[.agg #[.int .i64 a0_0, .int .i64 a0_1, .int .i64 a0_2, .int .i64 a0_3, .int .i64 a0_4, .int .i64 a0_5, .slice A0_6 l0_6.length c0_6, .slice A0_7 l0_7.length c0_7]] ?_; (with_reducible refine (grapevineref13_Check.calls k a0_0 a0_1 a0_2 a0_3 a0_4 a0_5 _ _ l0_6 _ _ l0_7 t325 _ ?side1 ?side2 ?side3 ?side4 A2.out).mono ?_); (case side1 => repeat (exact (Kd.C_below HR0_6.out HB.out))); (case side2 => exact HC0_6.out); (case side3 => repeat (exact (Kd.C_below HR0_7.out HB.out))); (case side4 => exact HC0_7.out); rintro e w10 ⟨rfl, hb⟩; refine ⟨_, rfl, ?_⟩; have n0_ := am_ (blk_below (g := gb324) (o := .cells #[.int .i64 a0_0, .int .i64 a0_1, .int .i64 a0_2, .int .i64 a0_3, .int .i64 a0_4, .int .i64 a0_5, .slice A0_6 l0_6.length c0_6, .slice A0_7 l0_7.length c0_7] 37 (0, 0)) BK324.out hb); have n1_ := am_ (below_step HB.out hb); clear BK324; clear HB; have BK324 := n0_; have HB := n1_; clear n0_ n1_; (try clear hb)))
   have n0_ := am_ (kd_ BK324.out)
   have n1_ := am_ (bd_ HB.out)
   clear BK324
   clear HB
   have BK324 := n0_
   have HB := n1_
   clear n0_ n1_
   refine start_ (n := 9) (S := fun w' => w'.cell? ⟨gb324, 0, none⟩ = some (.int .i64 a0_0) ∧ w'.cell? ⟨gb324, 1, none⟩ = some (.int .i64 a0_1) ∧ w'.cell? ⟨gb324, 2, none⟩ = some (.int .i64 a0_2) ∧ w'.cell? ⟨gb324, 3, none⟩ = some (.int .i64 a0_3) ∧ w'.cell? ⟨gb324, 4, none⟩ = some (.int .i64 a0_4) ∧ w'.cell? ⟨gb324, 5, none⟩ = some (.int .i64 a0_5) ∧ w'.cell? ⟨gb324, 6, none⟩ = some (.slice A0_6 l0_6.length c0_6) ∧ w'.cell? ⟨gb324, 7, none⟩ = some (.slice A0_7 l0_7.length c0_7)) (ds := []) #[false, false, false, false, false, false, false, false, false] (by kernel_rfl) rfl rfl ⟨(kc_ BK324.out 0).trans rfl, (kc_ BK324.out 1).trans rfl, (kc_ BK324.out 2).trans rfl, (kc_ BK324.out 3).trans rfl, (kc_ BK324.out 4).trans rfl, (kc_ BK324.out 5).trans rfl, (kc_ BK324.out 6).trans rfl, (kc_ BK324.out 7).trans rfl⟩ (fun hHeld => ?_); refine with_tabW grapevineref13_Put.tab4 grapevineref13_Put.bits4 (fun HT_ HW_ => ?_)
   generalize w10.drew = w11 at BK324 HB hHeld ⊢
   refine pA 0 (some 14) #[o1,o0,o0,o0,o0,o0,o0,o0,o0] HT_ ?_
   refine pA 4 (some 18) #[o1,o0,o0,o0,o1,o0,o0,o0,o0] HT_ ?_
   refine tA (v := ?_) 1 (some 15) #[o1,o1,o0,o0,o1,o0,o0,o0,o0] HT_ HW_ hHeld ?_ ?_
   rotate_left
   ·
    rintro w' ⟨s0, s1, s2, s3, s4, s5, s6, s7⟩
    go_simp
    with_reducible rfl
   refine pA 2 (some 16) #[o1,o1,o1,o0,o1,o0,o0,o0,o0] HT_ ?_
   refine tA (v := ?_) 5 (some 19) #[o1,o1,o1,o0,o1,o1,o0,o0,o0] HT_ HW_ hHeld ?_ ?_
   rotate_left
   ·
    rintro w' ⟨s0, s1, s2, s3, s4, s5, s6, s7⟩
    go_simp
    with_reducible rfl
   refine join_ (σ := Value × Value) 2 #[true, true, true, true, true, true, true, false, false] (fun s_ => [(17, s_.1), (20, s_.2)]) (fun s_ w' => (w'.cell? ⟨gb324, 0, none⟩ = some (.int .i64 a0_0) ∧ w'.cell? ⟨gb324, 1, none⟩ = some (.int .i64 a0_1) ∧ w'.cell? ⟨gb324, 2, none⟩ = some (.int .i64 a0_2) ∧ w'.cell? ⟨gb324, 3, none⟩ = some (.int .i64 a0_3) ∧ w'.cell? ⟨gb324, 4, none⟩ = some (.int .i64 a0_4) ∧ w'.cell? ⟨gb324, 5, none⟩ = some (.int .i64 a0_5) ∧ w'.cell? ⟨gb324, 6, none⟩ = some (.slice A0_6 l0_6.length c0_6) ∧ w'.cell? ⟨gb324, 7, none⟩ = some (.slice A0_7 l0_7.length c0_7)) ∧ (Kd.R (Kd.int .u8) 5 w' w.heap.size (fun k_ => some k_ ≠ (s_.2 : Value).ownBlock) s_.1 y326) ∧ (Kd.R (Kd.int .u8) 5 w' w.heap.size (fun k_ => some k_ ≠ (s_.1 : Value).ownBlock) s_.2 t329) ∧ (w'.heap[gb324]? = some (.cells #[.int .i64 a0_0, .int .i64 a0_1, .int .i64 a0_2, .int .i64 a0_3, .int .i64 a0_4, .int .i64 a0_5, .slice A0_6 l0_6.length c0_6, .slice A0_7 l0_7.length c0_7] 37 (0, 0))) ∧ (Below w.heap.size w w')) ?_ ?_
   rotate_left
   ·
    intro hCont
    refine two_ (i := 3) (j := 6) (Ni := some 17) (Nj := some 20) #[true, true, true, true, true, true, false, false, false] #[true, true, true, false, true, true, true, false, false] rfl rfl rfl rfl (two_of HT_.out (by kernel_rfl)) (by decide) (by decide) (fun K hK => ?_) (fun K hK => ?_)
    ·
     refine Kd.R_lit_step (Kd.int .u8) _ 5 ?hg (N := 17) ?hd (xs := ([(a0_0) % 256] : List Int)) (inner := [.int .u8 ((a0_0) % 256)]) (ok := fun _ => True) (okp := fun _ => True) ?hr ?hp (fun _ hk => hk) trivial (Below.refl _ _) (Nat.le_refl _) (by simp) ?_; (case hd => rfl); (case hg => rfl); (case hr => (go_simp; rfl)); (case hp => exact (Reps.one (show Kd.M (Kd.int .u8) _ _ _ ((a0_0) % 256) [.int .u8 ((a0_0) % 256)] from rfl) (Reps.none _ _)))
     intro v327 w12 ho13 hb hg_ hnew_
     clear hg_ hnew_
     (rw [← Ny326.out] at ho13)
     have n0_ := am_ (Kd.R_lower ho13 (bz_ HB.out))
     have n1_ := am_ (blk_below (g := gb324) (o := .cells #[.int .i64 a0_0, .int .i64 a0_1, .int .i64 a0_2, .int .i64 a0_3, .int .i64 a0_4, .int .i64 a0_5, .slice A0_6 l0_6.length c0_6, .slice A0_7 l0_7.length c0_7] 37 (0, 0)) BK324.out hb)
     have n2_ := am_ (below_step HB.out hb)
     clear BK324
     clear HB
     have HO328 := n0_
     have BK324 := n1_
     have HB := n2_
     clear n0_ n1_ n2_
     clear hb ho13
     refine hK.out _ _ ⟨(kc_ BK324.out 0).trans rfl, (kc_ BK324.out 1).trans rfl, (kc_ BK324.out 2).trans rfl, (kc_ BK324.out 3).trans rfl, (kc_ BK324.out 4).trans rfl, (kc_ BK324.out 5).trans rfl, (kc_ BK324.out 6).trans rfl, (kc_ BK324.out 7).trans rfl⟩ (fun hHeld => ?_)
     clear hK K
     refine nA (N := some 17) ?_
     refine nO 6 (some 20) #[o1,o1,o1,o1,o1,o1,o1,o0,o0] HT_ (fun K hK => ?_)
     refine goes_ Tryd.func46 (by kernel_rfl) rfl #[.int .i64 a0_1] (by rfl) rfl rfl (by (try simp only [List.map_toArray, List.map_cons, List.map_nil]); rfl) ?_
     with_reducible refine (grapevineref13_num.calls k a0_1 t329 _ A4.out).mono ?_
     rintro e w14 ⟨v330, rfl, ho0, hb⟩
     refine ⟨_, rfl, ?_⟩
     have n0_ := am_ (Kd.R_elder' HO328.out (Kd.R_base ho0) hb)
     have n1_ := am_ (Kd.R_lower (Kd.R_new' ho0 (Kd.R_lt HO328.out)) (bz_ HB.out))
     have n2_ := am_ (blk_below (g := gb324) (o := .cells #[.int .i64 a0_0, .int .i64 a0_1, .int .i64 a0_2, .int .i64 a0_3, .int .i64 a0_4, .int .i64 a0_5, .slice A0_6 l0_6.length c0_6, .slice A0_7 l0_7.length c0_7] 37 (0, 0)) BK324.out hb)
     have n3_ := am_ (below_step HB.out hb)
     clear HO328
     clear BK324
     clear HB
     have HO328 := n0_
     have HO331 := n1_
     have BK324 := n2_
     have HB := n3_
     clear n0_ n1_ n2_ n3_
     (try clear hb)
     (skip)
     (skip)
     (skip)
     (try clear ho0)
     refine hK.out _ _ ⟨(kc_ BK324.out 0).trans rfl, (kc_ BK324.out 1).trans rfl, (kc_ BK324.out 2).trans rfl, (kc_ BK324.out 3).trans rfl, (kc_ BK324.out 4).trans rfl, (kc_ BK324.out 5).trans rfl, (kc_ BK324.out 6).trans rfl, (kc_ BK324.out 7).trans rfl⟩ (fun hHeld => ?_)
     clear hK K
     refine nA (N := some 20) ?_
     exact norm_ (by simp only [putAll, Act.put, qa_, qb_, qc_]) (hCont (v327, v330) _ ⟨hHeld, (by exact Kd.R_mono HO328.out (fun _ hk => hk.2)), (by exact Kd.R_mono HO331.out (fun _ hk => hk.2)), BK324.out, HB.out⟩)
    refine goes_ Tryd.func46 (by kernel_rfl) rfl #[.int .i64 a0_1] (by rfl) rfl rfl (by (try simp only [List.map_toArray, List.map_cons, List.map_nil]); rfl) ?_
    with_reducible refine (grapevineref13_num.calls k a0_1 t329 _ A4.out).mono ?_
    rintro e w12 ⟨v330, rfl, ho0, hb⟩
    refine ⟨_, rfl, ?_⟩
    have n0_ := am_ (Kd.R_lower ho0 (bz_ HB.out))
    have n1_ := am_ (blk_below (g := gb324) (o := .cells #[.int .i64 a0_0, .int .i64 a0_1, .int .i64 a0_2, .int .i64 a0_3, .int .i64 a0_4, .int .i64 a0_5, .slice A0_6 l0_6.length c0_6, .slice A0_7 l0_7.length c0_7] 37 (0, 0)) BK324.out hb)
    have n2_ := am_ (below_step HB.out hb)
    clear BK324
    clear HB
    have HO331 := n0_
    have BK324 := n1_
    have HB := n2_
    clear n0_ n1_ n2_
    (try clear hb)
    (skip)
    (skip)
    (skip)
    (try clear ho0)
    refine hK.out _ _ ⟨(kc_ BK324.out 0).trans rfl, (kc_ BK324.out 1).trans rfl, (kc_ BK324.out 2).trans rfl, (kc_ BK324.out 3).trans rfl, (kc_ BK324.out 4).trans rfl, (kc_ BK324.out 5).trans rfl, (kc_ BK324.out 6).trans rfl, (kc_ BK324.out 7).trans rfl⟩ (fun hHeld => ?_)
    clear hK K
    refine nA (N := some 20) ?_
    refine nO 3 (some 17) #[o1,o1,o1,o1,o1,o1,o1,o0,o0] HT_ (fun K hK => ?_)
    refine Kd.R_lit_step (Kd.int .u8) _ 5 ?hg (N := 17) ?hd (xs := ([(a0_0) % 256] : List Int)) (inner := [.int .u8 ((a0_0) % 256)]) (ok := fun _ => True) (okp := fun _ => True) ?hr ?hp (fun _ hk => hk) trivial (Below.refl _ _) (Nat.le_refl _) (by simp) ?_; (case hd => rfl); (case hg => rfl); (case hr => (go_simp; rfl)); (case hp => exact (Reps.one (show Kd.M (Kd.int .u8) _ _ _ ((a0_0) % 256) [.int .u8 ((a0_0) % 256)] from rfl) (Reps.none _ _)))
    intro v327 w13 ho14 hb hg_ hnew_
    clear hg_ hnew_
    (rw [← Ny326.out] at ho14)
    have n0_ := am_ (Kd.R_elder' HO331.out (Kd.R_base ho14) hb)
    have n1_ := am_ (Kd.R_lower (Kd.R_new' ho14 (Kd.R_lt HO331.out)) (bz_ HB.out))
    have n2_ := am_ (blk_below (g := gb324) (o := .cells #[.int .i64 a0_0, .int .i64 a0_1, .int .i64 a0_2, .int .i64 a0_3, .int .i64 a0_4, .int .i64 a0_5, .slice A0_6 l0_6.length c0_6, .slice A0_7 l0_7.length c0_7] 37 (0, 0)) BK324.out hb)
    have n3_ := am_ (below_step HB.out hb)
    clear HO331
    clear BK324
    clear HB
    have HO331 := n0_
    have HO328 := n1_
    have BK324 := n2_
    have HB := n3_
    clear n0_ n1_ n2_ n3_
    clear hb ho14
    refine hK.out _ _ ⟨(kc_ BK324.out 0).trans rfl, (kc_ BK324.out 1).trans rfl, (kc_ BK324.out 2).trans rfl, (kc_ BK324.out 3).trans rfl, (kc_ BK324.out 4).trans rfl, (kc_ BK324.out 5).trans rfl, (kc_ BK324.out 6).trans rfl, (kc_ BK324.out 7).trans rfl⟩ (fun hHeld => ?_)
    clear hK K
    refine nA (N := some 17) ?_
    exact norm_ (by simp only [putAll, Act.put, qa_, qb_, qc_]) (hCont (v327, v330) _ ⟨hHeld, (by exact Kd.R_mono HO328.out (fun _ hk => hk.2)), (by exact Kd.R_mono HO331.out (fun _ hk => hk.2)), BK324.out, HB.out⟩)
   rintro ⟨v327, v330⟩ w15 ⟨hS_, h0_, h1_, h2_, h3_⟩
   have n0_ : Aside0 (Kd.R (Kd.int .u8) 5 w15 w.heap.size (fun k_ => some k_ ≠ (v330 : Value).ownBlock) v327 y326) := ⟨h0_⟩
   have n1_ : Aside0 (Kd.R (Kd.int .u8) 5 w15 w.heap.size (fun k_ => some k_ ≠ (v327 : Value).ownBlock) v330 t329) := ⟨h1_⟩
   have n2_ : Aside0 (w15.heap[gb324]? = some (.cells #[.int .i64 a0_0, .int .i64 a0_1, .int .i64 a0_2, .int .i64 a0_3, .int .i64 a0_4, .int .i64 a0_5, .slice A0_6 l0_6.length c0_6, .slice A0_7 l0_7.length c0_7] 37 (0, 0))) := ⟨h2_⟩
   have n3_ : Aside0 (Below w.heap.size w w15) := ⟨h3_⟩
   clear BK324
   clear HB
   clear h0_ h1_ h2_ h3_
   have HO328 := n0_
   have HO331 := n1_
   have BK324 := n2_
   have HB := n3_
   clear n0_ n1_ n2_ n3_
   have hHeld : w15.cell? ⟨gb324, 0, none⟩ = some (.int .i64 a0_0) ∧ w15.cell? ⟨gb324, 1, none⟩ = some (.int .i64 a0_1) ∧ w15.cell? ⟨gb324, 2, none⟩ = some (.int .i64 a0_2) ∧ w15.cell? ⟨gb324, 3, none⟩ = some (.int .i64 a0_3) ∧ w15.cell? ⟨gb324, 4, none⟩ = some (.int .i64 a0_4) ∧ w15.cell? ⟨gb324, 5, none⟩ = some (.int .i64 a0_5) ∧ w15.cell? ⟨gb324, 6, none⟩ = some (.slice A0_6 l0_6.length c0_6) ∧ w15.cell? ⟨gb324, 7, none⟩ = some (.slice A0_7 l0_7.length c0_7) := hS_
   obtain ⟨Ao17, co17, eo17⟩ := Kd.R_slice HO331.out
   (subst eo17)
   refine norm_ (a' := ?_) ?_ ?_
   rotate_left
   ·
    simp only [putAll, Act.put, qa_, qb_, qc_]
    rfl
   refine nO 7 (some 21) #[o1,o1,o1,o1,o1,o1,o1,o1,o0] HT_ (fun K hK => ?_)
   refine Kd.R_append_rows_step (Kd.int .u8) (w0 := w) w.heap.size (by rfl) (.tmp 17) (.tmp 20) 42 5 (.int .u8 0) 1 rfl Tryd.underlying42 info5 rfl (by decide) (by omega) v327 y326 t329 _ _ _ (fun k_ => some k_ ≠ (.slice Ao17 t329.length co17 : Value).ownBlock) (fun _ => False) rfl rfl ?aO ?aR (fun _ _ h => h) (fun _ h => h.elim) ?aF ?aB ?aS ?aL ?_
   (case aR => repeat (exact (Kd.R_reads' HO331.out).2.2))
   (case aB => exact HB.out)
   (case aF => exact (fun k_ hk => Kd.fresh' (Kd.R_lt HO331.out) k_ hk))
   (case aO => exact HO328.out)
   (case aS => exact (bz_ HB.out))
   (case aL => have := LMc5.out; omega)
   intro v333 w16 ho hb hg hat
   rw [← Ny332.out] at ho
   have n0_ := am_ (blk_grown (g := gb324) (o := .cells #[.int .i64 a0_0, .int .i64 a0_1, .int .i64 a0_2, .int .i64 a0_3, .int .i64 a0_4, .int .i64 a0_5, .slice A0_6 l0_6.length c0_6, .slice A0_7 l0_7.length c0_7] 37 (0, 0)) BK324.out hg (Kd.R_ne HO328.out BK324.out (by decide)))
   have n1_ := am_ (Kd.R_after (ok := (fun _ => True)) (by exact Kd.R_mono HO331.out (fun _ hk => ⟨trivial, hk⟩)) hg hat)
   have n2_ := am_ (hb)
   have n3_ := am_ (ho)
   clear BK324
   clear HO331
   clear HB
   clear HO328
   have BK324 := n0_
   have HO331 := n1_
   have HB := n2_
   have HO334 := n3_
   clear n0_ n1_ n2_ n3_
   clear ho hb hg hat
   refine hK.out _ _ ⟨(kc_ BK324.out 0).trans rfl, (kc_ BK324.out 1).trans rfl, (kc_ BK324.out 2).trans rfl, (kc_ BK324.out 3).trans rfl, (kc_ BK324.out 4).trans rfl, (kc_ BK324.out 5).trans rfl, (kc_ BK324.out 6).trans rfl, (kc_ BK324.out 7).trans rfl⟩ (fun hHeld => ?_)
   clear hK K
   refine nA (N := some 21) ?_
   refine pA 8 (some 5) #[o1,o1,o1,o1,o1,o1,o1,o1,o1] HT_ ?_
   refine dA HT_ ?_
   obtain ⟨hcz18_0, hcz18_1, hcz18_2, hcz18_3, hcz18_4, hcz18_5, hcz18_6, hcz18_7, hfz18_0, hfz18_1, hfz18_2, hfz18_3, hfz18_4, hfz18_5, hfz18_6, hfz18_7⟩ := cz8 BK324.out
   go_upto_if 24 with (((with_reducible refine gate_callee (f := 24) rfl ?_); refine gL (some 24) Tryd.func24 #[.int .i64 a0_0] ?_; (with_reducible refine (grapevineref13_named.calls a0_0 t335 _ A6.out).mono ?_); rintro e w' ⟨rfl, ⟨nd, rfl⟩⟩; refine ⟨_, rfl, ?_⟩))
   (try simp only [Act.put, qa_, qb_, qc_])
   go_cut [5] (fun v5 wc => ∃ (kq : Nat) (x5_6 : List Int), Aside0 (grapevineref13_Put.j0 kq x5_6 a0_0 a0_1 a0_2 a0_3 a0_4 a0_5 l0_6 l0_7 = some (r1, r2)) ∧ Aside0 (kq ≤ k) ∧ Aside0 (Kd.R (Kd.int .u8) 5 wc w.heap.size (fun _ => True) v5 x5_6) ∧ Aside0 (wc.heap[gb324]? = some (.cells #[.int .i64 a0_0, .int .i64 a0_1, .int .i64 a0_2, .int .i64 a0_3, .int .i64 a0_4, .int .i64 a0_5, (.slice A0_6 l0_6.length c0_6), (.slice A0_7 l0_7.length c0_7)] 37 (0, 0))) ∧ Aside0 (Below w.heap.size w wc))
   case first =>
    have H := HC7.out
    clear HC7
    by_cases c19 : t335 = true
    ·
     subst c19
     rw [if_pos rfl] at H
     replace H := Option.bind_eq_some_iff.mp H
     obtain ⟨t336, A200, H⟩ := H
     try dsimp only at H
     have A20 := am_ A200
     clear A200
     by_cases c21 : y332.length + t336.length < 140737488355328
     ·
      rw [if_pos c21] at H
      have LMc21 := am_ c21
      clear c21
      obtain ⟨y339, hy339⟩ : ∃ y_ : List Int, y_ = (y332 ++ t336) := ⟨_, rfl⟩
      replace H : ((grapevineref13_num.f k a0_3).bind fun t342 => (if y339.length + t342.length < 140737488355328 then (grapevineref13_Put.j0 k (y339 ++ t342) a0_0 a0_1 a0_2 a0_3 a0_4 a0_5 l0_6 l0_7) else (none))) = some (r1, r2) := by (have H2_ := (Option.bind_some _ _).symm.trans H; rw [hy339]; with_reducible exact H2_)
      have Ny339 := am_ hy339
      clear hy339
      replace H := Option.bind_eq_some_iff.mp H
      obtain ⟨t342, A220, H⟩ := H
      try dsimp only at H
      have A22 := am_ A220
      clear A220
      by_cases c23 : y339.length + t342.length < 140737488355328
      ·
       rw [if_pos c23] at H
       have LMc23 := am_ c23
       clear c23
       obtain ⟨y345, hy345⟩ : ∃ y_ : List Int, y_ = (y339 ++ t342) := ⟨_, rfl⟩
       replace H : (grapevineref13_Put.j0 k y345 a0_0 a0_1 a0_2 a0_3 a0_4 a0_5 l0_6 l0_7) = some (r1, r2) := by (rw [hy345]; with_reducible exact H)
       have Ny345 := am_ hy345
       clear hy345
       have H' := am_ H
       clear H
       obtain ⟨hcz24_0, hcz24_1, hcz24_2, hcz24_3, hcz24_4, hcz24_5, hcz24_6, hcz24_7, hfz24_0, hfz24_1, hfz24_2, hfz24_3, hfz24_4, hfz24_5, hfz24_6, hfz24_7⟩ := cz8 BK324.out
       go_wp2_with (first | ((with_reducible refine gate_callee (f := 46) rfl ?_); refine gL (some 28) Tryd.func46 #[.int .i64 a0_2] ?_; (with_reducible refine (grapevineref13_num.calls k a0_2 t336 _ A20.out).mono ?_); rintro e w25 ⟨v337, rfl, ho0, hb⟩; refine ⟨_, rfl, ?_⟩; have n0_ := am_ (Kd.R_elder' (by (with_reducible repeat (apply Kd.R_drewN)); exact HO331.out) (Kd.R_base ho0) hb); have n1_ := am_ (Kd.R_elder' (by (with_reducible repeat (apply Kd.R_drewN)); exact HO334.out) (Kd.R_base ho0) hb); have n2_ := am_ (Kd.R_lower (Kd.R_new' (Kd.R_new' ho0 (Kd.R_lt (by (with_reducible repeat (apply Kd.R_drewN)); exact HO331.out))) (Kd.R_lt (by (with_reducible repeat (apply Kd.R_drewN)); exact HO334.out))) (bz_ (by repeat (with_reducible first | exact HB.out | apply bn_)))); have n3_ := am_ (blk_below (g := gb324) (o := .cells #[.int .i64 a0_0, .int .i64 a0_1, .int .i64 a0_2, .int .i64 a0_3, .int .i64 a0_4, .int .i64 a0_5, .slice A0_6 l0_6.length c0_6, .slice A0_7 l0_7.length c0_7] 37 (0, 0)) (by (with_reducible repeat (refine kn_ ?_ _)); exact BK324.out) hb); have n4_ := am_ (below_step (by repeat (with_reducible first | exact HB.out | apply bn_)) hb); clear HO331; clear HO334; clear BK324; clear HB; have HO331 := n0_; have HO334 := n1_; have HO338 := n2_; have BK324 := n3_; have HB := n4_; clear n0_ n1_ n2_ n3_ n4_; (try clear hb); (try clear ho0); obtain ⟨Ao27, co27, eo27⟩ := Kd.R_slice HO338.out; subst eo27) | ((with_reducible refine gate_builtin (b := .append) (xs := #[.tmp 25, .tmp 28]) rfl ?_); at_builtin; refine Kd.R_append_rows (Kd.int .u8) (w0 := w) w.heap.size rfl (.tmp 25) (.tmp 28) 42 5 (.int .u8 0) 1 rfl Tryd.underlying42 info5 rfl (by decide) (by omega) v333 y332 t336 _ _ _ (fun k_ => some k_ ≠ (.slice Ao17 t329.length co17 : Value).ownBlock ∧ some k_ ≠ (.slice Ao27 t336.length co27 : Value).ownBlock) (fun _ => False) rfl rfl ?aO ?aR (fun _ _ h => h) (fun _ h => h.elim) ?aF ?aB ?aS ?aL ?_; (case aR => repeat (exact (Kd.R_reads' HO338.out).2.2)); (case aB => exact HB.out); (case aF => exact (fun k_ hk => ⟨Kd.fresh' (Kd.R_lt HO331.out) k_ hk, Kd.fresh' (Kd.R_lt HO338.out) k_ hk⟩)); (case aO => exact HO334.out); (case aS => exact (bz_ HB.out)); (case aL => have := LMc21.out; omega); intro v340 w26 ho hb hg hat; rw [← Ny339.out] at ho; have n0_ := am_ (blk_grown (g := gb324) (o := .cells #[.int .i64 a0_0, .int .i64 a0_1, .int .i64 a0_2, .int .i64 a0_3, .int .i64 a0_4, .int .i64 a0_5, .slice A0_6 l0_6.length c0_6, .slice A0_7 l0_7.length c0_7] 37 (0, 0)) BK324.out hg (Kd.R_ne HO334.out BK324.out (by decide))); have n1_ := am_ (Kd.R_after (ok := (fun k_ => some k_ ≠ (.slice Ao27 t336.length co27 : Value).ownBlock)) (by exact Kd.R_mono HO331.out (fun _ hk => ⟨hk.2, hk.1.2⟩)) hg hat); have n2_ := am_ (Kd.R_after (ok := (fun k_ => some k_ ≠ (.slice Ao17 t329.length co17 : Value).ownBlock)) (by exact Kd.R_mono HO338.out (fun _ hk => ⟨hk.1.2, hk.2⟩)) hg hat); have n3_ := am_ (hb); have n4_ := am_ (ho); clear BK324; clear HO331; clear HO338; clear HB; clear HO334; have BK324 := n0_; have HO331 := n1_; have HO338 := n2_; have HB := n3_; have HO341 := n4_; clear n0_ n1_ n2_ n3_ n4_; clear ho hb hg hat; obtain ⟨hcz28_0, hcz28_1, hcz28_2, hcz28_3, hcz28_4, hcz28_5, hcz28_6, hcz28_7, hfz28_0, hfz28_1, hfz28_2, hfz28_3, hfz28_4, hfz28_5, hfz28_6, hfz28_7⟩ := cz8 BK324.out) | ((with_reducible refine gate_callee (f := 46) rfl ?_); refine gL (some 33) Tryd.func46 #[.int .i64 a0_3] ?_; (with_reducible refine (grapevineref13_num.calls k a0_3 t342 _ A22.out).mono ?_); rintro e w29 ⟨v343, rfl, ho0, hb⟩; refine ⟨_, rfl, ?_⟩; have n0_ := am_ (Kd.R_elder' HO331.out (Kd.R_base ho0) hb); have n1_ := am_ (Kd.R_elder' HO338.out (Kd.R_base ho0) hb); have n2_ := am_ (Kd.R_elder' HO341.out (Kd.R_base ho0) hb); have n3_ := am_ (Kd.R_lower (Kd.R_new' (Kd.R_new' (Kd.R_new' ho0 (Kd.R_lt HO331.out)) (Kd.R_lt HO338.out)) (Kd.R_lt HO341.out)) (bz_ HB.out)); have n4_ := am_ (blk_below (g := gb324) (o := .cells #[.int .i64 a0_0, .int .i64 a0_1, .int .i64 a0_2, .int .i64 a0_3, .int .i64 a0_4, .int .i64 a0_5, .slice A0_6 l0_6.length c0_6, .slice A0_7 l0_7.length c0_7] 37 (0, 0)) BK324.out hb); have n5_ := am_ (below_step HB.out hb); clear HO331; clear HO338; clear HO341; clear BK324; clear HB; have HO331 := n0_; have HO338 := n1_; have HO341 := n2_; have HO344 := n3_; have BK324 := n4_; have HB := n5_; clear n0_ n1_ n2_ n3_ n4_ n5_; (try clear hb); (try clear ho0); obtain ⟨Ao31, co31, eo31⟩ := Kd.R_slice HO344.out; subst eo31) | ((with_reducible refine gate_builtin (b := .append) (xs := #[.tmp 30, .tmp 33]) rfl ?_); at_builtin; refine Kd.R_append_rows (Kd.int .u8) (w0 := w) w.heap.size rfl (.tmp 30) (.tmp 33) 42 5 (.int .u8 0) 1 rfl Tryd.underlying42 info5 rfl (by decide) (by omega) v340 y339 t342 _ _ _ (fun k_ => some k_ ≠ (.slice Ao17 t329.length co17 : Value).ownBlock ∧ some k_ ≠ (.slice Ao27 t336.length co27 : Value).ownBlock ∧ some k_ ≠ (.slice Ao31 t342.length co31 : Value).ownBlock) (fun _ => False) rfl rfl ?aO ?aR (fun _ _ h => h) (fun _ h => h.elim) ?aF ?aB ?aS ?aL ?_; (case aR => repeat (exact (Kd.R_reads' HO344.out).2.2)); (case aB => exact HB.out); (case aF => exact (fun k_ hk => ⟨Kd.fresh' (Kd.R_lt HO331.out) k_ hk, Kd.fresh' (Kd.R_lt HO338.out) k_ hk, Kd.fresh' (Kd.R_lt HO344.out) k_ hk⟩)); (case aO => exact (by exact Kd.R_mono HO341.out (fun _ hk => ⟨hk.1.1, ⟨hk.1.2, hk.2⟩⟩))); (case aS => exact (bz_ HB.out)); (case aL => have := LMc23.out; omega); intro v346 w30 ho hb hg hat; rw [← Ny345.out] at ho; have n0_ := am_ (blk_grown (g := gb324) (o := .cells #[.int .i64 a0_0, .int .i64 a0_1, .int .i64 a0_2, .int .i64 a0_3, .int .i64 a0_4, .int .i64 a0_5, .slice A0_6 l0_6.length c0_6, .slice A0_7 l0_7.length c0_7] 37 (0, 0)) BK324.out hg (Kd.R_ne HO341.out BK324.out (by decide))); have n1_ := am_ (Kd.R_after (ok := (fun k_ => some k_ ≠ (.slice Ao27 t336.length co27 : Value).ownBlock ∧ some k_ ≠ (.slice Ao31 t342.length co31 : Value).ownBlock)) (by exact Kd.R_mono HO331.out (fun _ hk => ⟨⟨hk.1.1, hk.2⟩, hk.1.2⟩)) hg hat); have n2_ := am_ (Kd.R_after (ok := (fun k_ => some k_ ≠ (.slice Ao17 t329.length co17 : Value).ownBlock ∧ some k_ ≠ (.slice Ao31 t342.length co31 : Value).ownBlock)) (by exact Kd.R_mono HO338.out (fun _ hk => ⟨⟨hk.1.1, hk.2⟩, hk.1.2⟩)) hg hat); have n3_ := am_ (Kd.R_after (ok := (fun k_ => some k_ ≠ (.slice Ao17 t329.length co17 : Value).ownBlock ∧ some k_ ≠ (.slice Ao27 t336.length co27 : Value).ownBlock)) (by exact Kd.R_mono HO344.out (fun _ hk => ⟨⟨hk.1.1.2, hk.1.2⟩, hk.2⟩)) hg hat); have n4_ := am_ (hb); have n5_ := am_ (ho); clear BK324; clear HO331; clear HO338; clear HO344; clear HB; clear HO341; have BK324 := n0_; have HO331 := n1_; have HO338 := n2_; have HO344 := n3_; have HB := n4_; have HO347 := n5_; clear n0_ n1_ n2_ n3_ n4_ n5_; clear ho hb hg hat))
       go_meet
       case rel => exact ⟨_, (y345), H', ⟨by omega⟩, ⟨by exact Kd.R_mono HO347.out (fun _ hk => trivial)⟩, ⟨by exact BK324.out⟩, ⟨by repeat (with_reducible exact HB.out)⟩⟩
      rw [if_neg c23] at H
      exact absurd H (by simp)
     rw [if_neg c21] at H
     exact absurd H (by simp)
    replace c19 := Bool.eq_false_iff.mpr c19
    subst c19
    rw [if_neg (show ¬ (false = true) by decide)] at H
    have H' := am_ H
    clear H
    go_wp2
    go_meet
    case rel => exact ⟨_, (y332), H', ⟨by omega⟩, ⟨by (with_reducible repeat (apply Kd.R_drewN)); exact Kd.R_mono HO334.out (fun _ hk => trivial)⟩, ⟨by (with_reducible repeat (refine kn_ ?_ _)); exact BK324.out⟩, ⟨by repeat (with_reducible first | exact HB.out | apply bn_)⟩⟩
   case rest =>
   clear HC7
   try clear c3b0
   try clear c3b1
   try clear hcz18_0
   try clear hcz18_1
   try clear hcz18_2
   try clear hcz18_3
   try clear hcz18_4
   try clear hcz18_5
   try clear hcz18_6
   try clear hcz18_7
   try clear hcz9_0
   try clear hcz9_1
   try clear hcz9_2
   try clear hcz9_3
   try clear hcz9_4
   try clear hcz9_5
   try clear hcz9_6
   try clear hcz9_7
   try clear hfz18_0
   try clear hfz18_1
   try clear hfz18_2
   try clear hfz18_3
   try clear hfz18_4
   try clear hfz18_5
   try clear hfz18_6
   try clear hfz18_7
   try clear hfz9_0
   try clear hfz9_1
   try clear hfz9_2
   try clear hfz9_3
   try clear hfz9_4
   try clear hfz9_5
   try clear hfz9_6
   try clear hfz9_7
   obtain ⟨kq, x5_6, HA, HJ6, HO_5, BK324, HB⟩ := hcut
   cases kq with
   | zero => exact absurd HA.out (by simp [grapevineref13_Put.j0])
   | succ kj6 =>
   have H := HA.out
   clear HA
   simp only [grapevineref13_Put.j0] at H
   replace H := Option.bind_eq_some_iff.mp H
   obtain ⟨t348, A320, H⟩ := H
   try dsimp only at H
   have A32 := am_ A320
   clear A320
   have HC33 := am_ H
   clear H
   obtain ⟨hcz34_0, hcz34_1, hcz34_2, hcz34_3, hcz34_4, hcz34_5, hcz34_6, hcz34_7, hfz34_0, hfz34_1, hfz34_2, hfz34_3, hfz34_4, hfz34_5, hfz34_6, hfz34_7⟩ := cz8 BK324.out
   go_upto_if 37 with (((with_reducible refine gate_callee (f := 25) rfl ?_); refine gL (some 37) Tryd.func25 #[.int .i64 a0_0] ?_; (with_reducible refine (grapevineref13_from.calls a0_0 t348 _ A32.out).mono ?_); rintro e w' ⟨rfl, ⟨nd, rfl⟩⟩; refine ⟨_, rfl, ?_⟩))
   (try simp only [Act.put, qa_, qb_, qc_])
   go_cut [5] (fun v5 wc => ∃ (kq : Nat) (x5_32 : List Int), Aside0 (grapevineref13_Put.j1 kq x5_32 a0_0 a0_1 a0_2 a0_3 a0_4 a0_5 l0_6 l0_7 = some (r1, r2)) ∧ Aside0 (kq ≤ kj6) ∧ Aside0 (Kd.R (Kd.int .u8) 5 wc w.heap.size (fun _ => True) v5 x5_32) ∧ Aside0 (wc.heap[gb324]? = some (.cells #[.int .i64 a0_0, .int .i64 a0_1, .int .i64 a0_2, .int .i64 a0_3, .int .i64 a0_4, .int .i64 a0_5, (.slice A0_6 l0_6.length c0_6), (.slice A0_7 l0_7.length c0_7)] 37 (0, 0))) ∧ Aside0 (Below w.heap.size w wc))
   case first =>
    have H := HC33.out
    clear HC33
    by_cases c35 : t348 = true
    ·
     subst c35
     rw [if_pos rfl] at H
     replace H := Option.bind_eq_some_iff.mp H
     obtain ⟨t349, A360, H⟩ := H
     try dsimp only at H
     have A36 := am_ A360
     clear A360
     by_cases c37 : x5_6.length + t349.length < 140737488355328
     ·
      rw [if_pos c37] at H
      have LMc37 := am_ c37
      clear c37
      obtain ⟨y352, hy352⟩ : ∃ y_ : List Int, y_ = (x5_6 ++ t349) := ⟨_, rfl⟩
      replace H : (grapevineref13_Put.j1 kj6 y352 a0_0 a0_1 a0_2 a0_3 a0_4 a0_5 l0_6 l0_7) = some (r1, r2) := by (rw [hy352]; with_reducible exact H)
      have Ny352 := am_ hy352
      clear hy352
      have H' := am_ H
      clear H
      obtain ⟨hcz38_0, hcz38_1, hcz38_2, hcz38_3, hcz38_4, hcz38_5, hcz38_6, hcz38_7, hfz38_0, hfz38_1, hfz38_2, hfz38_3, hfz38_4, hfz38_5, hfz38_6, hfz38_7⟩ := cz8 BK324.out
      go_wp2_with (first | ((with_reducible refine gate_callee (f := 46) rfl ?_); refine gL (some 41) Tryd.func46 #[.int .i64 a0_4] ?_; (with_reducible refine (grapevineref13_num.calls kj6 a0_4 t349 _ A36.out).mono ?_); rintro e w39 ⟨v350, rfl, ho0, hb⟩; refine ⟨_, rfl, ?_⟩; have n0_ := am_ (Kd.R_elder' (by (with_reducible repeat (apply Kd.R_drewN)); exact HO_5.out) (Kd.R_base ho0) hb); have n1_ := am_ (Kd.R_lower (Kd.R_new' ho0 (Kd.R_lt (by (with_reducible repeat (apply Kd.R_drewN)); exact HO_5.out))) (bz_ (by repeat (with_reducible first | exact HB.out | apply bn_)))); have n2_ := am_ (blk_below (g := gb324) (o := .cells #[.int .i64 a0_0, .int .i64 a0_1, .int .i64 a0_2, .int .i64 a0_3, .int .i64 a0_4, .int .i64 a0_5, .slice A0_6 l0_6.length c0_6, .slice A0_7 l0_7.length c0_7] 37 (0, 0)) (by (with_reducible repeat (refine kn_ ?_ _)); exact BK324.out) hb); have n3_ := am_ (below_step (by repeat (with_reducible first | exact HB.out | apply bn_)) hb); clear HO_5; clear BK324; clear HB; have HO_5 := n0_; have HO351 := n1_; have BK324 := n2_; have HB := n3_; clear n0_ n1_ n2_ n3_; (try clear hb); (try clear ho0); obtain ⟨Ao41, co41, eo41⟩ := Kd.R_slice HO351.out; subst eo41) | ((with_reducible refine gate_builtin (b := .append) (xs := #[.tmp 38, .tmp 41]) rfl ?_); at_builtin; refine Kd.R_append_rows (Kd.int .u8) (w0 := w) w.heap.size rfl (.tmp 38) (.tmp 41) 42 5 (.int .u8 0) 1 rfl Tryd.underlying42 info5 rfl (by decide) (by omega) u5 x5_6 t349 _ _ _ (fun k_ => some k_ ≠ (.slice Ao41 t349.length co41 : Value).ownBlock) (fun _ => False) rfl rfl ?aO ?aR (fun _ _ h => h) (fun _ h => h.elim) ?aF ?aB ?aS ?aL ?_; (case aR => repeat (exact (Kd.R_reads' HO351.out).2.2)); (case aB => exact HB.out); (case aF => exact (fun k_ hk => Kd.fresh' (Kd.R_lt HO351.out) k_ hk)); (case aO => exact (by exact Kd.R_mono HO_5.out (fun _ hk => hk.2))); (case aS => exact (bz_ HB.out)); (case aL => have := LMc37.out; omega); intro v353 w40 ho hb hg hat; rw [← Ny352.out] at ho; have n0_ := am_ (blk_grown (g := gb324) (o := .cells #[.int .i64 a0_0, .int .i64 a0_1, .int .i64 a0_2, .int .i64 a0_3, .int .i64 a0_4, .int .i64 a0_5, .slice A0_6 l0_6.length c0_6, .slice A0_7 l0_7.length c0_7] 37 (0, 0)) BK324.out hg (Kd.R_ne HO_5.out BK324.out (by decide))); have n1_ := am_ (Kd.R_after (ok := (fun _ => True)) HO351.out hg hat); have n2_ := am_ (hb); have n3_ := am_ (ho); clear BK324; clear HO351; clear HB; clear HO_5; have BK324 := n0_; have HO351 := n1_; have HB := n2_; have HO354 := n3_; clear n0_ n1_ n2_ n3_; clear ho hb hg hat))
      go_meet
      case rel => exact ⟨_, (y352), H', ⟨by have := HJ6.out; omega⟩, ⟨by exact Kd.R_mono HO354.out (fun _ hk => trivial)⟩, ⟨by exact BK324.out⟩, ⟨by repeat (with_reducible exact HB.out)⟩⟩
     rw [if_neg c37] at H
     exact absurd H (by simp)
    replace c35 := Bool.eq_false_iff.mpr c35
    subst c35
    rw [if_neg (show ¬ (false = true) by decide)] at H
    have H' := am_ H
    clear H
    go_wp2
    go_meet
    case rel => exact ⟨_, (x5_6), H', ⟨by have := HJ6.out; omega⟩, ⟨by (with_reducible repeat (apply Kd.R_drewN)); exact HO_5.out⟩, ⟨by (with_reducible repeat (refine kn_ ?_ _)); exact BK324.out⟩, ⟨by repeat (with_reducible first | exact HB.out | apply bn_)⟩⟩
   case rest =>
   clear HC33
   try clear c3b0
   try clear c3b1
   try clear hcz18_0
   try clear hcz18_1
   try clear hcz18_2
   try clear hcz18_3
   try clear hcz18_4
   try clear hcz18_5
   try clear hcz18_6
   try clear hcz18_7
   try clear hcz34_0
   try clear hcz34_1
   try clear hcz34_2
   try clear hcz34_3
   try clear hcz34_4
   try clear hcz34_5
   try clear hcz34_6
   try clear hcz34_7
   try clear hcz9_0
   try clear hcz9_1
   try clear hcz9_2
   try clear hcz9_3
   try clear hcz9_4
   try clear hcz9_5
   try clear hcz9_6
   try clear hcz9_7
   try clear hfz18_0
   try clear hfz18_1
   try clear hfz18_2
   try clear hfz18_3
   try clear hfz18_4
   try clear hfz18_5
   try clear hfz18_6
   try clear hfz18_7
   try clear hfz34_0
   try clear hfz34_1
   try clear hfz34_2
   try clear hfz34_3
   try clear hfz34_4
   try clear hfz34_5
   try clear hfz34_6
   try clear hfz34_7
   try clear hfz9_0
   try clear hfz9_1
   try clear hfz9_2
   try clear hfz9_3
   try clear hfz9_4
   try clear hfz9_5
   try clear hfz9_6
   try clear hfz9_7
   obtain ⟨kq, x5_32, HA, HJ32, HO_5, BK324, HB⟩ := hcut
   cases kq with
   | zero => exact absurd HA.out (by simp [grapevineref13_Put.j1])
   | succ kj32 =>
   have H := HA.out
   clear HA
   simp only [grapevineref13_Put.j1] at H
   replace H := Option.bind_eq_some_iff.mp H
   obtain ⟨t355, A420, H⟩ := H
   try dsimp only at H
   have A42 := am_ A420
   clear A420
   have HC43 := am_ H
   clear H
   obtain ⟨hcz44_0, hcz44_1, hcz44_2, hcz44_3, hcz44_4, hcz44_5, hcz44_6, hcz44_7, hfz44_0, hfz44_1, hfz44_2, hfz44_3, hfz44_4, hfz44_5, hfz44_6, hfz44_7⟩ := cz8 BK324.out
   go_upto_if 45 with (((with_reducible refine gate_callee (f := 23) rfl ?_); refine gL (some 45) Tryd.func23 #[.int .i64 a0_0] ?_; (with_reducible refine (grapevineref13_ranged.calls a0_0 t355 _ A42.out).mono ?_); rintro e w' ⟨rfl, ⟨nd, rfl⟩⟩; refine ⟨_, rfl, ?_⟩))
   (try simp only [Act.put, qa_, qb_, qc_])
   go_cut [5] (fun v5 wc => ∃ (kq : Nat) (x5_42 : List Int), Aside0 (grapevineref13_Put.j2 kq x5_42 a0_0 a0_1 a0_2 a0_3 a0_4 a0_5 l0_6 l0_7 = some (r1, r2)) ∧ Aside0 (kq ≤ kj32) ∧ Aside0 (Kd.R (Kd.int .u8) 5 wc w.heap.size (fun _ => True) v5 x5_42) ∧ Aside0 (wc.heap[gb324]? = some (.cells #[.int .i64 a0_0, .int .i64 a0_1, .int .i64 a0_2, .int .i64 a0_3, .int .i64 a0_4, .int .i64 a0_5, (.slice A0_6 l0_6.length c0_6), (.slice A0_7 l0_7.length c0_7)] 37 (0, 0))) ∧ Aside0 (Below w.heap.size w wc))
   case first =>
    have H := HC43.out
    clear HC43
    by_cases c45 : t355 = true
    ·
     subst c45
     rw [if_pos rfl] at H
     replace H := Option.bind_eq_some_iff.mp H
     obtain ⟨t356, A460, H⟩ := H
     try dsimp only at H
     have A46 := am_ A460
     clear A460
     by_cases c47 : x5_32.length + t356.length < 140737488355328
     ·
      rw [if_pos c47] at H
      have LMc47 := am_ c47
      clear c47
      obtain ⟨y359, hy359⟩ : ∃ y_ : List Int, y_ = (x5_32 ++ t356) := ⟨_, rfl⟩
      replace H : (grapevineref13_Put.j2 kj32 y359 a0_0 a0_1 a0_2 a0_3 a0_4 a0_5 l0_6 l0_7) = some (r1, r2) := by (rw [hy359]; with_reducible exact H)
      have Ny359 := am_ hy359
      clear hy359
      have H' := am_ H
      clear H
      obtain ⟨hcz48_0, hcz48_1, hcz48_2, hcz48_3, hcz48_4, hcz48_5, hcz48_6, hcz48_7, hfz48_0, hfz48_1, hfz48_2, hfz48_3, hfz48_4, hfz48_5, hfz48_6, hfz48_7⟩ := cz8 BK324.out
      go_wp2_with (first | ((with_reducible refine gate_callee (f := 46) rfl ?_); refine gL (some 49) Tryd.func46 #[.int .i64 a0_5] ?_; (with_reducible refine (grapevineref13_num.calls kj32 a0_5 t356 _ A46.out).mono ?_); rintro e w49 ⟨v357, rfl, ho0, hb⟩; refine ⟨_, rfl, ?_⟩; have n0_ := am_ (Kd.R_elder' (by (with_reducible repeat (apply Kd.R_drewN)); exact HO_5.out) (Kd.R_base ho0) hb); have n1_ := am_ (Kd.R_lower (Kd.R_new' ho0 (Kd.R_lt (by (with_reducible repeat (apply Kd.R_drewN)); exact HO_5.out))) (bz_ (by repeat (with_reducible first | exact HB.out | apply bn_)))); have n2_ := am_ (blk_below (g := gb324) (o := .cells #[.int .i64 a0_0, .int .i64 a0_1, .int .i64 a0_2, .int .i64 a0_3, .int .i64 a0_4, .int .i64 a0_5, .slice A0_6 l0_6.length c0_6, .slice A0_7 l0_7.length c0_7] 37 (0, 0)) (by (with_reducible repeat (refine kn_ ?_ _)); exact BK324.out) hb); have n3_ := am_ (below_step (by repeat (with_reducible first | exact HB.out | apply bn_)) hb); clear HO_5; clear BK324; clear HB; have HO_5 := n0_; have HO358 := n1_; have BK324 := n2_; have HB := n3_; clear n0_ n1_ n2_ n3_; (try clear hb); (try clear ho0); obtain ⟨Ao51, co51, eo51⟩ := Kd.R_slice HO358.out; subst eo51) | ((with_reducible refine gate_builtin (b := .append) (xs := #[.tmp 46, .tmp 49]) rfl ?_); at_builtin; refine Kd.R_append_rows (Kd.int .u8) (w0 := w) w.heap.size rfl (.tmp 46) (.tmp 49) 42 5 (.int .u8 0) 1 rfl Tryd.underlying42 info5 rfl (by decide) (by omega) u5 x5_32 t356 _ _ _ (fun k_ => some k_ ≠ (.slice Ao51 t356.length co51 : Value).ownBlock) (fun _ => False) rfl rfl ?aO ?aR (fun _ _ h => h) (fun _ h => h.elim) ?aF ?aB ?aS ?aL ?_; (case aR => repeat (exact (Kd.R_reads' HO358.out).2.2)); (case aB => exact HB.out); (case aF => exact (fun k_ hk => Kd.fresh' (Kd.R_lt HO358.out) k_ hk)); (case aO => exact (by exact Kd.R_mono HO_5.out (fun _ hk => hk.2))); (case aS => exact (bz_ HB.out)); (case aL => have := LMc47.out; omega); intro v360 w50 ho hb hg hat; rw [← Ny359.out] at ho; have n0_ := am_ (blk_grown (g := gb324) (o := .cells #[.int .i64 a0_0, .int .i64 a0_1, .int .i64 a0_2, .int .i64 a0_3, .int .i64 a0_4, .int .i64 a0_5, .slice A0_6 l0_6.length c0_6, .slice A0_7 l0_7.length c0_7] 37 (0, 0)) BK324.out hg (Kd.R_ne HO_5.out BK324.out (by decide))); have n1_ := am_ (Kd.R_after (ok := (fun _ => True)) HO358.out hg hat); have n2_ := am_ (hb); have n3_ := am_ (ho); clear BK324; clear HO358; clear HB; clear HO_5; have BK324 := n0_; have HO358 := n1_; have HB := n2_; have HO361 := n3_; clear n0_ n1_ n2_ n3_; clear ho hb hg hat))
      go_meet
      case rel => exact ⟨_, (y359), H', ⟨by have := HJ6.out; have := HJ32.out; omega⟩, ⟨by exact Kd.R_mono HO361.out (fun _ hk => trivial)⟩, ⟨by exact BK324.out⟩, ⟨by repeat (with_reducible exact HB.out)⟩⟩
     rw [if_neg c47] at H
     exact absurd H (by simp)
    replace c45 := Bool.eq_false_iff.mpr c45
    subst c45
    rw [if_neg (show ¬ (false = true) by decide)] at H
    have H' := am_ H
    clear H
    go_wp2
    go_meet
    case rel => exact ⟨_, (x5_32), H', ⟨by have := HJ6.out; have := HJ32.out; omega⟩, ⟨by (with_reducible repeat (apply Kd.R_drewN)); exact HO_5.out⟩, ⟨by (with_reducible repeat (refine kn_ ?_ _)); exact BK324.out⟩, ⟨by repeat (with_reducible first | exact HB.out | apply bn_)⟩⟩
   case rest =>
   clear HC43
   try clear c3b0
   try clear c3b1
   try clear hcz18_0
   try clear hcz18_1
   try clear hcz18_2
   try clear hcz18_3
   try clear hcz18_4
   try clear hcz18_5
   try clear hcz18_6
   try clear hcz18_7
   try clear hcz34_0
   try clear hcz34_1
   try clear hcz34_2
   try clear hcz34_3
   try clear hcz34_4
   try clear hcz34_5
   try clear hcz34_6
   try clear hcz34_7
   try clear hcz44_0
   try clear hcz44_1
   try clear hcz44_2
   try clear hcz44_3
   try clear hcz44_4
   try clear hcz44_5
   try clear hcz44_6
   try clear hcz44_7
   try clear hcz9_0
   try clear hcz9_1
   try clear hcz9_2
   try clear hcz9_3
   try clear hcz9_4
   try clear hcz9_5
   try clear hcz9_6
   try clear hcz9_7
   try clear hfz18_0
   try clear hfz18_1
   try clear hfz18_2
   try clear hfz18_3
   try clear hfz18_4
   try clear hfz18_5
   try clear hfz18_6
   try clear hfz18_7
   try clear hfz34_0
   try clear hfz34_1
   try clear hfz34_2
   try clear hfz34_3
   try clear hfz34_4
   try clear hfz34_5
   try clear hfz34_6
   try clear hfz34_7
   try clear hfz44_0
   try clear hfz44_1
   try clear hfz44_2
   try clear hfz44_3
   try clear hfz44_4
   try clear hfz44_5
   try clear hfz44_6
   try clear hfz44_7
   try clear hfz9_0
   try clear hfz9_1
   try clear hfz9_2
   try clear hfz9_3
   try clear hfz9_4
   try clear hfz9_5
   try clear hfz9_6
   try clear hfz9_7
   obtain ⟨kq, x5_42, HA, HJ42, HO_5, BK324, HB⟩ := hcut
   cases kq with
   | zero => exact absurd HA.out (by simp [grapevineref13_Put.j2])
   | succ kj42 =>
   have H := HA.out
   clear HA
   simp only [grapevineref13_Put.j2] at H
   by_cases c52 : a0_0 = 1
   ·
    rw [if_pos c52] at H
    have c52b0 : (a0_0 == 1) = true := beq_iff_eq.mpr c52
    have c52b1 : (a0_0 != 1) = false := bne_eq_false_iff_eq.mpr c52
    clear c52
    replace H := Option.bind_eq_some_iff.mp H
    obtain ⟨⟨t362, t363⟩, A530, H⟩ := H
    try dsimp only at H
    have A53 := am_ A530
    clear A530
    by_cases c54 : x5_42.length + t362.length < 140737488355328
    ·
     rw [if_pos c54] at H
     have LMc54 := am_ c54
     clear c54
     obtain ⟨y366, hy366⟩ : ∃ y_ : List Int, y_ = (x5_42 ++ t362) := ⟨_, rfl⟩
     replace H : ((grapevineref13_num.f kj42 (l0_7.length : Int)).bind fun t369 => (if y366.length + t369.length < 140737488355328 then (grapevineref13_Put.l0 kj42 (y366 ++ t369) 0 a0_0 a0_1 a0_2 a0_3 a0_4 a0_5 l0_6 l0_7) else (none))) = some (r1, r2) := by (have H2_ := (Option.bind_some _ _).symm.trans H; rw [hy366]; with_reducible exact H2_)
     have Ny366 := am_ hy366
     clear hy366
     replace H := Option.bind_eq_some_iff.mp H
     obtain ⟨t369, A550, H⟩ := H
     try dsimp only at H
     have A55 := am_ A550
     clear A550
     by_cases c56 : y366.length + t369.length < 140737488355328
     ·
      rw [if_pos c56] at H
      have LMc56 := am_ c56
      clear c56
      obtain ⟨y372, hy372⟩ : ∃ y_ : List Int, y_ = (y366 ++ t369) := ⟨_, rfl⟩
      replace H : (grapevineref13_Put.l0 kj42 y372 0 a0_0 a0_1 a0_2 a0_3 a0_4 a0_5 l0_6 l0_7) = some (r1, r2) := by (rw [hy372]; with_reducible exact H)
      have Ny372 := am_ hy372
      clear hy372
      have H' := am_ H
      clear H
      obtain ⟨hcz57_0, hcz57_1, hcz57_2, hcz57_3, hcz57_4, hcz57_5, hcz57_6, hcz57_7, hfz57_0, hfz57_1, hfz57_2, hfz57_3, hfz57_4, hfz57_5, hfz57_6, hfz57_7⟩ := cz8 BK324.out
      go_wp2_with (first | ((with_reducible refine gate_callee (f := 47) rfl ?_); refine gL (some 58) Tryd.func47 #[.slice A0_6 l0_6.length c0_6] ?_; (with_reducible refine (grapevineref08_Put.calls kj42 _ _ l0_6 t362 t363 _ ?side1 ?side2 A53.out).mono ?_); (case side1 => repeat (exact (Kd.C_below HR0_6.out HB.out))); (case side2 => exact HC0_6.out); rintro e w58 ⟨v364, rfl, ho0, hb⟩; refine ⟨_, rfl, ?_⟩; have n0_ := am_ (Kd.R_elder' HO_5.out (Kd.R_base ho0) hb); have n1_ := am_ (Kd.R_lower (Kd.R_new' ho0 (Kd.R_lt HO_5.out)) (bz_ HB.out)); have n2_ := am_ (blk_below (g := gb324) (o := .cells #[.int .i64 a0_0, .int .i64 a0_1, .int .i64 a0_2, .int .i64 a0_3, .int .i64 a0_4, .int .i64 a0_5, .slice A0_6 l0_6.length c0_6, .slice A0_7 l0_7.length c0_7] 37 (0, 0)) BK324.out hb); have n3_ := am_ (below_step HB.out hb); clear HO_5; clear BK324; clear HB; have HO_5 := n0_; have HO365 := n1_; have BK324 := n2_; have HB := n3_; clear n0_ n1_ n2_ n3_; (try clear hb); (try clear ho0); obtain ⟨Ao60, co60, eo60⟩ := Kd.R_slice HO365.out; subst eo60) | ((with_reducible refine gate_builtin (b := .append) (xs := #[.tmp 61, .tmp 62]) rfl ?_); at_builtin; refine Kd.R_append_rows (Kd.int .u8) (w0 := w) w.heap.size rfl (.tmp 61) (.tmp 62) 42 5 (.int .u8 0) 1 rfl Tryd.underlying42 info5 rfl (by decide) (by omega) u5 x5_42 t362 _ _ _ (fun k_ => some k_ ≠ (.slice Ao60 t362.length co60 : Value).ownBlock) (fun _ => False) rfl rfl ?aO ?aR (fun _ _ h => h) (fun _ h => h.elim) ?aF ?aB ?aS ?aL ?_; (case aR => repeat (exact (Kd.R_reads' HO365.out).2.2)); (case aB => exact HB.out); (case aF => exact (fun k_ hk => Kd.fresh' (Kd.R_lt HO365.out) k_ hk)); (case aO => exact (by exact Kd.R_mono HO_5.out (fun _ hk => hk.2))); (case aS => exact (bz_ HB.out)); (case aL => have := LMc54.out; omega); intro v367 w59 ho hb hg hat; rw [← Ny366.out] at ho; have n0_ := am_ (blk_grown (g := gb324) (o := .cells #[.int .i64 a0_0, .int .i64 a0_1, .int .i64 a0_2, .int .i64 a0_3, .int .i64 a0_4, .int .i64 a0_5, .slice A0_6 l0_6.length c0_6, .slice A0_7 l0_7.length c0_7] 37 (0, 0)) BK324.out hg (Kd.R_ne HO_5.out BK324.out (by decide))); have n1_ := am_ (Kd.R_after (ok := (fun _ => True)) HO365.out hg hat); have n2_ := am_ (hb); have n3_ := am_ (ho); clear BK324; clear HO365; clear HB; clear HO_5; have BK324 := n0_; have HO365 := n1_; have HB := n2_; have HO368 := n3_; clear n0_ n1_ n2_ n3_; clear ho hb hg hat; obtain ⟨hcz61_0, hcz61_1, hcz61_2, hcz61_3, hcz61_4, hcz61_5, hcz61_6, hcz61_7, hfz61_0, hfz61_1, hfz61_2, hfz61_3, hfz61_4, hfz61_5, hfz61_6, hfz61_7⟩ := cz8 BK324.out) | ((with_reducible refine gate_callee (f := 46) rfl ?_); refine gL (some 68) Tryd.func46 #[.int .i64 (l0_7.length : Int)] ?_; (with_reducible refine (grapevineref13_num.calls kj42 (l0_7.length : Int) t369 _ A55.out).mono ?_); rintro e w62 ⟨v370, rfl, ho0, hb⟩; refine ⟨_, rfl, ?_⟩; have n0_ := am_ (Kd.R_elder' HO365.out (Kd.R_base ho0) hb); have n1_ := am_ (Kd.R_elder' HO368.out (Kd.R_base ho0) hb); have n2_ := am_ (Kd.R_lower (Kd.R_new' (Kd.R_new' ho0 (Kd.R_lt HO365.out)) (Kd.R_lt HO368.out)) (bz_ HB.out)); have n3_ := am_ (blk_below (g := gb324) (o := .cells #[.int .i64 a0_0, .int .i64 a0_1, .int .i64 a0_2, .int .i64 a0_3, .int .i64 a0_4, .int .i64 a0_5, .slice A0_6 l0_6.length c0_6, .slice A0_7 l0_7.length c0_7] 37 (0, 0)) BK324.out hb); have n4_ := am_ (below_step HB.out hb); clear HO365; clear HO368; clear BK324; clear HB; have HO365 := n0_; have HO368 := n1_; have HO371 := n2_; have BK324 := n3_; have HB := n4_; clear n0_ n1_ n2_ n3_ n4_; (try clear hb); (try clear ho0); obtain ⟨Ao64, co64, eo64⟩ := Kd.R_slice HO371.out; subst eo64) | ((with_reducible refine gate_builtin (b := .append) (xs := #[.tmp 64, .tmp 68]) rfl ?_); at_builtin; refine Kd.R_append_rows (Kd.int .u8) (w0 := w) w.heap.size rfl (.tmp 64) (.tmp 68) 42 5 (.int .u8 0) 1 rfl Tryd.underlying42 info5 rfl (by decide) (by omega) v367 y366 t369 _ _ _ (fun k_ => some k_ ≠ (.slice Ao60 t362.length co60 : Value).ownBlock ∧ some k_ ≠ (.slice Ao64 t369.length co64 : Value).ownBlock) (fun _ => False) rfl rfl ?aO ?aR (fun _ _ h => h) (fun _ h => h.elim) ?aF ?aB ?aS ?aL ?_; (case aR => repeat (exact (Kd.R_reads' HO371.out).2.2)); (case aB => exact HB.out); (case aF => exact (fun k_ hk => ⟨Kd.fresh' (Kd.R_lt HO365.out) k_ hk, Kd.fresh' (Kd.R_lt HO371.out) k_ hk⟩)); (case aO => exact HO368.out); (case aS => exact (bz_ HB.out)); (case aL => have := LMc56.out; omega); intro v373 w63 ho hb hg hat; rw [← Ny372.out] at ho; have n0_ := am_ (blk_grown (g := gb324) (o := .cells #[.int .i64 a0_0, .int .i64 a0_1, .int .i64 a0_2, .int .i64 a0_3, .int .i64 a0_4, .int .i64 a0_5, .slice A0_6 l0_6.length c0_6, .slice A0_7 l0_7.length c0_7] 37 (0, 0)) BK324.out hg (Kd.R_ne HO368.out BK324.out (by decide))); have n1_ := am_ (Kd.R_after (ok := (fun k_ => some k_ ≠ (.slice Ao64 t369.length co64 : Value).ownBlock)) (by exact Kd.R_mono HO365.out (fun _ hk => ⟨hk.2, hk.1.2⟩)) hg hat); have n2_ := am_ (Kd.R_after (ok := (fun k_ => some k_ ≠ (.slice Ao60 t362.length co60 : Value).ownBlock)) (by exact Kd.R_mono HO371.out (fun _ hk => ⟨hk.1.2, hk.2⟩)) hg hat); have n3_ := am_ (hb); have n4_ := am_ (ho); clear BK324; clear HO365; clear HO371; clear HB; clear HO368; have BK324 := n0_; have HO365 := n1_; have HO371 := n2_; have HB := n3_; have HO374 := n4_; clear n0_ n1_ n2_ n3_ n4_; clear ho hb hg hat))
      go_loopg [5, 8] kj42 (fun kq v5 v8 w' => ∃ (x5_4 : List Int) (x8_4 : Int), v8 = .int .i64 x8_4 ∧ Aside0 (grapevineref13_Put.l0 kq x5_4 x8_4 a0_0 a0_1 a0_2 a0_3 a0_4 a0_5 l0_6 l0_7 = some (r1, r2)) ∧ Aside0 (kq ≤ kj42) ∧ Aside0 (Kd.R (Kd.int .u8) 5 w' w.heap.size (fun _ => True) v5 x5_4) ∧ Aside0 (w'.heap[gb324]? = some (.cells #[.int .i64 a0_0, .int .i64 a0_1, .int .i64 a0_2, .int .i64 a0_3, .int .i64 a0_4, .int .i64 a0_5, (.slice A0_6 l0_6.length c0_6), (.slice A0_7 l0_7.length c0_7)] 37 (0, 0))) ∧ Aside0 (Below w.heap.size w w'))
      case atStart => exact ⟨(y372), (0), (by rfl), H', ⟨Nat.le_refl _⟩, ⟨by exact Kd.R_mono HO374.out (fun _ hk => trivial)⟩, ⟨by exact BK324.out⟩, ⟨by repeat (with_reducible exact HB.out)⟩⟩
      case round =>
      clear H'
      try clear c3b0
      try clear c3b1
      try clear c52b0
      try clear c52b1
      try clear hcz18_0
      try clear hcz18_1
      try clear hcz18_2
      try clear hcz18_3
      try clear hcz18_4
      try clear hcz18_5
      try clear hcz18_6
      try clear hcz18_7
      try clear hcz34_0
      try clear hcz34_1
      try clear hcz34_2
      try clear hcz34_3
      try clear hcz34_4
      try clear hcz34_5
      try clear hcz34_6
      try clear hcz34_7
      try clear hcz44_0
      try clear hcz44_1
      try clear hcz44_2
      try clear hcz44_3
      try clear hcz44_4
      try clear hcz44_5
      try clear hcz44_6
      try clear hcz44_7
      try clear hcz57_0
      try clear hcz57_1
      try clear hcz57_2
      try clear hcz57_3
      try clear hcz57_4
      try clear hcz57_5
      try clear hcz57_6
      try clear hcz57_7
      try clear hcz61_0
      try clear hcz61_1
      try clear hcz61_2
      try clear hcz61_3
      try clear hcz61_4
      try clear hcz61_5
      try clear hcz61_6
      try clear hcz61_7
      try clear hcz9_0
      try clear hcz9_1
      try clear hcz9_2
      try clear hcz9_3
      try clear hcz9_4
      try clear hcz9_5
      try clear hcz9_6
      try clear hcz9_7
      try clear hfz18_0
      try clear hfz18_1
      try clear hfz18_2
      try clear hfz18_3
      try clear hfz18_4
      try clear hfz18_5
      try clear hfz18_6
      try clear hfz18_7
      try clear hfz34_0
      try clear hfz34_1
      try clear hfz34_2
      try clear hfz34_3
      try clear hfz34_4
      try clear hfz34_5
      try clear hfz34_6
      try clear hfz34_7
      try clear hfz44_0
      try clear hfz44_1
      try clear hfz44_2
      try clear hfz44_3
      try clear hfz44_4
      try clear hfz44_5
      try clear hfz44_6
      try clear hfz44_7
      try clear hfz57_0
      try clear hfz57_1
      try clear hfz57_2
      try clear hfz57_3
      try clear hfz57_4
      try clear hfz57_5
      try clear hfz57_6
      try clear hfz57_7
      try clear hfz61_0
      try clear hfz61_1
      try clear hfz61_2
      try clear hfz61_3
      try clear hfz61_4
      try clear hfz61_5
      try clear hfz61_6
      try clear hfz61_7
      try clear hfz9_0
      try clear hfz9_1
      try clear hfz9_2
      try clear hfz9_3
      try clear hfz9_4
      try clear hfz9_5
      try clear hfz9_6
      try clear hfz9_7
      obtain ⟨x5_4, x8_4, rfl, HA, HK4, HO_5, BK324, HB⟩ := hrel
      cases gk with
      | zero => exact absurd HA.out (by simp [grapevineref13_Put.l0])
      | succ k4 =>
      have H := HA.out
      clear HA
      simp only [grapevineref13_Put.l0] at H
      by_cases c65 : x8_4 < (l0_7.length : Int)
      ·
       rw [if_pos c65] at H
       have c65b0 : decide (x8_4 < (l0_7.length : Int)) = true := decide_eq_true c65
       clear c65
       by_cases c66 : 0 ≤ x8_4
       ·
        rw [if_pos c66] at H
        have c66b0 : decide (0 ≤ x8_4) = true := decide_eq_true c66
        clear c66
        replace H := Option.bind_eq_some_iff.mp H
        obtain ⟨t376, A670, H⟩ := H
        try dsimp only at H
        have A67 := am_ A670
        clear A670
        by_cases c68 : x5_4.length + t376.length < 140737488355328
        ·
         rw [if_pos c68] at H
         have LMc68 := am_ c68
         clear c68
         obtain ⟨y379, hy379⟩ : ∃ y_ : List Int, y_ = (x5_4 ++ t376) := ⟨_, rfl⟩
         replace H : ((grapevineref13_num.f k4 (wrap64 ((rd_T77 l0_7 x8_4).f1))).bind fun t383 => (if y379.length + t383.length < 140737488355328 then ((some (y379 ++ t383 : List Int)).bind fun y386 => ((grapevineref13_num.f k4 (((rd_T77 l0_7 x8_4).f2).length : Int)).bind fun t390 => (if y386.length + t390.length < 140737488355328 then ((some (y386 ++ t390 : List Int)).bind fun y393 => (if y393.length + ((rd_T77 l0_7 x8_4).f2).length < 140737488355328 then (grapevineref13_Put.l0 k4 (y393 ++ ((rd_T77 l0_7 x8_4).f2)) (wrap64 (x8_4 + 1)) a0_0 a0_1 a0_2 a0_3 a0_4 a0_5 l0_6 l0_7) else (none))) else (none)))) else (none))) = some (r1, r2) := by (have H2_ := (Option.bind_some _ _).symm.trans H; rw [hy379]; with_reducible exact H2_)
         have Ny379 := am_ hy379
         clear hy379
         replace H := Option.bind_eq_some_iff.mp H
         obtain ⟨t383, A690, H⟩ := H
         try dsimp only at H
         have A69 := am_ A690
         clear A690
         by_cases c70 : y379.length + t383.length < 140737488355328
         ·
          rw [if_pos c70] at H
          have LMc70 := am_ c70
          clear c70
          obtain ⟨y386, hy386⟩ : ∃ y_ : List Int, y_ = (y379 ++ t383) := ⟨_, rfl⟩
          replace H : ((grapevineref13_num.f k4 (((rd_T77 l0_7 x8_4).f2).length : Int)).bind fun t390 => (if y386.length + t390.length < 140737488355328 then ((some (y386 ++ t390 : List Int)).bind fun y393 => (if y393.length + ((rd_T77 l0_7 x8_4).f2).length < 140737488355328 then (grapevineref13_Put.l0 k4 (y393 ++ ((rd_T77 l0_7 x8_4).f2)) (wrap64 (x8_4 + 1)) a0_0 a0_1 a0_2 a0_3 a0_4 a0_5 l0_6 l0_7) else (none))) else (none))) = some (r1, r2) := by (have H2_ := (Option.bind_some _ _).symm.trans H; rw [hy386]; with_reducible exact H2_)
          have Ny386 := am_ hy386
          clear hy386
          replace H := Option.bind_eq_some_iff.mp H
          obtain ⟨t390, A710, H⟩ := H
          try dsimp only at H
          have A71 := am_ A710
          clear A710
          by_cases c72 : y386.length + t390.length < 140737488355328
          ·
           rw [if_pos c72] at H
           have LMc72 := am_ c72
           clear c72
           obtain ⟨y393, hy393⟩ : ∃ y_ : List Int, y_ = (y386 ++ t390) := ⟨_, rfl⟩
           replace H : (if y393.length + ((rd_T77 l0_7 x8_4).f2).length < 140737488355328 then (grapevineref13_Put.l0 k4 (y393 ++ ((rd_T77 l0_7 x8_4).f2)) (wrap64 (x8_4 + 1)) a0_0 a0_1 a0_2 a0_3 a0_4 a0_5 l0_6 l0_7) else (none)) = some (r1, r2) := by (have H2_ := (Option.bind_some _ _).symm.trans H; rw [hy393]; with_reducible exact H2_)
           have Ny393 := am_ hy393
           clear hy393
           by_cases c73 : y393.length + ((rd_T77 l0_7 x8_4).f2).length < 140737488355328
           ·
            rw [if_pos c73] at H
            have LMc73 := am_ c73
            clear c73
            obtain ⟨y397, hy397⟩ : ∃ y_ : List Int, y_ = (y393 ++ ((rd_T77 l0_7 x8_4).f2)) := ⟨_, rfl⟩
            replace H : (grapevineref13_Put.l0 k4 y397 (wrap64 (x8_4 + 1)) a0_0 a0_1 a0_2 a0_3 a0_4 a0_5 l0_6 l0_7) = some (r1, r2) := by (rw [hy397]; with_reducible exact H)
            have Ny397 := am_ hy397
            clear hy397
            have H' := am_ H
            clear H
            obtain ⟨hcz74_0, hcz74_1, hcz74_2, hcz74_3, hcz74_4, hcz74_5, hcz74_6, hcz74_7, hfz74_0, hfz74_1, hfz74_2, hfz74_3, hfz74_4, hfz74_5, hfz74_6, hfz74_7⟩ := cz8 BK324.out
            have p375 : 0 ≤ (x8_4 : Int) := of_decide_eq_true (by (with_reducible assumption))
            have q375 : x8_4 < (l0_7.length : Int) := of_decide_eq_true (by (with_reducible assumption))
            obtain ⟨ad375, A375_2, c375_2, e375, hx375_0, hx375_1, hx375_2, hl375_2, hi375_2⟩ := at_T77 HR0_7.out x8_4 p375 q375
            cases e375
            replace hx375_0 := (HB.out.cell (World.block_lt_of_cell? w _ hx375_0)).trans hx375_0
            replace hx375_1 := (HB.out.cell (World.block_lt_of_cell? w _ hx375_1)).trans hx375_1
            replace hx375_2 := (HB.out.cell (World.block_lt_of_cell? w _ hx375_2)).trans hx375_2
            have HR375_2 := am_ hi375_2
            have HC375_2 := am_ hl375_2
            clear hi375_2 hl375_2
            replace p375 := eq_true p375
            replace q375 := eq_true q375
            go_wp2_with (first | ((with_reducible refine gate_callee (f := 46) rfl ?_); refine gL (some 84) Tryd.func46 #[.int .i64 ((rd_T77 l0_7 x8_4).f0)] ?_; (with_reducible refine (grapevineref13_num.calls k4 ((rd_T77 l0_7 x8_4).f0) t376 _ A67.out).mono ?_); rintro e w75 ⟨v377, rfl, ho0, hb⟩; refine ⟨_, rfl, ?_⟩; have n0_ := am_ (Kd.R_elder' HO_5.out (Kd.R_base ho0) hb); have n1_ := am_ (Kd.R_lower (Kd.R_new' ho0 (Kd.R_lt HO_5.out)) (bz_ HB.out)); have n2_ := am_ (blk_below (g := gb324) (o := .cells #[.int .i64 a0_0, .int .i64 a0_1, .int .i64 a0_2, .int .i64 a0_3, .int .i64 a0_4, .int .i64 a0_5, .slice A0_6 l0_6.length c0_6, .slice (some ad375) l0_7.length c0_7] 37 (0, 0)) BK324.out hb); have n3_ := am_ (below_step HB.out hb); clear HO_5; clear BK324; clear HB; have HO_5 := n0_; have HO378 := n1_; have BK324 := n2_; have HB := n3_; clear n0_ n1_ n2_ n3_; (try clear hb); (try clear ho0); obtain ⟨Ao77, co77, eo77⟩ := Kd.R_slice HO378.out; subst eo77) | ((with_reducible refine gate_builtin (b := .append) (xs := #[.tmp 77, .tmp 84]) rfl ?_); at_builtin; refine Kd.R_append_rows (Kd.int .u8) (w0 := w) w.heap.size rfl (.tmp 77) (.tmp 84) 42 5 (.int .u8 0) 1 rfl Tryd.underlying42 info5 rfl (by decide) (by omega) u5 x5_4 t376 _ _ _ (fun k_ => some k_ ≠ (.slice Ao77 t376.length co77 : Value).ownBlock) (fun _ => False) rfl rfl ?aO ?aR (fun _ _ h => h) (fun _ h => h.elim) ?aF ?aB ?aS ?aL ?_; (case aR => repeat (exact (Kd.R_reads' HO378.out).2.2)); (case aB => exact HB.out); (case aF => exact (fun k_ hk => Kd.fresh' (Kd.R_lt HO378.out) k_ hk)); (case aO => exact (by exact Kd.R_mono HO_5.out (fun _ hk => hk.2))); (case aS => exact (bz_ HB.out)); (case aL => have := LMc68.out; omega); intro v380 w76 ho hb hg hat; rw [← Ny379.out] at ho; have n0_ := am_ (blk_grown (g := gb324) (o := .cells #[.int .i64 a0_0, .int .i64 a0_1, .int .i64 a0_2, .int .i64 a0_3, .int .i64 a0_4, .int .i64 a0_5, .slice A0_6 l0_6.length c0_6, .slice (some ad375) l0_7.length c0_7] 37 (0, 0)) BK324.out hg (Kd.R_ne HO_5.out BK324.out (by decide))); have n1_ := am_ (Kd.R_after (ok := (fun _ => True)) HO378.out hg hat); have n2_ := am_ (hb); have n3_ := am_ (ho); clear BK324; clear HO378; clear HB; clear HO_5; have BK324 := n0_; have HO378 := n1_; have HB := n2_; have HO381 := n3_; clear n0_ n1_ n2_ n3_; clear ho hb hg hat; obtain ⟨hcz78_0, hcz78_1, hcz78_2, hcz78_3, hcz78_4, hcz78_5, hcz78_6, hcz78_7, hfz78_0, hfz78_1, hfz78_2, hfz78_3, hfz78_4, hfz78_5, hfz78_6, hfz78_7⟩ := cz8 BK324.out; have p382 : 0 ≤ (x8_4 : Int) := of_decide_eq_true (by (with_reducible assumption)); have q382 : x8_4 < (l0_7.length : Int) := of_decide_eq_true (by (with_reducible assumption)); obtain ⟨ad382, A382_2, c382_2, e382, hx382_0, hx382_1, hx382_2, hl382_2, hi382_2⟩ := at_T77 HR0_7.out x8_4 p382 q382; obtain rfl : ad375 = ad382 := (by injection e382); replace hx382_0 := (HB.out.cell (World.block_lt_of_cell? w _ hx382_0)).trans hx382_0; replace hx382_1 := (HB.out.cell (World.block_lt_of_cell? w _ hx382_1)).trans hx382_1; replace hx382_2 := (HB.out.cell (World.block_lt_of_cell? w _ hx382_2)).trans hx382_2; have HR382_2 := am_ hi382_2; have HC382_2 := am_ hl382_2; clear hi382_2 hl382_2; replace p382 := eq_true p382; replace q382 := eq_true q382) | ((with_reducible refine gate_callee (f := 46) rfl ?_); refine gL (some 94) Tryd.func46 #[.int .i64 (wrap64 ((rd_T77 l0_7 x8_4).f1))] ?_; (with_reducible refine (grapevineref13_num.calls k4 (wrap64 ((rd_T77 l0_7 x8_4).f1)) t383 _ A69.out).mono ?_); rintro e w79 ⟨v384, rfl, ho0, hb⟩; refine ⟨_, rfl, ?_⟩; have n0_ := am_ (Kd.R_elder' HO378.out (Kd.R_base ho0) hb); have n1_ := am_ (Kd.R_elder' HO381.out (Kd.R_base ho0) hb); have n2_ := am_ (Kd.R_lower (Kd.R_new' (Kd.R_new' ho0 (Kd.R_lt HO378.out)) (Kd.R_lt HO381.out)) (bz_ HB.out)); have n3_ := am_ (blk_below (g := gb324) (o := .cells #[.int .i64 a0_0, .int .i64 a0_1, .int .i64 a0_2, .int .i64 a0_3, .int .i64 a0_4, .int .i64 a0_5, .slice A0_6 l0_6.length c0_6, .slice (some ad375) l0_7.length c0_7] 37 (0, 0)) BK324.out hb); have n4_ := am_ (below_step HB.out hb); clear HO378; clear HO381; clear BK324; clear HB; have HO378 := n0_; have HO381 := n1_; have HO385 := n2_; have BK324 := n3_; have HB := n4_; clear n0_ n1_ n2_ n3_ n4_; (try clear hb); (try clear ho0); obtain ⟨Ao81, co81, eo81⟩ := Kd.R_slice HO385.out; subst eo81) | ((with_reducible refine gate_builtin (b := .append) (xs := #[.tmp 86, .tmp 94]) rfl ?_); at_builtin; refine Kd.R_append_rows (Kd.int .u8) (w0 := w) w.heap.size rfl (.tmp 86) (.tmp 94) 42 5 (.int .u8 0) 1 rfl Tryd.underlying42 info5 rfl (by decide) (by omega) v380 y379 t383 _ _ _ (fun k_ => some k_ ≠ (.slice Ao77 t376.length co77 : Value).ownBlock ∧ some k_ ≠ (.slice Ao81 t383.length co81 : Value).ownBlock) (fun _ => False) rfl rfl ?aO ?aR (fun _ _ h => h) (fun _ h => h.elim) ?aF ?aB ?aS ?aL ?_; (case aR => repeat (exact (Kd.R_reads' HO385.out).2.2)); (case aB => exact HB.out); (case aF => exact (fun k_ hk => ⟨Kd.fresh' (Kd.R_lt HO378.out) k_ hk, Kd.fresh' (Kd.R_lt HO385.out) k_ hk⟩)); (case aO => exact HO381.out); (case aS => exact (bz_ HB.out)); (case aL => have := LMc70.out; omega); intro v387 w80 ho hb hg hat; rw [← Ny386.out] at ho; have n0_ := am_ (blk_grown (g := gb324) (o := .cells #[.int .i64 a0_0, .int .i64 a0_1, .int .i64 a0_2, .int .i64 a0_3, .int .i64 a0_4, .int .i64 a0_5, .slice A0_6 l0_6.length c0_6, .slice (some ad375) l0_7.length c0_7] 37 (0, 0)) BK324.out hg (Kd.R_ne HO381.out BK324.out (by decide))); have n1_ := am_ (Kd.R_after (ok := (fun k_ => some k_ ≠ (.slice Ao81 t383.length co81 : Value).ownBlock)) (by exact Kd.R_mono HO378.out (fun _ hk => ⟨hk.2, hk.1.2⟩)) hg hat); have n2_ := am_ (Kd.R_after (ok := (fun k_ => some k_ ≠ (.slice Ao77 t376.length co77 : Value).ownBlock)) (by exact Kd.R_mono HO385.out (fun _ hk => ⟨hk.1.2, hk.2⟩)) hg hat); have n3_ := am_ (hb); have n4_ := am_ (ho); clear BK324; clear HO378; clear HO385; clear HB; clear HO381; have BK324 := n0_; have HO378 := n1_; have HO385 := n2_; have HB := n3_; have HO388 := n4_; clear n0_ n1_ n2_ n3_ n4_; clear ho hb hg hat; obtain ⟨hcz82_0, hcz82_1, hcz82_2, hcz82_3, hcz82_4, hcz82_5, hcz82_6, hcz82_7, hfz82_0, hfz82_1, hfz82_2, hfz82_3, hfz82_4, hfz82_5, hfz82_6, hfz82_7⟩ := cz8 BK324.out; have p389 : 0 ≤ (x8_4 : Int) := of_decide_eq_true (by (with_reducible assumption)); have q389 : x8_4 < (l0_7.length : Int) := of_decide_eq_true (by (with_reducible assumption)); obtain ⟨ad389, A389_2, c389_2, e389, hx389_0, hx389_1, hx389_2, hl389_2, hi389_2⟩ := at_T77 HR0_7.out x8_4 p389 q389; obtain rfl : ad375 = ad389 := (by injection e389); replace hx389_0 := (HB.out.cell (World.block_lt_of_cell? w _ hx389_0)).trans hx389_0; replace hx389_1 := (HB.out.cell (World.block_lt_of_cell? w _ hx389_1)).trans hx389_1; replace hx389_2 := (HB.out.cell (World.block_lt_of_cell? w _ hx389_2)).trans hx389_2; have HR389_2 := am_ hi389_2; have HC389_2 := am_ hl389_2; clear hi389_2 hl389_2; replace p389 := eq_true p389; replace q389 := eq_true q389) | ((with_reducible refine gate_callee (f := 46) rfl ?_); refine gL (some 104) Tryd.func46 #[.int .i64 (((rd_T77 l0_7 x8_4).f2).length : Int)] ?_; (with_reducible refine (grapevineref13_num.calls k4 (((rd_T77 l0_7 x8_4).f2).length : Int) t390 _ A71.out).mono ?_); rintro e w83 ⟨v391, rfl, ho0, hb⟩; refine ⟨_, rfl, ?_⟩; have n0_ := am_ (Kd.R_elder' HO378.out (Kd.R_base ho0) hb); have n1_ := am_ (Kd.R_elder' HO385.out (Kd.R_base ho0) hb); have n2_ := am_ (Kd.R_elder' HO388.out (Kd.R_base ho0) hb); have n3_ := am_ (Kd.R_lower (Kd.R_new' (Kd.R_new' (Kd.R_new' ho0 (Kd.R_lt HO378.out)) (Kd.R_lt HO385.out)) (Kd.R_lt HO388.out)) (bz_ HB.out)); have n4_ := am_ (blk_below (g := gb324) (o := .cells #[.int .i64 a0_0, .int .i64 a0_1, .int .i64 a0_2, .int .i64 a0_3, .int .i64 a0_4, .int .i64 a0_5, .slice A0_6 l0_6.length c0_6, .slice (some ad375) l0_7.length c0_7] 37 (0, 0)) BK324.out hb); have n5_ := am_ (below_step HB.out hb); clear HO378; clear HO385; clear HO388; clear BK324; clear HB; have HO378 := n0_; have HO385 := n1_; have HO388 := n2_; have HO392 := n3_; have BK324 := n4_; have HB := n5_; clear n0_ n1_ n2_ n3_ n4_ n5_; (try clear hb); (try clear ho0); obtain ⟨Ao85, co85, eo85⟩ := Kd.R_slice HO392.out; subst eo85) | ((with_reducible refine gate_builtin (b := .append) (xs := #[.tmp 96, .tmp 104]) rfl ?_); at_builtin; refine Kd.R_append_rows (Kd.int .u8) (w0 := w) w.heap.size rfl (.tmp 96) (.tmp 104) 42 5 (.int .u8 0) 1 rfl Tryd.underlying42 info5 rfl (by decide) (by omega) v387 y386 t390 _ _ _ (fun k_ => some k_ ≠ (.slice Ao77 t376.length co77 : Value).ownBlock ∧ some k_ ≠ (.slice Ao81 t383.length co81 : Value).ownBlock ∧ some k_ ≠ (.slice Ao85 t390.length co85 : Value).ownBlock) (fun _ => False) rfl rfl ?aO ?aR (fun _ _ h => h) (fun _ h => h.elim) ?aF ?aB ?aS ?aL ?_; (case aR => repeat (exact (Kd.R_reads' HO392.out).2.2)); (case aB => exact HB.out); (case aF => exact (fun k_ hk => ⟨Kd.fresh' (Kd.R_lt HO378.out) k_ hk, Kd.fresh' (Kd.R_lt HO385.out) k_ hk, Kd.fresh' (Kd.R_lt HO392.out) k_ hk⟩)); (case aO => exact (by exact Kd.R_mono HO388.out (fun _ hk => ⟨hk.1.1, ⟨hk.1.2, hk.2⟩⟩))); (case aS => exact (bz_ HB.out)); (case aL => have := LMc72.out; omega); intro v394 w84 ho hb hg hat; rw [← Ny393.out] at ho; have n0_ := am_ (blk_grown (g := gb324) (o := .cells #[.int .i64 a0_0, .int .i64 a0_1, .int .i64 a0_2, .int .i64 a0_3, .int .i64 a0_4, .int .i64 a0_5, .slice A0_6 l0_6.length c0_6, .slice (some ad375) l0_7.length c0_7] 37 (0, 0)) BK324.out hg (Kd.R_ne HO388.out BK324.out (by decide))); have n1_ := am_ (Kd.R_after (ok := (fun k_ => some k_ ≠ (.slice Ao81 t383.length co81 : Value).ownBlock ∧ some k_ ≠ (.slice Ao85 t390.length co85 : Value).ownBlock)) (by exact Kd.R_mono HO378.out (fun _ hk => ⟨⟨hk.1.1, hk.2⟩, hk.1.2⟩)) hg hat); have n2_ := am_ (Kd.R_after (ok := (fun k_ => some k_ ≠ (.slice Ao77 t376.length co77 : Value).ownBlock ∧ some k_ ≠ (.slice Ao85 t390.length co85 : Value).ownBlock)) (by exact Kd.R_mono HO385.out (fun _ hk => ⟨⟨hk.1.1, hk.2⟩, hk.1.2⟩)) hg hat); have n3_ := am_ (Kd.R_after (ok := (fun k_ => some k_ ≠ (.slice Ao77 t376.length co77 : Value).ownBlock ∧ some k_ ≠ (.slice Ao81 t383.length co81 : Value).ownBlock)) (by exact Kd.R_mono HO392.out (fun _ hk => ⟨⟨hk.1.1.2, hk.1.2⟩, hk.2⟩)) hg hat); have n4_ := am_ (hb); have n5_ := am_ (ho); clear BK324; clear HO378; clear HO385; clear HO392; clear HB; clear HO388; have BK324 := n0_; have HO378 := n1_; have HO385 := n2_; have HO392 := n3_; have HB := n4_; have HO395 := n5_; clear n0_ n1_ n2_ n3_ n4_ n5_; clear ho hb hg hat; obtain ⟨hcz86_0, hcz86_1, hcz86_2, hcz86_3, hcz86_4, hcz86_5, hcz86_6, hcz86_7, hfz86_0, hfz86_1, hfz86_2, hfz86_3, hfz86_4, hfz86_5, hfz86_6, hfz86_7⟩ := cz8 BK324.out; have p396 : 0 ≤ (x8_4 : Int) := of_decide_eq_true (by (with_reducible assumption)); have q396 : x8_4 < (l0_7.length : Int) := of_decide_eq_true (by (with_reducible assumption)); obtain ⟨ad396, A396_2, c396_2, e396, hx396_0, hx396_1, hx396_2, hl396_2, hi396_2⟩ := at_T77 HR0_7.out x8_4 p396 q396; obtain rfl : ad375 = ad396 := (by injection e396); replace hx396_0 := (HB.out.cell (World.block_lt_of_cell? w _ hx396_0)).trans hx396_0; replace hx396_1 := (HB.out.cell (World.block_lt_of_cell? w _ hx396_1)).trans hx396_1; replace hx396_2 := (HB.out.cell (World.block_lt_of_cell? w _ hx396_2)).trans hx396_2; have HR396_2 := am_ hi396_2; have HC396_2 := am_ hl396_2; clear hi396_2 hl396_2; replace p396 := eq_true p396; replace q396 := eq_true q396) | ((with_reducible refine gate_builtin (b := .append) (xs := #[.tmp 106, .tmp 112]) rfl ?_); at_builtin; refine Kd.R_append_rows (Kd.int .u8) (w0 := w) w.heap.size rfl (.tmp 106) (.tmp 112) 42 5 (.int .u8 0) 1 rfl Tryd.underlying42 info5 rfl (by decide) (by omega) v394 y393 ((rd_T77 l0_7 x8_4).f2) _ _ _ (fun k_ => some k_ ≠ (.slice Ao77 t376.length co77 : Value).ownBlock ∧ some k_ ≠ (.slice Ao81 t383.length co81 : Value).ownBlock ∧ some k_ ≠ (.slice Ao85 t390.length co85 : Value).ownBlock) (fun _ => False) rfl rfl ?aO ?aR (fun _ _ h => h) (fun _ h => h.elim) ?aF ?aB ?aS ?aL ?_; (case aR => repeat (exact (Kd.C_below HR396_2.out HB.out))); (case aB => exact HB.out); (case aF => exact (fun k_ hk => ⟨Kd.fresh' (Kd.R_lt HO378.out) k_ hk, Kd.fresh' (Kd.R_lt HO385.out) k_ hk, Kd.fresh' (Kd.R_lt HO392.out) k_ hk⟩)); (case aO => exact HO395.out); (case aS => exact (bz_ HB.out)); (case aL => have := LMc73.out; omega); intro v398 w87 ho hb hg hat; rw [← Ny397.out] at ho; have n0_ := am_ (blk_grown (g := gb324) (o := .cells #[.int .i64 a0_0, .int .i64 a0_1, .int .i64 a0_2, .int .i64 a0_3, .int .i64 a0_4, .int .i64 a0_5, .slice A0_6 l0_6.length c0_6, .slice (some ad375) l0_7.length c0_7] 37 (0, 0)) BK324.out hg (Kd.R_ne HO395.out BK324.out (by decide))); have n1_ := am_ (Kd.R_after (ok := (fun k_ => some k_ ≠ (.slice Ao81 t383.length co81 : Value).ownBlock ∧ some k_ ≠ (.slice Ao85 t390.length co85 : Value).ownBlock)) HO378.out hg hat); have n2_ := am_ (Kd.R_after (ok := (fun k_ => some k_ ≠ (.slice Ao77 t376.length co77 : Value).ownBlock ∧ some k_ ≠ (.slice Ao85 t390.length co85 : Value).ownBlock)) HO385.out hg hat); have n3_ := am_ (Kd.R_after (ok := (fun k_ => some k_ ≠ (.slice Ao77 t376.length co77 : Value).ownBlock ∧ some k_ ≠ (.slice Ao81 t383.length co81 : Value).ownBlock)) HO392.out hg hat); have n4_ := am_ (hb); have n5_ := am_ (ho); clear BK324; clear HO378; clear HO385; clear HO392; clear HB; clear HO395; have BK324 := n0_; have HO378 := n1_; have HO385 := n2_; have HO392 := n3_; have HB := n4_; have HO399 := n5_; clear n0_ n1_ n2_ n3_ n4_ n5_; clear ho hb hg hat))
            go_roundg k4
            case measure => have := HJ6.out; have := HJ32.out; have := HJ42.out; have := HK4.out; omega
            case rel => exact ⟨(y397), (wrap64 (x8_4 + 1)), (by rfl), H', ⟨by have := HJ6.out; have := HJ32.out; have := HJ42.out; have := HK4.out; omega⟩, ⟨by exact Kd.R_mono HO399.out (fun _ hk => trivial)⟩, ⟨by exact BK324.out⟩, ⟨by repeat (with_reducible exact HB.out)⟩⟩
           rw [if_neg c73] at H
           exact absurd H (by simp)
          rw [if_neg c72] at H
          exact absurd H (by simp)
         rw [if_neg c70] at H
         exact absurd H (by simp)
        rw [if_neg c68] at H
        exact absurd H (by simp)
       rw [if_neg c66] at H
       exact absurd H (by simp)
      rw [if_neg c65] at H
      have c65b0 : decide (x8_4 < (l0_7.length : Int)) = false := decide_eq_false c65
      clear c65
      simp only [Option.some.injEq, Prod.mk.injEq] at H
      obtain ⟨rfl, rfl⟩ := H
      obtain ⟨hcz88_0, hcz88_1, hcz88_2, hcz88_3, hcz88_4, hcz88_5, hcz88_6, hcz88_7, hfz88_0, hfz88_1, hfz88_2, hfz88_3, hfz88_4, hfz88_5, hfz88_6, hfz88_7⟩ := cz8 BK324.out
      go_wp2
      go_ret2
      exact ⟨_, by rfl, by exact HO_5.out, by repeat (with_reducible exact HB.out)⟩
     rw [if_neg c56] at H
     exact absurd H (by simp)
    rw [if_neg c54] at H
    exact absurd H (by simp)
   rw [if_neg c52] at H
   have c52b0 : (a0_0 == 1) = false := beq_eq_false_iff_ne.mpr c52
   have c52b1 : (a0_0 != 1) = true := bne_iff_ne.mpr c52
   simp only [Option.some.injEq, Prod.mk.injEq] at H
   obtain ⟨rfl, rfl⟩ := H
   obtain ⟨hcz89_0, hcz89_1, hcz89_2, hcz89_3, hcz89_4, hcz89_5, hcz89_6, hcz89_7, hfz89_0, hfz89_1, hfz89_2, hfz89_3, hfz89_4, hfz89_5, hfz89_6, hfz89_7⟩ := cz8 BK324.out
   go_wp2
   go_ret2
   exact ⟨_, by rfl, by exact HO_5.out, by repeat (with_reducible exact HB.out)⟩
  rw [if_neg c5] at H
  exact absurd H (by simp)
 rw [if_neg c3] at H
 have c3b0 : (t325 == 0) = false := beq_eq_false_iff_ne.mpr c3
 have c3b1 : (t325 != 0) = true := bne_iff_ne.mpr c3
 simp only [Option.some.injEq, Prod.mk.injEq] at H
 obtain ⟨rfl, rfl⟩ := H
 go_enter Tryd.func33, Tryd.ntmps33
 go_wp2_with (first | ((with_reducible refine gd_ (N := 1) rfl ?_); refine bE 1 #[.int .i64 a0_0, .int .i64 a0_1, .int .i64 a0_2, .int .i64 a0_3, .int .i64 a0_4, .int .i64 a0_5, .slice A0_6 l0_6.length c0_6, .slice A0_7 l0_7.length c0_7] 37 ?_; intro gb324 hg w90 hbox hb; have n0_ := am_ (below_step HB.out hb); have n1_ := am_ (hbox); have n2_ := am_ ((by rw [hg]; exact (bz_ HB.out) : w.heap.size ≤ gb324)); have n3_ := am_ ((by rw [hg]; exact (bz_ HB.out) : w.heap.size ≤ gb324)); clear HB; have HB := n0_; have BK324 := n1_; have GW324 := n2_; have GE324 := n3_; clear n0_ n1_ n2_ n3_; clear hb hbox hg; obtain ⟨hcz91_0, hcz91_1, hcz91_2, hcz91_3, hcz91_4, hcz91_5, hcz91_6, hcz91_7, hfz91_0, hfz91_1, hfz91_2, hfz91_3, hfz91_4, hfz91_5, hfz91_6, hfz91_7⟩ := cz8 BK324.out) | ((with_reducible refine gate_callee (f := 45) rfl ?_); refine gL (some 10) Tryd.func45 #[.agg #[.int .i64 a0_0, .int .i64 a0_1, .int .i64 a0_2, .int .i64 a0_3, .int .i64 a0_4, .int .i64 a0_5, .slice A0_6 l0_6.length c0_6, .slice A0_7 l0_7.length c0_7]] ?_; (with_reducible refine (grapevineref13_Check.calls k a0_0 a0_1 a0_2 a0_3 a0_4 a0_5 _ _ l0_6 _ _ l0_7 t325 _ ?side1 ?side2 ?side3 ?side4 A2.out).mono ?_); (case side1 => repeat (exact (Kd.C_below HR0_6.out HB.out))); (case side2 => exact HC0_6.out); (case side3 => repeat (exact (Kd.C_below HR0_7.out HB.out))); (case side4 => exact HC0_7.out); rintro e w92 ⟨rfl, hb⟩; refine ⟨_, rfl, ?_⟩; have n0_ := am_ (blk_below (g := gb324) (o := .cells #[.int .i64 a0_0, .int .i64 a0_1, .int .i64 a0_2, .int .i64 a0_3, .int .i64 a0_4, .int .i64 a0_5, .slice A0_6 l0_6.length c0_6, .slice A0_7 l0_7.length c0_7] 37 (0, 0)) BK324.out hb); have n1_ := am_ (below_step HB.out hb); clear BK324; clear HB; have BK324 := n0_; have HB := n1_; clear n0_ n1_; (try clear hb)))
 go_ret2
 exact ⟨_, by rfl, by exact Kd.R_nil _ _ _ _ _, by repeat (with_reducible exact HB.out)⟩
end Go.Proofs.YtoandmnefgimoaaDoor.PL
