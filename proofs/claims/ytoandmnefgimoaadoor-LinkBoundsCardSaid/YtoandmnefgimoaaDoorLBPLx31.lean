import Derived.Test.YtoandmnefgimoaaDoorLBPLx0
import Derived.Test.YtoandmnefgimoaaDoorLBPLx23
import Derived.Test.YtoandmnefgimoaaDoorLBPLx29
namespace Go.Proofs.YtoandmnefgimoaaDoor.PL
open Go.RowKit Go.Proofs.YtoandmnefgimoaaDoorW.PrintWords Go.Proofs.YtoandmnefgimoaaDoorW.PrintLast Go.Proofs.YtoandmnefgimoaaDoorW.PrintMore
attribute [local go_sem] max2_int min2_int max_two min_two max_three min_three max_four min_four
set_option linter.unusedVariables false
set_option linter.unusedSimpArgs false
def grapevineref13_num.f (k : Nat) (a0 : Int) : Option (List Int) := (grapevineref02_Uint.f k (IntKind.u64.wrap (a0))).bind fun t278 => (some t278)
set_option maxHeartbeats 8000000 in
set_option maxRecDepth 100000 in
theorem grapevineref13_num.calls (k : Nat) (a0 : Int) (r : List Int) (w : World) (h : grapevineref13_num.f k a0 = some r) :
 Calls Tryd.prog 46 #[.int .i64 a0] w fun e w' => ∃ v0_ : Value, e = .returned (v0_) ∧ Kd.R (Kd.int .u8) 5 w' w.heap.size (fun _ => True) v0_ r ∧ Below w.heap.size w w' := by
 have HB := am_ (Below.refl w.heap.size w)
 have H : ((grapevineref02_Uint.f k (IntKind.u64.wrap (a0))).bind fun t278 => (some t278)) = some r := h
 clear h
 replace H := Option.bind_eq_some_iff.mp H
 obtain ⟨t278, A20, H⟩ := H
 try dsimp only at H
 have A2 := am_ A20
 clear A20
 obtain rfl := Option.some.inj H
 go_enter Tryd.func46, Tryd.ntmps46
 go_wp2_with (((with_reducible refine gate_callee (f := 43) rfl ?_); refine gL (some 5) Tryd.func43 #[.int .u64 (IntKind.u64.wrap (a0))] ?_; (with_reducible refine (grapevineref02_Uint.calls k (IntKind.u64.wrap (a0)) t278 _ A2.out).mono ?_); rintro e w3 ⟨v279, rfl, ho0, hb⟩; refine ⟨_, rfl, ?_⟩; have n0_ := am_ (Kd.R_lower ho0 (bz_ HB.out)); have n1_ := am_ (below_step HB.out hb); clear HB; have HO280 := n0_; have HB := n1_; clear n0_ n1_; (try clear hb); (try clear ho0)))
 go_ret
 exact ⟨_, by rfl, by exact HO280.out, by repeat (with_reducible exact HB.out)⟩
def grapevineref08_Put.l0 : Nat → List (S110) → List Int → Int → Option (List Int × Int)
 | 0, _, _, _ => none
 | k + 1, x0, x4, x5 => if x5 < (x0.length : Int) then (if x5 > 0 then (if 0 ≤ (wrap64 (x5 - 1)) then (if (wrap64 (x5 - 1)) < (x0.length : Int) then (if 0 ≤ x5 then ((grapevineref02_Uint.f k (IntKind.u64.wrap (wrap64 ((wrap64 (((rd_T110 x0 x5).f0) - ((rd_T110 x0 (wrap64 (x5 - 1))).f1))) - 1)))).bind fun t287 => (if x4.length + t287.length < 140737488355328 then ((some (x4 ++ t287 : List Int)).bind fun y290 => ((grapevineref02_Uint.f k (IntKind.u64.wrap (wrap64 (((rd_T110 x0 x5).f1) - ((rd_T110 x0 x5).f0))))).bind fun t295 => (if y290.length + t295.length < 140737488355328 then ((some (y290 ++ t295 : List Int)).bind fun y298 => (if y298.length < 140737488355328 then (grapevineref08_Put.l0 k x0 (y298 ++ [((rd_T110 x0 x5).f2) % 256]) (wrap64 (x5 + 1))) else (none))) else (none)))) else (none))) else (none)) else (none)) else (none)) else (if 0 ≤ x5 then ((grapevineref02_Uint.f k (IntKind.u64.wrap (wrap64 ((wrap64 ((rd_T110 x0 x5).f0)) - 1)))).bind fun t306 => (if x4.length + t306.length < 140737488355328 then ((some (x4 ++ t306 : List Int)).bind fun y309 => ((grapevineref02_Uint.f k (IntKind.u64.wrap (wrap64 (((rd_T110 x0 x5).f1) - ((rd_T110 x0 x5).f0))))).bind fun t314 => (if y309.length + t314.length < 140737488355328 then ((some (y309 ++ t314 : List Int)).bind fun y317 => (if y317.length < 140737488355328 then (grapevineref08_Put.l0 k x0 (y317 ++ [((rd_T110 x0 x5).f2) % 256]) (wrap64 (x5 + 1))) else (none))) else (none)))) else (none))) else (none))) else (some (x4, 0))
def grapevineref08_Put.f (k : Nat) (l0 : List (S110)) : Option (List Int × Int) := (grapevineref08_Right.f k l0).bind fun t281 => (if t281 = true then (if (l0.length : Int) > 256 then (some (([] : List Int), 6)) else ((grapevineref02_Uint.f k (IntKind.u64.wrap ((l0.length : Int)))).bind fun t282 => (grapevineref08_Put.l0 k l0 t282 0))) else (some (([] : List Int), 2)))
def grapevineref08_Put.T13 : Bool × List (List Nat × List Nat) := (true, [([], []), ([], []), ([], []), ([1, 2], [1, 2]), ([3], [3]), ([4], [4]), ([], []), ([], []), ([6, 7], [6, 7]), ([8], [8]), ([9], [9]), ([5, 10], [5, 10]), ([11], [11]), ([12], [12]), ([0, 13, 13], [0, 13]), ([14, 14, 0, 1, 2, 3, 4, 5, 6, 7, 8, 9, 10, 11, 12, 13, 14], [0, 14])])
def grapevineref08_Put.B13 : List Nat := [0, 0, 0, 6, 14, 30, 0, 0, 192, 448, 960, 2046, 4094, 8190, 16383, 32767]
theorem grapevineref08_Put.tab13 : rtab .any (opsOf Tryd.f47 13) = grapevineref08_Put.T13 := by kernel_rfl
theorem grapevineref08_Put.bits13 : waitsOk grapevineref08_Put.T13.2 grapevineref08_Put.B13 = true := by kernel_rfl
set_option maxHeartbeats 8000000 in
set_option maxRecDepth 100000 in
theorem grapevineref08_Put.calls (k : Nat) (A0 : Option Addr) (c0 : Nat) (l0 : List (S110)) (r1 : List Int) (r2 : Int) (w : World) (hr0 : Kd.C k110 w A0 l0.length l0) (hc0 : l0.length ≤ c0) (h : grapevineref08_Put.f k l0 = some (r1, r2)) :
 Calls Tryd.prog 47 #[.slice A0 l0.length c0] w fun e w' => ∃ v0_ : Value, e = .returned (.tuple #[v0_, .int .i64 r2]) ∧ Kd.R (Kd.int .u8) 5 w' w.heap.size (fun _ => True) v0_ r1 ∧ Below w.heap.size w w' := by
 have HR0 := am_ hr0
 have HC0 := am_ hc0
 clear hr0 hc0
 have HB := am_ (Below.refl w.heap.size w)
 have H : ((grapevineref08_Right.f k l0).bind fun t281 => (if t281 = true then (if (l0.length : Int) > 256 then (some (([] : List Int), 6)) else ((grapevineref02_Uint.f k (IntKind.u64.wrap ((l0.length : Int)))).bind fun t282 => (grapevineref08_Put.l0 k l0 t282 0))) else (some (([] : List Int), 2)))) = some (r1, r2) := h
 clear h
 replace H := Option.bind_eq_some_iff.mp H
 obtain ⟨t281, A20, H⟩ := H
 try dsimp only at H
 have A2 := am_ A20
 clear A20
 by_cases c3 : t281 = true
 ·
  subst c3
  rw [if_pos rfl] at H
  by_cases c4 : (l0.length : Int) > 256
  ·
   rw [if_pos c4] at H
   have c4b0 : decide (256 < (l0.length : Int)) = true := decide_eq_true c4
   have c4b1 : decide (256 < l0.length) = true := decide_eq_true (by omega)
   clear c4
   simp only [Option.some.injEq, Prod.mk.injEq] at H
   obtain ⟨rfl, rfl⟩ := H
   go_enter Tryd.func47, Tryd.ntmps47
   go_wp2_with (((with_reducible refine gate_callee (f := 57) rfl ?_); refine gL (some 8) Tryd.func57 #[.slice A0 l0.length c0] ?_; (with_reducible refine (grapevineref08_Right.calls k _ _ l0 true _ ?side1 ?side2 A2.out).mono ?_); (case side1 => repeat (exact HR0.out)); (case side2 => exact HC0.out); rintro e w' ⟨rfl, ⟨nd, rfl⟩⟩; refine ⟨_, rfl, ?_⟩))
   go_ret2
   exact ⟨_, by first | rfl | (simp [errW_none, errW_some] <;> rfl) | (simp [*, errW_none, errW_some] <;> rfl), by first | exact Kd.R_nil _ _ _ _ _ | exact Kd.N_nil _ _ _ _ _ | exact Kd.V_nil _ _ _ _ _ | exact Kd.Q_nil _ _ _ _ _ | exact Kd.S_nil _ _ _ _ _, by repeat (first | (with_reducible first | exact HB.out | apply ba_ | apply bn_ | apply bd_) | exact HB.out)⟩
  rw [if_neg c4] at H
  have c4b0 : decide (256 < (l0.length : Int)) = false := decide_eq_false c4
  have c4b1 : decide (256 < l0.length) = false := decide_eq_false (by omega)
  clear c4
  replace H := Option.bind_eq_some_iff.mp H
  obtain ⟨t282, A50, H⟩ := H
  try dsimp only at H
  have A5 := am_ A50
  clear A50
  have H' := am_ H
  clear H
  go_enter Tryd.func47, Tryd.ntmps47
  go_wp2_with (first | ((with_reducible refine gate_callee (f := 57) rfl ?_); refine gL (some 8) Tryd.func57 #[.slice A0 l0.length c0] ?_; (with_reducible refine (grapevineref08_Right.calls k _ _ l0 true _ ?side1 ?side2 A2.out).mono ?_); (case side1 => repeat (exact HR0.out)); (case side2 => exact HC0.out); rintro e w' ⟨rfl, ⟨nd, rfl⟩⟩; refine ⟨_, rfl, ?_⟩) | ((with_reducible refine gate_callee (f := 43) rfl ?_); refine gL (some 16) Tryd.func43 #[.int .u64 (IntKind.u64.wrap (l0.length : Int))] ?_; (with_reducible refine (grapevineref02_Uint.calls k (IntKind.u64.wrap (l0.length : Int)) t282 _ A5.out).mono ?_); rintro e w6 ⟨v283, rfl, ho0, hb⟩; refine ⟨_, rfl, ?_⟩; have n0_ := am_ (Kd.R_lower ho0 (bz_ (by repeat (with_reducible first | exact HB.out | apply bn_)))); have n1_ := am_ (below_step (by repeat (with_reducible first | exact HB.out | apply bn_)) hb); clear HB; have HO284 := n0_; have HB := n1_; clear n0_ n1_; (try clear hb); (try clear ho0)))
  go_loopg [4, 5] k (fun kq v4 v5 w' => ∃ (x4_1 : List Int) (x5_1 : Int), v5 = .int .i64 x5_1 ∧ Aside0 (grapevineref08_Put.l0 kq l0 x4_1 x5_1 = some (r1, r2)) ∧ Aside0 (kq ≤ k) ∧ Aside0 (Kd.R (Kd.int .u8) 5 w' w.heap.size (fun _ => True) v4 x4_1) ∧ Aside0 (Below w.heap.size w w'))
  case atStart => exact ⟨(t282), (0), (by rfl), H', ⟨Nat.le_refl _⟩, ⟨by exact HO284.out⟩, ⟨by repeat (with_reducible exact HB.out)⟩⟩
  case round =>
  clear H'
  try clear c4b0
  try clear c4b1
  obtain ⟨x4_1, x5_1, rfl, HA, HK1, HO_4, HB⟩ := hrel
  cases gk with
  | zero => exact absurd HA.out (by simp [grapevineref08_Put.l0])
  | succ k1 =>
  have H := HA.out
  clear HA
  simp only [grapevineref08_Put.l0] at H
  by_cases c7 : x5_1 < (l0.length : Int)
  ·
   rw [if_pos c7] at H
   have c7b0 : decide (x5_1 < (l0.length : Int)) = true := decide_eq_true c7
   clear c7
   by_cases c8 : x5_1 > 0
   ·
    rw [if_pos c8] at H
    have c8b0 : decide (0 < x5_1) = true := decide_eq_true c8
    clear c8
    obtain ⟨ji9, hji9⟩ : ∃ j_ : Int, (wrap64 (x5_1 - 1)) = j_ := ⟨_, rfl⟩
    replace H : (if 0 ≤ (ji9) then (if (ji9) < (l0.length : Int) then (if 0 ≤ x5_1 then ((grapevineref02_Uint.f k1 (IntKind.u64.wrap (wrap64 ((wrap64 (((rd_T110 l0 x5_1).f0) - ((rd_T110 l0 (ji9)).f1))) - 1)))).bind fun t287 => (if x4_1.length + t287.length < 140737488355328 then ((some (x4_1 ++ t287 : List Int)).bind fun y290 => ((grapevineref02_Uint.f k1 (IntKind.u64.wrap (wrap64 (((rd_T110 l0 x5_1).f1) - ((rd_T110 l0 x5_1).f0))))).bind fun t295 => (if y290.length + t295.length < 140737488355328 then ((some (y290 ++ t295 : List Int)).bind fun y298 => (if y298.length < 140737488355328 then (grapevineref08_Put.l0 k1 l0 (y298 ++ [((rd_T110 l0 x5_1).f2) % 256]) (wrap64 (x5_1 + 1))) else (none))) else (none)))) else (none))) else (none)) else (none)) else (none)) = some (r1, r2) := by (rw [hji9] at H; exact H)
    have hji9w : (IntKind.i64.wrap (x5_1 - 1)) = ji9 := (i64_w _).trans hji9
    by_cases c10 : 0 ≤ (ji9)
    ·
     rw [if_pos c10] at H
     have c10b0 : decide (0 ≤ (ji9)) = true := decide_eq_true c10
     clear c10
     by_cases c11 : (ji9) < (l0.length : Int)
     ·
      rw [if_pos c11] at H
      have c11b0 : decide ((ji9) < (l0.length : Int)) = true := decide_eq_true c11
      clear c11
      by_cases c12 : 0 ≤ x5_1
      ·
       rw [if_pos c12] at H
       have c12b0 : decide (0 ≤ x5_1) = true := decide_eq_true c12
       clear c12
       replace H := Option.bind_eq_some_iff.mp H
       obtain ⟨t287, A130, H⟩ := H
       try dsimp only at H
       have A13 := am_ A130
       clear A130
       by_cases c14 : x4_1.length + t287.length < 140737488355328
       ·
        rw [if_pos c14] at H
        have LMc14 := am_ c14
        clear c14
        obtain ⟨y290, hy290⟩ : ∃ y_ : List Int, y_ = (x4_1 ++ t287) := ⟨_, rfl⟩
        replace H : ((grapevineref02_Uint.f k1 (IntKind.u64.wrap (wrap64 (((rd_T110 l0 x5_1).f1) - ((rd_T110 l0 x5_1).f0))))).bind fun t295 => (if y290.length + t295.length < 140737488355328 then ((some (y290 ++ t295 : List Int)).bind fun y298 => (if y298.length < 140737488355328 then (grapevineref08_Put.l0 k1 l0 (y298 ++ [((rd_T110 l0 x5_1).f2) % 256]) (wrap64 (x5_1 + 1))) else (none))) else (none))) = some (r1, r2) := by (have H2_ := (Option.bind_some _ _).symm.trans H; rw [hy290]; with_reducible exact H2_)
        have Ny290 := am_ hy290
        clear hy290
        replace H := Option.bind_eq_some_iff.mp H
        obtain ⟨t295, A150, H⟩ := H
        try dsimp only at H
        have A15 := am_ A150
        clear A150
        by_cases c16 : y290.length + t295.length < 140737488355328
        ·
         rw [if_pos c16] at H
         have LMc16 := am_ c16
         clear c16
         obtain ⟨y298, hy298⟩ : ∃ y_ : List Int, y_ = (y290 ++ t295) := ⟨_, rfl⟩
         replace H : (if y298.length < 140737488355328 then (grapevineref08_Put.l0 k1 l0 (y298 ++ [((rd_T110 l0 x5_1).f2) % 256]) (wrap64 (x5_1 + 1))) else (none)) = some (r1, r2) := by (have H2_ := (Option.bind_some _ _).symm.trans H; rw [hy298]; with_reducible exact H2_)
         have Ny298 := am_ hy298
         clear hy298
         by_cases c17 : y298.length < 140737488355328
         ·
          rw [if_pos c17] at H
          have LMc17 := am_ c17
          clear c17
          obtain ⟨y302, hy302⟩ : ∃ y_ : List Int, y_ = (y298 ++ [((rd_T110 l0 x5_1).f2) % 256]) := ⟨_, rfl⟩
          replace H : (grapevineref08_Put.l0 k1 l0 y302 (wrap64 (x5_1 + 1))) = some (r1, r2) := by (rw [hy302]; with_reducible exact H)
          have Ny302 := am_ hy302
          clear hy302
          have H' := am_ H
          clear H
          have p285 : 0 ≤ ((ji9) : Int) := of_decide_eq_true (by (with_reducible assumption))
          have q285 : (ji9) < (l0.length : Int) := of_decide_eq_true (by (with_reducible assumption))
          obtain ⟨ad285, e285, hx285_0, hx285_1, hx285_2⟩ := at_T110 HR0.out (ji9) p285 q285
          cases e285
          replace hx285_0 := (HB.out.cell (World.block_lt_of_cell? w _ hx285_0)).trans hx285_0
          replace hx285_1 := (HB.out.cell (World.block_lt_of_cell? w _ hx285_1)).trans hx285_1
          replace hx285_2 := (HB.out.cell (World.block_lt_of_cell? w _ hx285_2)).trans hx285_2
          replace p285 := eq_true p285
          replace q285 := eq_true q285
          have p286 : 0 ≤ (x5_1 : Int) := of_decide_eq_true (by (with_reducible assumption))
          have q286 : x5_1 < (l0.length : Int) := of_decide_eq_true (by (with_reducible assumption))
          obtain ⟨ad286, e286, hx286_0, hx286_1, hx286_2⟩ := at_T110 HR0.out x5_1 p286 q286
          obtain rfl : ad285 = ad286 := (by injection e286)
          replace hx286_0 := (HB.out.cell (World.block_lt_of_cell? w _ hx286_0)).trans hx286_0
          replace hx286_1 := (HB.out.cell (World.block_lt_of_cell? w _ hx286_1)).trans hx286_1
          replace hx286_2 := (HB.out.cell (World.block_lt_of_cell? w _ hx286_2)).trans hx286_2
          replace p286 := eq_true p286
          replace q286 := eq_true q286
          try go_wp2_with (first | ((with_reducible refine gate_callee (f := 43) rfl ?_); refine gL (some 41) Tryd.func43 #[.int .u64 (IntKind.u64.wrap (wrap64 ((wrap64 (((rd_T110 l0 x5_1).f0) - ((rd_T110 l0 (ji9)).f1))) - 1)))] ?_; (with_reducible refine (grapevineref02_Uint.calls k1 (IntKind.u64.wrap (wrap64 ((wrap64 (((rd_T110 l0 x5_1).f0) - ((rd_T110 l0 (ji9)).f1))) - 1))) t287 _ A13.out).mono ?_); rintro e w18 ⟨v288, rfl, ho0, hb⟩; refine ⟨_, rfl, ?_⟩; have n0_ := am_ (Kd.R_elder' HO_4.out (Kd.R_base ho0) hb); have n1_ := am_ (Kd.R_lower (Kd.R_new' ho0 (Kd.R_lt HO_4.out)) (bz_ HB.out)); have n2_ := am_ (below_step HB.out hb); clear HO_4; clear HB; have HO_4 := n0_; have HO289 := n1_; have HB := n2_; clear n0_ n1_ n2_; (try clear hb); (try clear ho0); obtain ⟨Ao20, co20, eo20⟩ := Kd.R_slice HO289.out; subst eo20) | ((with_reducible refine gate_builtin (b := .append) (xs := #[.tmp 31, .tmp 41]) rfl ?_); at_builtin; refine Kd.R_append_rows (Kd.int .u8) (w0 := w) w.heap.size rfl (.tmp 31) (.tmp 41) 42 5 (.int .u8 0) 1 rfl Tryd.underlying42 info5 rfl (by decide) (by omega) u4 x4_1 t287 _ _ _ (fun k_ => some k_ ≠ (.slice Ao20 t287.length co20 : Value).ownBlock) (fun _ => False) rfl rfl ?aO ?aR (fun _ _ h => h) (fun _ h => h.elim) ?aF ?aB ?aS ?aL ?_; (case aR => repeat (exact (Kd.R_reads' HO289.out).2.2)); (case aB => exact HB.out); (case aF => exact (fun k_ hk => Kd.fresh' (Kd.R_lt HO289.out) k_ hk)); (case aO => exact (by exact Kd.R_mono HO_4.out (fun _ hk => hk.2))); (case aS => exact (bz_ HB.out)); (case aL => have := LMc14.out; omega); intro v291 w19 ho hb hg hat; rw [← Ny290.out] at ho; have n0_ := am_ (Kd.R_after (ok := (fun _ => True)) HO289.out hg hat); have n1_ := am_ (hb); have n2_ := am_ (ho); clear HO289; clear HB; clear HO_4; have HO289 := n0_; have HB := n1_; have HO292 := n2_; clear n0_ n1_ n2_; clear ho hb hg hat))
          have n0_ := am_ (Kd.R_drew HO289.out)
          have n1_ := am_ (Kd.R_drew HO292.out)
          have n2_ := am_ (bd_ HB.out)
          clear HO289
          clear HO292
          clear HB
          have HO289 := n0_
          have HO292 := n1_
          have HB := n2_
          clear n0_ n1_ n2_
          have p293 : 0 ≤ (x5_1 : Int) := of_decide_eq_true (by (with_reducible assumption))
          have q293 : x5_1 < (l0.length : Int) := of_decide_eq_true (by (with_reducible assumption))
          obtain ⟨ad293, e293, hx293_0, hx293_1, hx293_2⟩ := at_T110 HR0.out x5_1 p293 q293
          have hw293_2 := hx293_2
          have hw293_1 := hx293_1
          have hw293_0 := hx293_0
          obtain rfl : ad285 = ad293 := (by injection e293)
          replace hx293_0 := (HB.out.cell (World.block_lt_of_cell? w _ hx293_0)).trans hx293_0
          replace hx293_1 := (HB.out.cell (World.block_lt_of_cell? w _ hx293_1)).trans hx293_1
          replace hx293_2 := (HB.out.cell (World.block_lt_of_cell? w _ hx293_2)).trans hx293_2
          replace p293 := eq_true p293
          replace q293 := eq_true q293
          have p294 : 0 ≤ (x5_1 : Int) := of_decide_eq_true (by (with_reducible assumption))
          have q294 : x5_1 < (l0.length : Int) := of_decide_eq_true (by (with_reducible assumption))
          obtain ⟨ad294, e294, hx294_0, hx294_1, hx294_2⟩ := at_T110 HR0.out x5_1 p294 q294
          have hw294_2 := hx294_2
          have hw294_1 := hx294_1
          have hw294_0 := hx294_0
          obtain rfl : ad285 = ad294 := (by injection e294)
          replace hx294_0 := (HB.out.cell (World.block_lt_of_cell? w _ hx294_0)).trans hx294_0
          replace hx294_1 := (HB.out.cell (World.block_lt_of_cell? w _ hx294_1)).trans hx294_1
          replace hx294_2 := (HB.out.cell (World.block_lt_of_cell? w _ hx294_2)).trans hx294_2
          replace p294 := eq_true p294
          replace q294 := eq_true q294
          refine start_ (n := 16) (S := fun w' => w'.cell? (ad285.add ((x5_1).toNat * 3)) = some (.int .i64 ((rd_T110 l0 x5_1).f0)) ∧ w'.cell? ⟨(ad285.add ((x5_1).toNat * 3)).block, (ad285.add ((x5_1).toNat * 3)).off + 1, none⟩ = some (.int .i64 ((rd_T110 l0 x5_1).f1)) ∧ w'.cell? ⟨(ad285.add ((x5_1).toNat * 3)).block, (ad285.add ((x5_1).toNat * 3)).off + 2, none⟩ = some (.int .i64 ((rd_T110 l0 x5_1).f2)) ∧ w'.cell? (ad285.add ((x5_1).toNat * 3)) = some (.int .i64 ((rd_T110 l0 x5_1).f0)) ∧ w'.cell? ⟨(ad285.add ((x5_1).toNat * 3)).block, (ad285.add ((x5_1).toNat * 3)).off + 1, none⟩ = some (.int .i64 ((rd_T110 l0 x5_1).f1)) ∧ w'.cell? ⟨(ad285.add ((x5_1).toNat * 3)).block, (ad285.add ((x5_1).toNat * 3)).off + 2, none⟩ = some (.int .i64 ((rd_T110 l0 x5_1).f2))) (ds := []) #[false, false, false, false, false, false, false, false, false, false, false, false, false, false, false, false] (by kernel_rfl) rfl rfl ⟨((HB.out.cell (World.block_lt_of_cell? w _ hw293_0)).trans hw293_0), ((HB.out.cell (World.block_lt_of_cell? w _ hw293_1)).trans hw293_1), ((HB.out.cell (World.block_lt_of_cell? w _ hw293_2)).trans hw293_2), ((HB.out.cell (World.block_lt_of_cell? w _ hw294_0)).trans hw294_0), ((HB.out.cell (World.block_lt_of_cell? w _ hw294_1)).trans hw294_1), ((HB.out.cell (World.block_lt_of_cell? w _ hw294_2)).trans hw294_2)⟩ (fun hHeld => ?_); refine with_tabW grapevineref08_Put.tab13 grapevineref08_Put.bits13 (fun HT_ HW_ => ?_)
          generalize w19.drew = w21 at HO289 HO292 HB hx293_0 hx293_1 hx293_2 hx294_0 hx294_1 hx294_2 hHeld ⊢
          refine pA 0 (some 43) #[o1,o0,o0,o0,o0,o0,o0,o0,o0,o0,o0,o0,o0,o0,o0,o0] HT_ ?_
          refine pA 1 (some 44) #[o1,o1,o0,o0,o0,o0,o0,o0,o0,o0,o0,o0,o0,o0,o0,o0] HT_ ?_
          refine pA 2 (some 45) #[o1,o1,o1,o0,o0,o0,o0,o0,o0,o0,o0,o0,o0,o0,o0,o0] HT_ ?_
          refine pA 3 (some 46) #[o1,o1,o1,o1,o0,o0,o0,o0,o0,o0,o0,o0,o0,o0,o0,o0] HT_ ?_
          refine pA 4 (some 47) #[o1,o1,o1,o1,o1,o0,o0,o0,o0,o0,o0,o0,o0,o0,o0,o0] HT_ ?_
          refine pA 6 (some 49) #[o1,o1,o1,o1,o1,o0,o1,o0,o0,o0,o0,o0,o0,o0,o0,o0] HT_ ?_
          refine pA 7 (some 50) #[o1,o1,o1,o1,o1,o0,o1,o1,o0,o0,o0,o0,o0,o0,o0,o0] HT_ ?_
          refine pA 8 (some 51) #[o1,o1,o1,o1,o1,o0,o1,o1,o1,o0,o0,o0,o0,o0,o0,o0] HT_ ?_
          refine pA 9 (some 52) #[o1,o1,o1,o1,o1,o0,o1,o1,o1,o1,o0,o0,o0,o0,o0,o0] HT_ ?_
          refine tA (v := ?_) 5 (some 48) #[o1,o1,o1,o1,o1,o1,o1,o1,o1,o1,o0,o0,o0,o0,o0,o0] HT_ HW_ hHeld ?_ ?_
          rotate_left
          ·
           rintro w' ⟨s0, s1, s2, s3, s4, s5⟩
           go_simp
           with_reducible rfl
          refine tA (v := ?_) 10 (some 53) #[o1,o1,o1,o1,o1,o1,o1,o1,o1,o1,o1,o0,o0,o0,o0,o0] HT_ HW_ hHeld ?_ ?_
          rotate_left
          ·
           rintro w' ⟨s0, s1, s2, s3, s4, s5⟩
           go_simp
           with_reducible rfl
          refine pA 11 (some 54) #[o1,o1,o1,o1,o1,o1,o1,o1,o1,o1,o1,o1,o0,o0,o0,o0] HT_ ?_
          refine pA 12 (some 55) #[o1,o1,o1,o1,o1,o1,o1,o1,o1,o1,o1,o1,o1,o0,o0,o0] HT_ ?_
          refine nO 13 (some 56) #[o1,o1,o1,o1,o1,o1,o1,o1,o1,o1,o1,o1,o1,o1,o0,o0] HT_ (fun K hK => ?_)
          refine goes_ Tryd.func43 (by kernel_rfl) rfl #[.int .u64 (IntKind.u64.wrap (wrap64 (((rd_T110 l0 x5_1).f1) - ((rd_T110 l0 x5_1).f0))))] (by rfl) rfl rfl (by (try simp only [List.map_toArray, List.map_cons, List.map_nil]); rfl) ?_
          with_reducible refine (grapevineref02_Uint.calls k1 (IntKind.u64.wrap (wrap64 (((rd_T110 l0 x5_1).f1) - ((rd_T110 l0 x5_1).f0)))) t295 _ A15.out).mono ?_
          rintro e w22 ⟨v296, rfl, ho0, hb⟩
          refine ⟨_, rfl, ?_⟩
          have n0_ := am_ (Kd.R_elder' HO289.out (Kd.R_base ho0) hb)
          have n1_ := am_ (Kd.R_elder' HO292.out (Kd.R_base ho0) hb)
          have n2_ := am_ (Kd.R_lower (Kd.R_new' (Kd.R_new' ho0 (Kd.R_lt HO289.out)) (Kd.R_lt HO292.out)) (bz_ HB.out))
          have n3_ := am_ (below_step HB.out hb)
          clear HO289
          clear HO292
          clear HB
          have HO289 := n0_
          have HO292 := n1_
          have HO297 := n2_
          have HB := n3_
          clear n0_ n1_ n2_ n3_
          (try clear hb)
          (skip)
          (skip)
          (skip)
          (try clear ho0)
          obtain ⟨Ao24, co24, eo24⟩ := Kd.R_slice HO297.out
          (subst eo24)
          refine hK.out _ _ ⟨((HB.out.cell (World.block_lt_of_cell? w _ hw293_0)).trans hw293_0), ((HB.out.cell (World.block_lt_of_cell? w _ hw293_1)).trans hw293_1), ((HB.out.cell (World.block_lt_of_cell? w _ hw293_2)).trans hw293_2), ((HB.out.cell (World.block_lt_of_cell? w _ hw294_0)).trans hw294_0), ((HB.out.cell (World.block_lt_of_cell? w _ hw294_1)).trans hw294_1), ((HB.out.cell (World.block_lt_of_cell? w _ hw294_2)).trans hw294_2)⟩ (fun hHeld => ?_)
          clear hK K
          refine nA ?_
          refine nO 14 (some 57) #[o1,o1,o1,o1,o1,o1,o1,o1,o1,o1,o1,o1,o1,o1,o1,o0] HT_ (fun K hK => ?_)
          refine Kd.R_append_rows_step (Kd.int .u8) (w0 := w) w.heap.size (by rfl) (.tmp 43) (.tmp 56) 42 5 (.int .u8 0) 1 rfl Tryd.underlying42 info5 rfl (by decide) (by omega) v291 y290 t295 _ _ _ (fun k_ => some k_ ≠ (.slice Ao20 t287.length co20 : Value).ownBlock ∧ some k_ ≠ (.slice Ao24 t295.length co24 : Value).ownBlock) (fun _ => False) rfl rfl ?aO ?aR (fun _ _ h => h) (fun _ h => h.elim) ?aF ?aB ?aS ?aL ?_
          (case aR => repeat (exact (Kd.R_reads' HO297.out).2.2))
          (case aB => exact HB.out)
          (case aF => exact (fun k_ hk => ⟨Kd.fresh' (Kd.R_lt HO289.out) k_ hk, Kd.fresh' (Kd.R_lt HO297.out) k_ hk⟩))
          (case aO => exact HO292.out)
          (case aS => exact (bz_ HB.out))
          (case aL => have := LMc16.out; omega)
          intro v299 w23 ho hb hg hat
          rw [← Ny298.out] at ho
          have n0_ := am_ (Kd.R_after (ok := (fun k_ => some k_ ≠ (.slice Ao24 t295.length co24 : Value).ownBlock)) (by exact Kd.R_mono HO289.out (fun _ hk => ⟨hk.2, hk.1.2⟩)) hg hat)
          have n1_ := am_ (Kd.R_after (ok := (fun k_ => some k_ ≠ (.slice Ao20 t287.length co20 : Value).ownBlock)) (by exact Kd.R_mono HO297.out (fun _ hk => ⟨hk.1.2, hk.2⟩)) hg hat)
          have n2_ := am_ (hb)
          have n3_ := am_ (ho)
          clear HO289
          clear HO297
          clear HB
          clear HO292
          have HO289 := n0_
          have HO297 := n1_
          have HB := n2_
          have HO300 := n3_
          clear n0_ n1_ n2_ n3_
          clear ho hb hg hat
          refine hK.out _ _ ⟨((HB.out.cell (World.block_lt_of_cell? w _ hw293_0)).trans hw293_0), ((HB.out.cell (World.block_lt_of_cell? w _ hw293_1)).trans hw293_1), ((HB.out.cell (World.block_lt_of_cell? w _ hw293_2)).trans hw293_2), ((HB.out.cell (World.block_lt_of_cell? w _ hw294_0)).trans hw294_0), ((HB.out.cell (World.block_lt_of_cell? w _ hw294_1)).trans hw294_1), ((HB.out.cell (World.block_lt_of_cell? w _ hw294_2)).trans hw294_2)⟩ (fun hHeld => ?_)
          clear hK K
          refine nA ?_
          refine pA 15 (some 4) #[o1,o1,o1,o1,o1,o1,o1,o1,o1,o1,o1,o1,o1,o1,o1,o1] HT_ ?_
          refine dA HT_ ?_
          have p301 : 0 ≤ (x5_1 : Int) := of_decide_eq_true (by (with_reducible assumption))
          have q301 : x5_1 < (l0.length : Int) := of_decide_eq_true (by (with_reducible assumption))
          obtain ⟨ad301, e301, hx301_0, hx301_1, hx301_2⟩ := at_T110 HR0.out x5_1 p301 q301
          obtain rfl : ad285 = ad301 := (by injection e301)
          replace hx301_0 := (HB.out.cell (World.block_lt_of_cell? w _ hx301_0)).trans hx301_0
          replace hx301_1 := (HB.out.cell (World.block_lt_of_cell? w _ hx301_1)).trans hx301_1
          replace hx301_2 := (HB.out.cell (World.block_lt_of_cell? w _ hx301_2)).trans hx301_2
          replace p301 := eq_true p301
          replace q301 := eq_true q301
          try go_wp2_with (((with_reducible refine gate_builtin (b := .append) (xs := #[.tmp 58, .tmp 65]) rfl ?_); at_builtin; refine Kd.R_append (Kd.int .u8) (w0 := w) w.heap.size rfl (.tmp 58) (.tmp 65) 42 5 (.int .u8 0) 1 rfl Tryd.underlying42 info5 rfl (by decide) (by omega) v299 y298 (((rd_T110 l0 x5_1).f2) % 256) [.int .u8 (((rd_T110 l0 x5_1).f2) % 256)] (fun k_ => some k_ ≠ (.slice Ao20 t287.length co20 : Value).ownBlock ∧ some k_ ≠ (.slice Ao24 t295.length co24 : Value).ownBlock) (fun _ => False) rfl rfl ?aP (fun _ hk => hk.elim) ?aF ?aO ?aB ?aS ?aL ?_; (case aP => exact rfl); (case aB => exact HB.out); (case aF => exact (fun k_ hk => ⟨Kd.fresh' (Kd.R_lt HO289.out) k_ hk, Kd.fresh' (Kd.R_lt HO297.out) k_ hk⟩)); (case aO => exact HO300.out); (case aS => exact (bz_ HB.out)); (case aL => have := LMc17.out; omega); intro v303 w25 ho hb hg hat; rw [← Ny302.out] at ho; have n0_ := am_ (Kd.R_after (ok := (fun k_ => some k_ ≠ (.slice Ao24 t295.length co24 : Value).ownBlock)) HO289.out hg hat); have n1_ := am_ (Kd.R_after (ok := (fun k_ => some k_ ≠ (.slice Ao20 t287.length co20 : Value).ownBlock)) HO297.out hg hat); have n2_ := am_ (hb); have n3_ := am_ (ho); clear HO289; clear HO297; clear HB; clear HO300; have HO289 := n0_; have HO297 := n1_; have HB := n2_; have HO304 := n3_; clear n0_ n1_ n2_ n3_; clear ho hb hg hat))
          go_roundg k1
          case measure => have := HK1.out; omega
          case rel => exact ⟨(y302), (wrap64 (x5_1 + 1)), (by rfl), H', ⟨by have := HK1.out; omega⟩, ⟨by exact Kd.R_mono HO304.out (fun _ hk => trivial)⟩, ⟨by repeat (with_reducible exact HB.out)⟩⟩
         rw [if_neg c17] at H
         exact absurd H (by simp)
        rw [if_neg c16] at H
        exact absurd H (by simp)
       rw [if_neg c14] at H
       exact absurd H (by simp)
      rw [if_neg c12] at H
      exact absurd H (by simp)
     rw [if_neg c11] at H
     exact absurd H (by simp)
    rw [if_neg c10] at H
    exact absurd H (by simp)
   rw [if_neg c8] at H
   have c8b0 : decide (0 < x5_1) = false := decide_eq_false c8
   clear c8
   by_cases c26 : 0 ≤ x5_1
   ·
    rw [if_pos c26] at H
    have c26b0 : decide (0 ≤ x5_1) = true := decide_eq_true c26
    clear c26
    replace H := Option.bind_eq_some_iff.mp H
    obtain ⟨t306, A270, H⟩ := H
    try dsimp only at H
    have A27 := am_ A270
    clear A270
    by_cases c28 : x4_1.length + t306.length < 140737488355328
    ·
     rw [if_pos c28] at H
     have LMc28 := am_ c28
     clear c28
     obtain ⟨y309, hy309⟩ : ∃ y_ : List Int, y_ = (x4_1 ++ t306) := ⟨_, rfl⟩
     replace H : ((grapevineref02_Uint.f k1 (IntKind.u64.wrap (wrap64 (((rd_T110 l0 x5_1).f1) - ((rd_T110 l0 x5_1).f0))))).bind fun t314 => (if y309.length + t314.length < 140737488355328 then ((some (y309 ++ t314 : List Int)).bind fun y317 => (if y317.length < 140737488355328 then (grapevineref08_Put.l0 k1 l0 (y317 ++ [((rd_T110 l0 x5_1).f2) % 256]) (wrap64 (x5_1 + 1))) else (none))) else (none))) = some (r1, r2) := by (have H2_ := (Option.bind_some _ _).symm.trans H; rw [hy309]; with_reducible exact H2_)
     have Ny309 := am_ hy309
     clear hy309
     replace H := Option.bind_eq_some_iff.mp H
     obtain ⟨t314, A290, H⟩ := H
     try dsimp only at H
     have A29 := am_ A290
     clear A290
     by_cases c30 : y309.length + t314.length < 140737488355328
     ·
      rw [if_pos c30] at H
      have LMc30 := am_ c30
      clear c30
      obtain ⟨y317, hy317⟩ : ∃ y_ : List Int, y_ = (y309 ++ t314) := ⟨_, rfl⟩
      replace H : (if y317.length < 140737488355328 then (grapevineref08_Put.l0 k1 l0 (y317 ++ [((rd_T110 l0 x5_1).f2) % 256]) (wrap64 (x5_1 + 1))) else (none)) = some (r1, r2) := by (have H2_ := (Option.bind_some _ _).symm.trans H; rw [hy317]; with_reducible exact H2_)
      have Ny317 := am_ hy317
      clear hy317
      by_cases c31 : y317.length < 140737488355328
      ·
       rw [if_pos c31] at H
       have LMc31 := am_ c31
       clear c31
       obtain ⟨y321, hy321⟩ : ∃ y_ : List Int, y_ = (y317 ++ [((rd_T110 l0 x5_1).f2) % 256]) := ⟨_, rfl⟩
       replace H : (grapevineref08_Put.l0 k1 l0 y321 (wrap64 (x5_1 + 1))) = some (r1, r2) := by (rw [hy321]; with_reducible exact H)
       have Ny321 := am_ hy321
       clear hy321
       have H' := am_ H
       clear H
       have p305 : 0 ≤ (x5_1 : Int) := of_decide_eq_true (by (with_reducible assumption))
       have q305 : x5_1 < (l0.length : Int) := of_decide_eq_true (by (with_reducible assumption))
       obtain ⟨ad305, e305, hx305_0, hx305_1, hx305_2⟩ := at_T110 HR0.out x5_1 p305 q305
       cases e305
       replace hx305_0 := (HB.out.cell (World.block_lt_of_cell? w _ hx305_0)).trans hx305_0
       replace hx305_1 := (HB.out.cell (World.block_lt_of_cell? w _ hx305_1)).trans hx305_1
       replace hx305_2 := (HB.out.cell (World.block_lt_of_cell? w _ hx305_2)).trans hx305_2
       replace p305 := eq_true p305
       replace q305 := eq_true q305
       try go_wp2_with (first | ((with_reducible refine gate_callee (f := 43) rfl ?_); refine gL (some 41) Tryd.func43 #[.int .u64 (IntKind.u64.wrap (wrap64 ((wrap64 ((rd_T110 l0 x5_1).f0)) - 1)))] ?_; (with_reducible refine (grapevineref02_Uint.calls k1 (IntKind.u64.wrap (wrap64 ((wrap64 ((rd_T110 l0 x5_1).f0)) - 1))) t306 _ A27.out).mono ?_); rintro e w32 ⟨v307, rfl, ho0, hb⟩; refine ⟨_, rfl, ?_⟩; have n0_ := am_ (Kd.R_elder' HO_4.out (Kd.R_base ho0) hb); have n1_ := am_ (Kd.R_lower (Kd.R_new' ho0 (Kd.R_lt HO_4.out)) (bz_ HB.out)); have n2_ := am_ (below_step HB.out hb); clear HO_4; clear HB; have HO_4 := n0_; have HO308 := n1_; have HB := n2_; clear n0_ n1_ n2_; (try clear hb); (try clear ho0); obtain ⟨Ao34, co34, eo34⟩ := Kd.R_slice HO308.out; subst eo34) | ((with_reducible refine gate_builtin (b := .append) (xs := #[.tmp 31, .tmp 41]) rfl ?_); at_builtin; refine Kd.R_append_rows (Kd.int .u8) (w0 := w) w.heap.size rfl (.tmp 31) (.tmp 41) 42 5 (.int .u8 0) 1 rfl Tryd.underlying42 info5 rfl (by decide) (by omega) u4 x4_1 t306 _ _ _ (fun k_ => some k_ ≠ (.slice Ao34 t306.length co34 : Value).ownBlock) (fun _ => False) rfl rfl ?aO ?aR (fun _ _ h => h) (fun _ h => h.elim) ?aF ?aB ?aS ?aL ?_; (case aR => repeat (exact (Kd.R_reads' HO308.out).2.2)); (case aB => exact HB.out); (case aF => exact (fun k_ hk => Kd.fresh' (Kd.R_lt HO308.out) k_ hk)); (case aO => exact (by exact Kd.R_mono HO_4.out (fun _ hk => hk.2))); (case aS => exact (bz_ HB.out)); (case aL => have := LMc28.out; omega); intro v310 w33 ho hb hg hat; rw [← Ny309.out] at ho; have n0_ := am_ (Kd.R_after (ok := (fun _ => True)) HO308.out hg hat); have n1_ := am_ (hb); have n2_ := am_ (ho); clear HO308; clear HB; clear HO_4; have HO308 := n0_; have HB := n1_; have HO311 := n2_; clear n0_ n1_ n2_; clear ho hb hg hat))
       have n0_ := am_ (Kd.R_drew HO308.out)
       have n1_ := am_ (Kd.R_drew HO311.out)
       have n2_ := am_ (bd_ HB.out)
       clear HO308
       clear HO311
       clear HB
       have HO308 := n0_
       have HO311 := n1_
       have HB := n2_
       clear n0_ n1_ n2_
       have p312 : 0 ≤ (x5_1 : Int) := of_decide_eq_true (by (with_reducible assumption))
       have q312 : x5_1 < (l0.length : Int) := of_decide_eq_true (by (with_reducible assumption))
       obtain ⟨ad312, e312, hx312_0, hx312_1, hx312_2⟩ := at_T110 HR0.out x5_1 p312 q312
       have hw312_2 := hx312_2
       have hw312_1 := hx312_1
       have hw312_0 := hx312_0
       obtain rfl : ad305 = ad312 := (by injection e312)
       replace hx312_0 := (HB.out.cell (World.block_lt_of_cell? w _ hx312_0)).trans hx312_0
       replace hx312_1 := (HB.out.cell (World.block_lt_of_cell? w _ hx312_1)).trans hx312_1
       replace hx312_2 := (HB.out.cell (World.block_lt_of_cell? w _ hx312_2)).trans hx312_2
       replace p312 := eq_true p312
       replace q312 := eq_true q312
       have p313 : 0 ≤ (x5_1 : Int) := of_decide_eq_true (by (with_reducible assumption))
       have q313 : x5_1 < (l0.length : Int) := of_decide_eq_true (by (with_reducible assumption))
       obtain ⟨ad313, e313, hx313_0, hx313_1, hx313_2⟩ := at_T110 HR0.out x5_1 p313 q313
       have hw313_2 := hx313_2
       have hw313_1 := hx313_1
       have hw313_0 := hx313_0
       obtain rfl : ad305 = ad313 := (by injection e313)
       replace hx313_0 := (HB.out.cell (World.block_lt_of_cell? w _ hx313_0)).trans hx313_0
       replace hx313_1 := (HB.out.cell (World.block_lt_of_cell? w _ hx313_1)).trans hx313_1
       replace hx313_2 := (HB.out.cell (World.block_lt_of_cell? w _ hx313_2)).trans hx313_2
       replace p313 := eq_true p313
       replace q313 := eq_true q313
       refine start_ (n := 16) (S := fun w' => w'.cell? (ad305.add ((x5_1).toNat * 3)) = some (.int .i64 ((rd_T110 l0 x5_1).f0)) ∧ w'.cell? ⟨(ad305.add ((x5_1).toNat * 3)).block, (ad305.add ((x5_1).toNat * 3)).off + 1, none⟩ = some (.int .i64 ((rd_T110 l0 x5_1).f1)) ∧ w'.cell? ⟨(ad305.add ((x5_1).toNat * 3)).block, (ad305.add ((x5_1).toNat * 3)).off + 2, none⟩ = some (.int .i64 ((rd_T110 l0 x5_1).f2)) ∧ w'.cell? (ad305.add ((x5_1).toNat * 3)) = some (.int .i64 ((rd_T110 l0 x5_1).f0)) ∧ w'.cell? ⟨(ad305.add ((x5_1).toNat * 3)).block, (ad305.add ((x5_1).toNat * 3)).off + 1, none⟩ = some (.int .i64 ((rd_T110 l0 x5_1).f1)) ∧ w'.cell? ⟨(ad305.add ((x5_1).toNat * 3)).block, (ad305.add ((x5_1).toNat * 3)).off + 2, none⟩ = some (.int .i64 ((rd_T110 l0 x5_1).f2))) (ds := []) #[false, false, false, false, false, false, false, false, false, false, false, false, false, false, false, false] (by kernel_rfl) rfl rfl ⟨((HB.out.cell (World.block_lt_of_cell? w _ hw312_0)).trans hw312_0), ((HB.out.cell (World.block_lt_of_cell? w _ hw312_1)).trans hw312_1), ((HB.out.cell (World.block_lt_of_cell? w _ hw312_2)).trans hw312_2), ((HB.out.cell (World.block_lt_of_cell? w _ hw313_0)).trans hw313_0), ((HB.out.cell (World.block_lt_of_cell? w _ hw313_1)).trans hw313_1), ((HB.out.cell (World.block_lt_of_cell? w _ hw313_2)).trans hw313_2)⟩ (fun hHeld => ?_); refine with_tabW grapevineref08_Put.tab13 grapevineref08_Put.bits13 (fun HT_ HW_ => ?_)
       generalize w33.drew = w35 at HO308 HO311 HB hx312_0 hx312_1 hx312_2 hx313_0 hx313_1 hx313_2 hHeld ⊢
       refine pA 0 (some 43) #[o1,o0,o0,o0,o0,o0,o0,o0,o0,o0,o0,o0,o0,o0,o0,o0] HT_ ?_
       refine pA 1 (some 44) #[o1,o1,o0,o0,o0,o0,o0,o0,o0,o0,o0,o0,o0,o0,o0,o0] HT_ ?_
       refine pA 2 (some 45) #[o1,o1,o1,o0,o0,o0,o0,o0,o0,o0,o0,o0,o0,o0,o0,o0] HT_ ?_
       refine pA 3 (some 46) #[o1,o1,o1,o1,o0,o0,o0,o0,o0,o0,o0,o0,o0,o0,o0,o0] HT_ ?_
       refine pA 4 (some 47) #[o1,o1,o1,o1,o1,o0,o0,o0,o0,o0,o0,o0,o0,o0,o0,o0] HT_ ?_
       refine pA 6 (some 49) #[o1,o1,o1,o1,o1,o0,o1,o0,o0,o0,o0,o0,o0,o0,o0,o0] HT_ ?_
       refine pA 7 (some 50) #[o1,o1,o1,o1,o1,o0,o1,o1,o0,o0,o0,o0,o0,o0,o0,o0] HT_ ?_
       refine pA 8 (some 51) #[o1,o1,o1,o1,o1,o0,o1,o1,o1,o0,o0,o0,o0,o0,o0,o0] HT_ ?_
       refine pA 9 (some 52) #[o1,o1,o1,o1,o1,o0,o1,o1,o1,o1,o0,o0,o0,o0,o0,o0] HT_ ?_
       refine tA (v := ?_) 5 (some 48) #[o1,o1,o1,o1,o1,o1,o1,o1,o1,o1,o0,o0,o0,o0,o0,o0] HT_ HW_ hHeld ?_ ?_
       rotate_left
       ·
        rintro w' ⟨s0, s1, s2, s3, s4, s5⟩
        go_simp
        with_reducible rfl
       refine tA (v := ?_) 10 (some 53) #[o1,o1,o1,o1,o1,o1,o1,o1,o1,o1,o1,o0,o0,o0,o0,o0] HT_ HW_ hHeld ?_ ?_
       rotate_left
       ·
        rintro w' ⟨s0, s1, s2, s3, s4, s5⟩
        go_simp
        with_reducible rfl
       refine pA 11 (some 54) #[o1,o1,o1,o1,o1,o1,o1,o1,o1,o1,o1,o1,o0,o0,o0,o0] HT_ ?_
       refine pA 12 (some 55) #[o1,o1,o1,o1,o1,o1,o1,o1,o1,o1,o1,o1,o1,o0,o0,o0] HT_ ?_
       refine nO 13 (some 56) #[o1,o1,o1,o1,o1,o1,o1,o1,o1,o1,o1,o1,o1,o1,o0,o0] HT_ (fun K hK => ?_)
       refine goes_ Tryd.func43 (by kernel_rfl) rfl #[.int .u64 (IntKind.u64.wrap (wrap64 (((rd_T110 l0 x5_1).f1) - ((rd_T110 l0 x5_1).f0))))] (by rfl) rfl rfl (by (try simp only [List.map_toArray, List.map_cons, List.map_nil]); rfl) ?_
       with_reducible refine (grapevineref02_Uint.calls k1 (IntKind.u64.wrap (wrap64 (((rd_T110 l0 x5_1).f1) - ((rd_T110 l0 x5_1).f0)))) t314 _ A29.out).mono ?_
       rintro e w36 ⟨v315, rfl, ho0, hb⟩
       refine ⟨_, rfl, ?_⟩
       have n0_ := am_ (Kd.R_elder' HO308.out (Kd.R_base ho0) hb)
       have n1_ := am_ (Kd.R_elder' HO311.out (Kd.R_base ho0) hb)
       have n2_ := am_ (Kd.R_lower (Kd.R_new' (Kd.R_new' ho0 (Kd.R_lt HO308.out)) (Kd.R_lt HO311.out)) (bz_ HB.out))
       have n3_ := am_ (below_step HB.out hb)
       clear HO308
       clear HO311
       clear HB
       have HO308 := n0_
       have HO311 := n1_
       have HO316 := n2_
       have HB := n3_
       clear n0_ n1_ n2_ n3_
       (try clear hb)
       (skip)
       (skip)
       (skip)
       (try clear ho0)
       obtain ⟨Ao38, co38, eo38⟩ := Kd.R_slice HO316.out
       (subst eo38)
       refine hK.out _ _ ⟨((HB.out.cell (World.block_lt_of_cell? w _ hw312_0)).trans hw312_0), ((HB.out.cell (World.block_lt_of_cell? w _ hw312_1)).trans hw312_1), ((HB.out.cell (World.block_lt_of_cell? w _ hw312_2)).trans hw312_2), ((HB.out.cell (World.block_lt_of_cell? w _ hw313_0)).trans hw313_0), ((HB.out.cell (World.block_lt_of_cell? w _ hw313_1)).trans hw313_1), ((HB.out.cell (World.block_lt_of_cell? w _ hw313_2)).trans hw313_2)⟩ (fun hHeld => ?_)
       clear hK K
       refine nA ?_
       refine nO 14 (some 57) #[o1,o1,o1,o1,o1,o1,o1,o1,o1,o1,o1,o1,o1,o1,o1,o0] HT_ (fun K hK => ?_)
       refine Kd.R_append_rows_step (Kd.int .u8) (w0 := w) w.heap.size (by rfl) (.tmp 43) (.tmp 56) 42 5 (.int .u8 0) 1 rfl Tryd.underlying42 info5 rfl (by decide) (by omega) v310 y309 t314 _ _ _ (fun k_ => some k_ ≠ (.slice Ao34 t306.length co34 : Value).ownBlock ∧ some k_ ≠ (.slice Ao38 t314.length co38 : Value).ownBlock) (fun _ => False) rfl rfl ?aO ?aR (fun _ _ h => h) (fun _ h => h.elim) ?aF ?aB ?aS ?aL ?_
       (case aR => repeat (exact (Kd.R_reads' HO316.out).2.2))
       (case aB => exact HB.out)
       (case aF => exact (fun k_ hk => ⟨Kd.fresh' (Kd.R_lt HO308.out) k_ hk, Kd.fresh' (Kd.R_lt HO316.out) k_ hk⟩))
       (case aO => exact HO311.out)
       (case aS => exact (bz_ HB.out))
       (case aL => have := LMc30.out; omega)
       intro v318 w37 ho hb hg hat
       rw [← Ny317.out] at ho
       have n0_ := am_ (Kd.R_after (ok := (fun k_ => some k_ ≠ (.slice Ao38 t314.length co38 : Value).ownBlock)) (by exact Kd.R_mono HO308.out (fun _ hk => ⟨hk.2, hk.1.2⟩)) hg hat)
       have n1_ := am_ (Kd.R_after (ok := (fun k_ => some k_ ≠ (.slice Ao34 t306.length co34 : Value).ownBlock)) (by exact Kd.R_mono HO316.out (fun _ hk => ⟨hk.1.2, hk.2⟩)) hg hat)
       have n2_ := am_ (hb)
       have n3_ := am_ (ho)
       clear HO308
       clear HO316
       clear HB
       clear HO311
       have HO308 := n0_
       have HO316 := n1_
       have HB := n2_
       have HO319 := n3_
       clear n0_ n1_ n2_ n3_
       clear ho hb hg hat
       refine hK.out _ _ ⟨((HB.out.cell (World.block_lt_of_cell? w _ hw312_0)).trans hw312_0), ((HB.out.cell (World.block_lt_of_cell? w _ hw312_1)).trans hw312_1), ((HB.out.cell (World.block_lt_of_cell? w _ hw312_2)).trans hw312_2), ((HB.out.cell (World.block_lt_of_cell? w _ hw313_0)).trans hw313_0), ((HB.out.cell (World.block_lt_of_cell? w _ hw313_1)).trans hw313_1), ((HB.out.cell (World.block_lt_of_cell? w _ hw313_2)).trans hw313_2)⟩ (fun hHeld => ?_)
       clear hK K
       refine nA ?_
       refine pA 15 (some 4) #[o1,o1,o1,o1,o1,o1,o1,o1,o1,o1,o1,o1,o1,o1,o1,o1] HT_ ?_
       refine dA HT_ ?_
       have p320 : 0 ≤ (x5_1 : Int) := of_decide_eq_true (by (with_reducible assumption))
       have q320 : x5_1 < (l0.length : Int) := of_decide_eq_true (by (with_reducible assumption))
       obtain ⟨ad320, e320, hx320_0, hx320_1, hx320_2⟩ := at_T110 HR0.out x5_1 p320 q320
       obtain rfl : ad305 = ad320 := (by injection e320)
       replace hx320_0 := (HB.out.cell (World.block_lt_of_cell? w _ hx320_0)).trans hx320_0
       replace hx320_1 := (HB.out.cell (World.block_lt_of_cell? w _ hx320_1)).trans hx320_1
       replace hx320_2 := (HB.out.cell (World.block_lt_of_cell? w _ hx320_2)).trans hx320_2
       replace p320 := eq_true p320
       replace q320 := eq_true q320
       try go_wp2_with (((with_reducible refine gate_builtin (b := .append) (xs := #[.tmp 58, .tmp 65]) rfl ?_); at_builtin; refine Kd.R_append (Kd.int .u8) (w0 := w) w.heap.size rfl (.tmp 58) (.tmp 65) 42 5 (.int .u8 0) 1 rfl Tryd.underlying42 info5 rfl (by decide) (by omega) v318 y317 (((rd_T110 l0 x5_1).f2) % 256) [.int .u8 (((rd_T110 l0 x5_1).f2) % 256)] (fun k_ => some k_ ≠ (.slice Ao34 t306.length co34 : Value).ownBlock ∧ some k_ ≠ (.slice Ao38 t314.length co38 : Value).ownBlock) (fun _ => False) rfl rfl ?aP (fun _ hk => hk.elim) ?aF ?aO ?aB ?aS ?aL ?_; (case aP => exact rfl); (case aB => exact HB.out); (case aF => exact (fun k_ hk => ⟨Kd.fresh' (Kd.R_lt HO308.out) k_ hk, Kd.fresh' (Kd.R_lt HO316.out) k_ hk⟩)); (case aO => exact HO319.out); (case aS => exact (bz_ HB.out)); (case aL => have := LMc31.out; omega); intro v322 w39 ho hb hg hat; rw [← Ny321.out] at ho; have n0_ := am_ (Kd.R_after (ok := (fun k_ => some k_ ≠ (.slice Ao38 t314.length co38 : Value).ownBlock)) HO308.out hg hat); have n1_ := am_ (Kd.R_after (ok := (fun k_ => some k_ ≠ (.slice Ao34 t306.length co34 : Value).ownBlock)) HO316.out hg hat); have n2_ := am_ (hb); have n3_ := am_ (ho); clear HO308; clear HO316; clear HB; clear HO319; have HO308 := n0_; have HO316 := n1_; have HB := n2_; have HO323 := n3_; clear n0_ n1_ n2_ n3_; clear ho hb hg hat))
       go_roundg k1
       case measure => have := HK1.out; omega
       case rel => exact ⟨(y321), (wrap64 (x5_1 + 1)), (by rfl), H', ⟨by have := HK1.out; omega⟩, ⟨by exact Kd.R_mono HO323.out (fun _ hk => trivial)⟩, ⟨by repeat (with_reducible exact HB.out)⟩⟩
      rw [if_neg c31] at H
      exact absurd H (by simp)
     rw [if_neg c30] at H
     exact absurd H (by simp)
    rw [if_neg c28] at H
    exact absurd H (by simp)
   rw [if_neg c26] at H
   exact absurd H (by simp)
  rw [if_neg c7] at H
  have c7b0 : decide (x5_1 < (l0.length : Int)) = false := decide_eq_false c7
  clear c7
  simp only [Option.some.injEq, Prod.mk.injEq] at H
  obtain ⟨rfl, rfl⟩ := H
  go_wp2
  go_ret2
  exact ⟨_, by rfl, by exact HO_4.out, by repeat (with_reducible exact HB.out)⟩
 replace c3 := Bool.eq_false_iff.mpr c3
 subst c3
 rw [if_neg (show ¬ (false = true) by decide)] at H
 simp only [Option.some.injEq, Prod.mk.injEq] at H
 obtain ⟨rfl, rfl⟩ := H
 go_enter Tryd.func47, Tryd.ntmps47
 go_wp2_with (((with_reducible refine gate_callee (f := 57) rfl ?_); refine gL (some 8) Tryd.func57 #[.slice A0 l0.length c0] ?_; (with_reducible refine (grapevineref08_Right.calls k _ _ l0 false _ ?side1 ?side2 A2.out).mono ?_); (case side1 => repeat (exact HR0.out)); (case side2 => exact HC0.out); rintro e w' ⟨rfl, ⟨nd, rfl⟩⟩; refine ⟨_, rfl, ?_⟩))
 go_ret2
 exact ⟨_, by first | rfl | (simp [errW_none, errW_some] <;> rfl) | (simp [*, errW_none, errW_some] <;> rfl), by first | exact Kd.R_nil _ _ _ _ _ | exact Kd.N_nil _ _ _ _ _ | exact Kd.V_nil _ _ _ _ _ | exact Kd.Q_nil _ _ _ _ _ | exact Kd.S_nil _ _ _ _ _, by repeat (first | (with_reducible first | exact HB.out | apply ba_ | apply bn_ | apply bd_) | exact HB.out)⟩
end Go.Proofs.YtoandmnefgimoaaDoor.PL
