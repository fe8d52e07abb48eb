import Derived.Test.YtoandmnefgimoaaDoorLBPLx0
import Derived.Test.YtoandmnefgimoaaDoorLBPLx4
namespace Go.Proofs.YtoandmnefgimoaaDoor.PL
open Go.RowKit Go.Proofs.YtoandmnefgimoaaDoorW.PrintWords Go.Proofs.YtoandmnefgimoaaDoorW.PrintLast Go.Proofs.YtoandmnefgimoaaDoorW.PrintMore
attribute [local go_sem] max2_int min2_int max_two min_two max_three min_three max_four min_four
set_option linter.unusedVariables false
set_option linter.unusedSimpArgs false
def octet_Uint.l0 : Nat → Int → List Int → Option (List Int)
 | 0, _, _ => none
 | k + 1, x0, x3 => if x0 ≥ 128 then (if x3.length < 140737488355328 then (octet_Uint.l0 k (x0 / 128) (x3 ++ [Go.bits .or .u8 (x0 % 256) 128])) else (none)) else (if x3.length < 140737488355328 then (some (x3 ++ [x0 % 256])) else (none))
def octet_Uint.f (k : Nat) (a0 : Int) : Option (List Int) := octet_Uint.l0 k a0 []
def octet_Uint.J (w : World) (r : List Int) (k : Nat) (a' : Act) (w' : World) : Prop :=
 ∃ (k1 : Nat) (x0 : Int) (v3 u4 u5 u6 u7 u8 u9 u10 u11 u12 u13 : Value) (xs : List Int), a' = { tmps := #[.int .u64 x0, undef, .slice none 0 0, v3, u4, u5, u6, u7, u8, u9, u10, u11, u12, u13, undef, undef, undef, undef, undef], defers := [] } ∧
  octet_Uint.l0 k1 x0 xs = some r ∧ k1 ≤ k ∧ Kd.R (Kd.int .u8) 5 w' w.heap.size (fun _ => True) v3 xs ∧ Below w.heap.size w w'
set_option maxHeartbeats 4000000 in
set_option maxRecDepth 100000 in
theorem octet_Uint.calls (k : Nat) (a0 : Int) (r : List Int) (w : World) (h : octet_Uint.f k a0 = some r) :
 Calls Tryd.prog 26 #[.int .u64 a0] w fun e w' => ∃ v0_ : Value, e = .returned (v0_) ∧ Kd.R (Kd.int .u8) 5 w' w.heap.size (fun _ => True) v0_ r ∧ Below w.heap.size w w' := by
 have H := am_ h
 clear h
 go_enter Tryd.func26, Tryd.ntmps26
 go_wp2
 refine wp_scope_jumps 0 (octet_Uint.J w r k) (fun a' _ => (RowKit.intOf (a'.tmps.getD 0 undef)).toNat) rfl ?_ ?_
 ·
  go_wp2
  go_step3
  have hl : octet_Uint.l0 k a0 [] = some r := H.out
  have HO := am_ (Kd.R_nil (Kd.int .u8) 5 w w.heap.size (fun _ => True))
  have HB := am_ (Below.refl w.heap.size w)
  have HK := am_ (Nat.le_refl k)
  clear H
  cases k with
  | zero => exact absurd hl (by simp [octet_Uint.l0])
  | succ k1 =>
  simp only [octet_Uint.l0] at hl
  by_cases c1 : a0 ≥ 128
  ·
   rw [if_pos c1] at hl
   by_cases c2 : (([] : List Int)).length < 140737488355328
   ·
    rw [if_pos c2] at hl
    have HL := am_ c2
    have H' := am_ hl
    clear c2 hl
    go_wp2_with (at_builtin; refine Kd.R_append (Kd.int .u8) (w0 := w) w.heap.size rfl (.tmp 6) (.tmp 10) 42 5 (.int .u8 0) 1 rfl Tryd.underlying42 info5 rfl (by decide) (by omega) (.slice none 0 0) ([] : List Int) (Go.bits .or .u8 (a0 % 256) 128) [.int .u8 (Go.bits .or .u8 (a0 % 256) 128)] (fun _ => True) (fun _ => False) rfl rfl rfl (fun _ hk => hk.elim) (fun _ _ => trivial) HO.out (by repeat (exact HB.out)) (bz_ (by repeat (exact HB.out))) (by have := HL.out; omega) ?_; intro v4 w4 ho4 hb4 hg4 hat4; have HO4 := am_ ho4; have HB4 := am_ hb4; clear ho4 hb4 hg4 hat4)
    go_step3
    refine ⟨rfl, k1, _, v4, _, _, _, _, _, _, _, _, _, _, _, rfl, H'.out, by have := HK.out; omega, HO4.out, HB4.out⟩
   rw [if_neg c2] at hl
   cases hl
  rw [if_neg c1] at hl
  by_cases c2 : (([] : List Int)).length < 140737488355328
  ·
   rw [if_pos c2] at hl
   have HL := am_ c2
   clear c2
   obtain rfl := Option.some.inj hl
   clear hl
   go_wp2_with (at_builtin; refine Kd.R_append (Kd.int .u8) (w0 := w) w.heap.size rfl (.tmp 14) (.tmp 17) 42 5 (.int .u8 0) 1 rfl Tryd.underlying42 info5 rfl (by decide) (by omega) (.slice none 0 0) ([] : List Int) (a0 % 256) [.int .u8 (a0 % 256)] (fun _ => True) (fun _ => False) rfl rfl rfl (fun _ hk => hk.elim) (fun _ _ => trivial) HO.out (by repeat (exact HB.out)) (bz_ (by repeat (exact HB.out))) (by have := HL.out; omega) ?_; intro v4 w4 ho4 hb4 hg4 hat4; have HO4 := am_ ho4; have HB4 := am_ hb4; clear ho4 hb4 hg4 hat4)
   simp only [Exit.jump]
   go_ret
   exact ⟨_, rfl, HO4.out, HB4.out⟩
  rw [if_neg c2] at hl
  cases hl
 rintro a' w' ⟨k1, x0, v3, u4, u5, u6, u7, u8, u9, u10, u11, u12, u13, xs, rfl, hl, hk, ho, hb⟩
 have HO := am_ ho
 have HB := am_ hb
 have HK := am_ hk
 clear ho hb hk
 cases k1 with
 | zero => exact absurd hl (by simp [octet_Uint.l0])
 | succ k1 =>
 simp only [octet_Uint.l0] at hl
 by_cases c1 : x0 ≥ 128
 ·
  rw [if_pos c1] at hl
  by_cases c2 : (xs).length < 140737488355328
  ·
   rw [if_pos c2] at hl
   have HL := am_ c2
   have H' := am_ hl
   clear c2 hl
   go_wp2_with (at_builtin; refine Kd.R_append (Kd.int .u8) (w0 := w) w.heap.size rfl (.tmp 6) (.tmp 10) 42 5 (.int .u8 0) 1 rfl Tryd.underlying42 info5 rfl (by decide) (by omega) v3 xs (Go.bits .or .u8 (x0 % 256) 128) [.int .u8 (Go.bits .or .u8 (x0 % 256) 128)] (fun _ => True) (fun _ => False) rfl rfl rfl (fun _ hk => hk.elim) (fun _ _ => trivial) HO.out (by repeat (exact HB.out)) (bz_ (by repeat (exact HB.out))) (by have := HL.out; omega) ?_; intro v4 w4 ho4 hb4 hg4 hat4; have HO4 := am_ ho4; have HB4 := am_ hb4; clear ho4 hb4 hg4 hat4)
   go_step3
   refine ⟨rfl, ⟨k1, _, v4, _, _, _, _, _, _, _, _, _, _, _, rfl, H'.out, by have := HK.out; omega, HO4.out, HB4.out⟩, ?_⟩
   simp [RowKit.intOf]
   omega
  rw [if_neg c2] at hl
  cases hl
 rw [if_neg c1] at hl
 by_cases c2 : (xs).length < 140737488355328
 ·
  rw [if_pos c2] at hl
  have HL := am_ c2
  clear c2
  obtain rfl := Option.some.inj hl
  clear hl
  go_wp2_with (at_builtin; refine Kd.R_append (Kd.int .u8) (w0 := w) w.heap.size rfl (.tmp 14) (.tmp 17) 42 5 (.int .u8 0) 1 rfl Tryd.underlying42 info5 rfl (by decide) (by omega) v3 xs (x0 % 256) [.int .u8 (x0 % 256)] (fun _ => True) (fun _ => False) rfl rfl rfl (fun _ hk => hk.elim) (fun _ _ => trivial) HO.out (by repeat (exact HB.out)) (bz_ (by repeat (exact HB.out))) (by have := HL.out; omega) ?_; intro v4 w4 ho4 hb4 hg4 hat4; have HO4 := am_ ho4; have HB4 := am_ hb4; clear ho4 hb4 hg4 hat4)
  simp only [Exit.jump]
  go_ret
  exact ⟨_, rfl, HO4.out, HB4.out⟩
 rw [if_neg c2] at hl
 cases hl
def span_Put.l0 : Nat → List Int → Int → List (S110) → Int → Int → Option (List Int × Int)
 | 0, _, _, _, _, _ => none
 | k + 1, x4, x5, x18, x19, x20 => if x20 < x19 then (if 0 ≤ x20 then (if x20 < (x18.length : Int) then ((octet_Uint.f k (IntKind.u64.wrap (wrap64 ((wrap64 (((rd_T110 x18 x20).f0) - x5)) - 1)))).bind fun t121 => (if x4.length + t121.length < 140737488355328 then ((some (x4 ++ t121 : List Int)).bind fun y124 => ((octet_Uint.f k (IntKind.u64.wrap (wrap64 (((rd_T110 x18 x20).f1) - ((rd_T110 x18 x20).f0))))).bind fun t127 => (if y124.length + t127.length < 140737488355328 then ((some (y124 ++ t127 : List Int)).bind fun y130 => (if y130.length < 140737488355328 then (span_Put.l0 k (y130 ++ [((rd_T110 x18 x20).f2) % 256]) ((rd_T110 x18 x20).f1) x18 x19 (wrap64 (x20 + 1))) else (none))) else (none)))) else (none))) else (none)) else (none)) else (some (x4, 0))
def span_Put.f (k : Nat) (l0 : List (S110)) : Option (List Int × Int) := (span_Right.f k l0).bind fun t115 => (if t115 = true then (if (l0.length : Int) > 256 then (some (([] : List Int), 6)) else ((octet_Uint.f k (IntKind.u64.wrap ((l0.length : Int)))).bind fun t116 => (span_Put.l0 k t116 0 l0 (l0.length : Int) 0))) else (some (([] : List Int), 2)))
set_option maxHeartbeats 8000000 in
set_option maxRecDepth 100000 in
theorem span_Put.calls (k : Nat) (A0 : Option Addr) (c0 : Nat) (l0 : List (S110)) (r1 : List Int) (r2 : Int) (w : World) (hr0 : Kd.C k110 w A0 l0.length l0) (hc0 : l0.length ≤ c0) (h : span_Put.f k l0 = some (r1, r2)) :
 Calls Tryd.prog 38 #[.slice A0 l0.length c0] w fun e w' => ∃ v0_ : Value, e = .returned (.tuple #[v0_, .int .i64 r2]) ∧ Kd.R (Kd.int .u8) 5 w' w.heap.size (fun _ => True) v0_ r1 ∧ Below w.heap.size w w' := by
 have hu110 := Tryd.underlying110
 have HR0 := am_ hr0
 have HC0 := am_ hc0
 clear hr0 hc0
 have HB := am_ (Below.refl w.heap.size w)
 have H : ((span_Right.f k l0).bind fun t115 => (if t115 = true then (if (l0.length : Int) > 256 then (some (([] : List Int), 6)) else ((octet_Uint.f k (IntKind.u64.wrap ((l0.length : Int)))).bind fun t116 => (span_Put.l0 k t116 0 l0 (l0.length : Int) 0))) else (some (([] : List Int), 2)))) = some (r1, r2) := h
 clear h
 replace H := Option.bind_eq_some_iff.mp H
 obtain ⟨t115, A20, H⟩ := H
 try dsimp only at H
 have A2 := am_ A20
 clear A20
 by_cases c3 : t115 = true
 ·
  subst c3
  rw [if_pos rfl] at H
  by_cases c4 : (l0.length : Int) > 256
  ·
   rw [if_pos c4] at H
   have c4b0 : decide (256 < (l0.length : Int)) = true := decide_eq_true c4
   have c4b1 : decide (256 < l0.length) = true := decide_eq_true (by omega)
   clear c4
   simp only [Option.some.injEq, Prod.mk.injEq] at H
   obtain ⟨rfl, rfl⟩ := H
   go_enter Tryd.func38, Tryd.ntmps38
   go_wp2_with (((with_reducible refine gate_callee (f := 49) rfl ?_); refine gL (some 9) Tryd.func49 #[.slice A0 l0.length c0] ?_; (with_reducible refine (span_Right.calls k _ _ l0 true _ ?side1 ?side2 A2.out).mono ?_); (case side1 => repeat (exact HR0.out)); (case side2 => exact HC0.out); rintro e w5 ⟨rfl, hb⟩; refine ⟨_, rfl, ?_⟩; have n0_ := am_ (below_step HB.out hb); clear HB; have HB := n0_; clear n0_; (try clear hb)))
   go_ret2
   exact ⟨_, by first | rfl | (simp [errW_none, errW_some] <;> rfl) | (simp [*, errW_none, errW_some] <;> rfl), by first | exact Kd.R_nil _ _ _ _ _ | exact Kd.N_nil _ _ _ _ _ | exact Kd.V_nil _ _ _ _ _ | exact Kd.Q_nil _ _ _ _ _ | exact Kd.S_nil _ _ _ _ _, by repeat (first | (with_reducible first | exact HB.out | apply ba_ | apply bn_ | apply bd_) | exact HB.out)⟩
  rw [if_neg c4] at H
  have c4b0 : decide (256 < (l0.length : Int)) = false := decide_eq_false c4
  have c4b1 : decide (256 < l0.length) = false := decide_eq_false (by omega)
  clear c4
  replace H := Option.bind_eq_some_iff.mp H
  obtain ⟨t116, A60, H⟩ := H
  try dsimp only at H
  have A6 := am_ A60
  clear A60
  have H' := am_ H
  clear H
  go_enter Tryd.func38, Tryd.ntmps38
  go_wp2_with (first | ((with_reducible refine gate_callee (f := 49) rfl ?_); refine gL (some 9) Tryd.func49 #[.slice A0 l0.length c0] ?_; (with_reducible refine (span_Right.calls k _ _ l0 true _ ?side1 ?side2 A2.out).mono ?_); (case side1 => repeat (exact HR0.out)); (case side2 => exact HC0.out); rintro e w7 ⟨rfl, hb⟩; refine ⟨_, rfl, ?_⟩; have n0_ := am_ (below_step HB.out hb); clear HB; have HB := n0_; clear n0_; (try clear hb)) | ((with_reducible refine gate_callee (f := 26) rfl ?_); refine gL (some 17) Tryd.func26 #[.int .u64 (IntKind.u64.wrap (l0.length : Int))] ?_; (with_reducible refine (octet_Uint.calls k (IntKind.u64.wrap (l0.length : Int)) t116 _ A6.out).mono ?_); rintro e w8 ⟨v117, rfl, ho0, hb⟩; refine ⟨_, rfl, ?_⟩; have n0_ := am_ (Kd.R_lower ho0 (bz_ HB.out)); have n1_ := am_ (below_step HB.out hb); clear HB; have HO118 := n0_; have HB := n1_; clear n0_ n1_; (try clear hb); (try clear ho0)))
  go_loopg [4, 5, 20] k (fun kq v4 v5 v20 w' => ∃ (x4_1 : List Int) (x5_1 : Int) (x20_1 : Int), v5 = .int .i64 x5_1 ∧ v20 = .int .i64 x20_1 ∧ Aside0 (span_Put.l0 kq x4_1 x5_1 l0 (l0.length : Int) x20_1 = some (r1, r2)) ∧ Aside0 (kq ≤ k) ∧ Aside0 (Kd.R (Kd.int .u8) 5 w' w.heap.size (fun _ => True) v4 x4_1) ∧ Aside0 (Below w.heap.size w w'))
  case atStart => exact ⟨(t116), (0), (0), (by rfl), (by rfl), H', ⟨Nat.le_refl _⟩, ⟨by exact HO118.out⟩, ⟨by repeat (with_reducible exact HB.out)⟩⟩
  case round =>
  clear H'
  try clear c4b0
  try clear c4b1
  obtain ⟨x4_1, x5_1, x20_1, rfl, rfl, HA, HK1, HO_4, HB⟩ := hrel
  cases gk with
  | zero => exact absurd HA.out (by simp [span_Put.l0])
  | succ k1 =>
  have H := HA.out
  clear HA
  simp only [span_Put.l0] at H
  by_cases c9 : x20_1 < (l0.length : Int)
  ·
   rw [if_pos c9] at H
   have c9b0 : decide (x20_1 < (l0.length : Int)) = true := decide_eq_true c9
   clear c9
   by_cases c10 : 0 ≤ x20_1
   ·
    rw [if_pos c10] at H
    have c10b0 : decide (0 ≤ x20_1) = true := decide_eq_true c10
    clear c10
    by_cases c11 : x20_1 < (l0.length : Int)
    ·
     rw [if_pos c11] at H
     have c11b0 : decide (x20_1 < (l0.length : Int)) = true := decide_eq_true c11
     clear c11
     replace H := Option.bind_eq_some_iff.mp H
     obtain ⟨t121, A120, H⟩ := H
     try dsimp only at H
     have A12 := am_ A120
     clear A120
     by_cases c13 : x4_1.length + t121.length < 140737488355328
     ·
      rw [if_pos c13] at H
      have LMc13 := am_ c13
      clear c13
      obtain ⟨y124, hy124⟩ : ∃ y_ : List Int, y_ = (x4_1 ++ t121) := ⟨_, rfl⟩
      replace H : ((octet_Uint.f k1 (IntKind.u64.wrap (wrap64 (((rd_T110 l0 x20_1).f1) - ((rd_T110 l0 x20_1).f0))))).bind fun t127 => (if y124.length + t127.length < 140737488355328 then ((some (y124 ++ t127 : List Int)).bind fun y130 => (if y130.length < 140737488355328 then (span_Put.l0 k1 (y130 ++ [((rd_T110 l0 x20_1).f2) % 256]) ((rd_T110 l0 x20_1).f1) l0 (l0.length : Int) (wrap64 (x20_1 + 1))) else (none))) else (none))) = some (r1, r2) := by (have H2_ := (Option.bind_some _ _).symm.trans H; rw [hy124]; with_reducible exact H2_)
      have Ny124 := am_ hy124
      clear hy124
      replace H := Option.bind_eq_some_iff.mp H
      obtain ⟨t127, A140, H⟩ := H
      try dsimp only at H
      have A14 := am_ A140
      clear A140
      by_cases c15 : y124.length + t127.length < 140737488355328
      ·
       rw [if_pos c15] at H
       have LMc15 := am_ c15
       clear c15
       obtain ⟨y130, hy130⟩ : ∃ y_ : List Int, y_ = (y124 ++ t127) := ⟨_, rfl⟩
       replace H : (if y130.length < 140737488355328 then (span_Put.l0 k1 (y130 ++ [((rd_T110 l0 x20_1).f2) % 256]) ((rd_T110 l0 x20_1).f1) l0 (l0.length : Int) (wrap64 (x20_1 + 1))) else (none)) = some (r1, r2) := by (have H2_ := (Option.bind_some _ _).symm.trans H; rw [hy130]; with_reducible exact H2_)
       have Ny130 := am_ hy130
       clear hy130
       by_cases c16 : y130.length < 140737488355328
       ·
        rw [if_pos c16] at H
        have LMc16 := am_ c16
        clear c16
        obtain ⟨y133, hy133⟩ : ∃ y_ : List Int, y_ = (y130 ++ [((rd_T110 l0 x20_1).f2) % 256]) := ⟨_, rfl⟩
        replace H : (span_Put.l0 k1 y133 ((rd_T110 l0 x20_1).f1) l0 (l0.length : Int) (wrap64 (x20_1 + 1))) = some (r1, r2) := by (rw [hy133]; with_reducible exact H)
        have Ny133 := am_ hy133
        clear hy133
        have H' := am_ H
        clear H
        have p119 : 0 ≤ (x20_1 : Int) := of_decide_eq_true (by (with_reducible assumption))
        have q119 : x20_1 < (l0.length : Int) := of_decide_eq_true (by (with_reducible assumption))
        obtain ⟨ad119, e119, hx119_0, hx119_1, hx119_2⟩ := at_T110 HR0.out x20_1 p119 q119
        cases e119
        replace hx119_0 := (HB.out.cell (World.block_lt_of_cell? w _ hx119_0)).trans hx119_0
        replace hx119_1 := (HB.out.cell (World.block_lt_of_cell? w _ hx119_1)).trans hx119_1
        replace hx119_2 := (HB.out.cell (World.block_lt_of_cell? w _ hx119_2)).trans hx119_2
        replace p119 := eq_true p119
        replace q119 := eq_true q119
        go_wp2_with (first | ((with_reducible refine gd_ (N := 7) rfl ?_); refine bE 7 #[.int .i64 0, .int .i64 0, .int .i64 0] 110 ?_; intro gb120 hg w17 hbox hb; have n0_ := am_ (Kd.R_below HO_4.out hb); have n1_ := am_ (below_step HB.out hb); have n2_ := am_ (hbox); have n3_ := am_ ((by rw [hg]; exact (bz_ HB.out) : w.heap.size ≤ gb120)); have n4_ := am_ ((by rw [hg]; exact (bz_ HB.out) : w.heap.size ≤ gb120)); clear HO_4; clear HB; have HO_4 := n0_; have HB := n1_; have BK120 := n2_; have GW120 := n3_; have GE120 := n4_; clear n0_ n1_ n2_ n3_ n4_; clear hb hbox hg; obtain ⟨hcz18_0, hcz18_1, hcz18_2, hfz18_0, hfz18_1, hfz18_2⟩ := cz3 BK120.out) | ((with_reducible refine gate_callee (f := 26) rfl ?_); refine gL (some 31) Tryd.func26 #[.int .u64 (IntKind.u64.wrap (wrap64 ((wrap64 (((rd_T110 l0 x20_1).f0) - x5_1)) - 1)))] ?_; (with_reducible refine (octet_Uint.calls k1 (IntKind.u64.wrap (wrap64 ((wrap64 (((rd_T110 l0 x20_1).f0) - x5_1)) - 1))) t121 _ A12.out).mono ?_); rintro e w19 ⟨v122, rfl, ho0, hb⟩; refine ⟨_, rfl, ?_⟩; have n0_ := am_ (Kd.R_elder' (by exact (Kd.R_mono (Kd.R_far (p := ⟨gb120, 2, none⟩) (Kd.R_far (p := ⟨gb120, 1, none⟩) (Kd.R_far (p := ⟨gb120, 0, none⟩) (Kd.R_types HO_4.out BK120.out (by decide)) (fun _ hk => hk.2) (.int .i64 ((rd_T110 l0 x20_1).f0))) (fun _ hk => hk.2) (.int .i64 ((rd_T110 l0 x20_1).f1))) (fun _ hk => hk.2) (.int .i64 ((rd_T110 l0 x20_1).f2))) (fun _ h_ => h_.1))) (Kd.R_base ho0) hb); have n1_ := am_ (Kd.R_lower (Kd.R_new' ho0 (Kd.R_lt (by exact (Kd.R_mono (Kd.R_far (p := ⟨gb120, 2, none⟩) (Kd.R_far (p := ⟨gb120, 1, none⟩) (Kd.R_far (p := ⟨gb120, 0, none⟩) (Kd.R_types HO_4.out BK120.out (by decide)) (fun _ hk => hk.2) (.int .i64 ((rd_T110 l0 x20_1).f0))) (fun _ hk => hk.2) (.int .i64 ((rd_T110 l0 x20_1).f1))) (fun _ hk => hk.2) (.int .i64 ((rd_T110 l0 x20_1).f2))) (fun _ h_ => h_.1))))) (bz_ (by repeat (with_reducible first | exact HB.out | refine bs_ ?_ GE120.out)))); have n2_ := am_ (blk_below (g := gb120) (o := .cells #[.int .i64 ((rd_T110 l0 x20_1).f0), .int .i64 ((rd_T110 l0 x20_1).f1), .int .i64 ((rd_T110 l0 x20_1).f2)] 110 (0, 0)) (by refine blk_put (cs := #[.int .i64 ((rd_T110 l0 x20_1).f0), .int .i64 ((rd_T110 l0 x20_1).f1), .int .i64 0]) ?_ 2 _ rfl; refine blk_put (cs := #[.int .i64 ((rd_T110 l0 x20_1).f0), .int .i64 0, .int .i64 0]) ?_ 1 _ rfl; refine blk_put (cs := #[.int .i64 0, .int .i64 0, .int .i64 0]) ?_ 0 _ rfl; exact BK120.out) hb); have n3_ := am_ (below_step (by repeat (with_reducible first | exact HB.out | refine bs_ ?_ GE120.out)) hb); clear HO_4; clear BK120; clear HB; have HO_4 := n0_; have HO123 := n1_; have BK120 := n2_; have HB := n3_; clear n0_ n1_ n2_ n3_; (try clear hb); (try clear ho0); obtain ⟨Ao21, co21, eo21⟩ := Kd.R_slice HO123.out; subst eo21) | ((with_reducible refine gate_builtin (b := .append) (xs := #[.tmp 24, .tmp 31]) rfl ?_); at_builtin; refine Kd.R_append_rows (Kd.int .u8) (w0 := w) w.heap.size rfl (.tmp 24) (.tmp 31) 42 5 (.int .u8 0) 1 rfl Tryd.underlying42 info5 rfl (by decide) (by omega) u4 x4_1 t121 _ _ _ (fun k_ => some k_ ≠ (.slice Ao21 t121.length co21 : Value).ownBlock) (fun _ => False) rfl rfl ?aO ?aR (fun _ _ h => h) (fun _ h => h.elim) ?aF ?aB ?aS ?aL ?_; (case aR => repeat (exact (Kd.R_reads' HO123.out).2.2)); (case aB => exact HB.out); (case aF => exact (fun k_ hk => Kd.fresh' (Kd.R_lt HO123.out) k_ hk)); (case aO => exact (by exact Kd.R_mono HO_4.out (fun _ hk => hk.2))); (case aS => exact (bz_ HB.out)); (case aL => have := LMc13.out; omega); intro v125 w20 ho hb hg hat; rw [← Ny124.out] at ho; have n0_ := am_ (blk_grown (g := gb120) (o := .cells #[.int .i64 ((rd_T110 l0 x20_1).f0), .int .i64 ((rd_T110 l0 x20_1).f1), .int .i64 ((rd_T110 l0 x20_1).f2)] 110 (0, 0)) BK120.out hg (Kd.R_ne HO_4.out BK120.out (by decide))); have n1_ := am_ (Kd.R_after (ok := (fun _ => True)) HO123.out hg hat); have n2_ := am_ (hb); have n3_ := am_ (ho); clear BK120; clear HO123; clear HB; clear HO_4; have BK120 := n0_; have HO123 := n1_; have HB := n2_; have HO126 := n3_; clear n0_ n1_ n2_ n3_; clear ho hb hg hat; obtain ⟨hcz22_0, hcz22_1, hcz22_2, hfz22_0, hfz22_1, hfz22_2⟩ := cz3 BK120.out) | ((with_reducible refine gate_callee (f := 26) rfl ?_); refine gL (some 40) Tryd.func26 #[.int .u64 (IntKind.u64.wrap (wrap64 (((rd_T110 l0 x20_1).f1) - ((rd_T110 l0 x20_1).f0))))] ?_; (with_reducible refine (octet_Uint.calls k1 (IntKind.u64.wrap (wrap64 (((rd_T110 l0 x20_1).f1) - ((rd_T110 l0 x20_1).f0)))) t127 _ A14.out).mono ?_); rintro e w23 ⟨v128, rfl, ho0, hb⟩; refine ⟨_, rfl, ?_⟩; have n0_ := am_ (Kd.R_elder' HO123.out (Kd.R_base ho0) hb); have n1_ := am_ (Kd.R_elder' HO126.out (Kd.R_base ho0) hb); have n2_ := am_ (Kd.R_lower (Kd.R_new' (Kd.R_new' ho0 (Kd.R_lt HO123.out)) (Kd.R_lt HO126.out)) (bz_ HB.out)); have n3_ := am_ (blk_below (g := gb120) (o := .cells #[.int .i64 ((rd_T110 l0 x20_1).f0), .int .i64 ((rd_T110 l0 x20_1).f1), .int .i64 ((rd_T110 l0 x20_1).f2)] 110 (0, 0)) BK120.out hb); have n4_ := am_ (below_step HB.out hb); clear HO123; clear HO126; clear BK120; clear HB; have HO123 := n0_; have HO126 := n1_; have HO129 := n2_; have BK120 := n3_; have HB := n4_; clear n0_ n1_ n2_ n3_ n4_; (try clear hb); (try clear ho0); obtain ⟨Ao25, co25, eo25⟩ := Kd.R_slice HO129.out; subst eo25) | ((with_reducible refine gate_builtin (b := .append) (xs := #[.tmp 33, .tmp 40]) rfl ?_); at_builtin; refine Kd.R_append_rows (Kd.int .u8) (w0 := w) w.heap.size rfl (.tmp 33) (.tmp 40) 42 5 (.int .u8 0) 1 rfl Tryd.underlying42 info5 rfl (by decide) (by omega) v125 y124 t127 _ _ _ (fun k_ => some k_ ≠ (.slice Ao21 t121.length co21 : Value).ownBlock ∧ some k_ ≠ (.slice Ao25 t127.length co25 : Value).ownBlock) (fun _ => False) rfl rfl ?aO ?aR (fun _ _ h => h) (fun _ h => h.elim) ?aF ?aB ?aS ?aL ?_; (case aR => repeat (exact (Kd.R_reads' HO129.out).2.2)); (case aB => exact HB.out); (case aF => exact (fun k_ hk => ⟨Kd.fresh' (Kd.R_lt HO123.out) k_ hk, Kd.fresh' (Kd.R_lt HO129.out) k_ hk⟩)); (case aO => exact HO126.out); (case aS => exact (bz_ HB.out)); (case aL => have := LMc15.out; omega); intro v131 w24 ho hb hg hat; rw [← Ny130.out] at ho; have n0_ := am_ (blk_grown (g := gb120) (o := .cells #[.int .i64 ((rd_T110 l0 x20_1).f0), .int .i64 ((rd_T110 l0 x20_1).f1), .int .i64 ((rd_T110 l0 x20_1).f2)] 110 (0, 0)) BK120.out hg (Kd.R_ne HO126.out BK120.out (by decide))); have n1_ := am_ (Kd.R_after (ok := (fun k_ => some k_ ≠ (.slice Ao25 t127.length co25 : Value).ownBlock)) (by exact Kd.R_mono HO123.out (fun _ hk => ⟨hk.2, hk.1.2⟩)) hg hat); have n2_ := am_ (Kd.R_after (ok := (fun k_ => some k_ ≠ (.slice Ao21 t121.length co21 : Value).ownBlock)) (by exact Kd.R_mono HO129.out (fun _ hk => ⟨hk.1.2, hk.2⟩)) hg hat); have n3_ := am_ (hb); have n4_ := am_ (ho); clear BK120; clear HO123; clear HO129; clear HB; clear HO126; have BK120 := n0_; have HO123 := n1_; have HO129 := n2_; have HB := n3_; have HO132 := n4_; clear n0_ n1_ n2_ n3_ n4_; clear ho hb hg hat; obtain ⟨hcz26_0, hcz26_1, hcz26_2, hfz26_0, hfz26_1, hfz26_2⟩ := cz3 BK120.out) | ((with_reducible refine gate_builtin (b := .append) (xs := #[.tmp 42, .tmp 46]) rfl ?_); at_builtin; refine Kd.R_append (Kd.int .u8) (w0 := w) w.heap.size rfl (.tmp 42) (.tmp 46) 42 5 (.int .u8 0) 1 rfl Tryd.underlying42 info5 rfl (by decide) (by omega) v131 y130 (((rd_T110 l0 x20_1).f2) % 256) [.int .u8 (((rd_T110 l0 x20_1).f2) % 256)] (fun k_ => some k_ ≠ (.slice Ao21 t121.length co21 : Value).ownBlock ∧ some k_ ≠ (.slice Ao25 t127.length co25 : Value).ownBlock) (fun _ => False) rfl rfl ?aP (fun _ hk => hk.elim) ?aF ?aO ?aB ?aS ?aL ?_; (case aP => exact rfl); (case aB => exact HB.out); (case aF => exact (fun k_ hk => ⟨Kd.fresh' (Kd.R_lt HO123.out) k_ hk, Kd.fresh' (Kd.R_lt HO129.out) k_ hk⟩)); (case aO => exact HO132.out); (case aS => exact (bz_ HB.out)); (case aL => have := LMc16.out; omega); intro v134 w27 ho hb hg hat; rw [← Ny133.out] at ho; have n0_ := am_ (blk_grown (g := gb120) (o := .cells #[.int .i64 ((rd_T110 l0 x20_1).f0), .int .i64 ((rd_T110 l0 x20_1).f1), .int .i64 ((rd_T110 l0 x20_1).f2)] 110 (0, 0)) BK120.out hg (Kd.R_ne HO132.out BK120.out (by decide))); have n1_ := am_ (Kd.R_after (ok := (fun k_ => some k_ ≠ (.slice Ao25 t127.length co25 : Value).ownBlock)) HO123.out hg hat); have n2_ := am_ (Kd.R_after (ok := (fun k_ => some k_ ≠ (.slice Ao21 t121.length co21 : Value).ownBlock)) HO129.out hg hat); have n3_ := am_ (hb); have n4_ := am_ (ho); clear BK120; clear HO123; clear HO129; clear HB; clear HO132; have BK120 := n0_; have HO123 := n1_; have HO129 := n2_; have HB := n3_; have HO135 := n4_; clear n0_ n1_ n2_ n3_ n4_; clear ho hb hg hat; obtain ⟨hcz28_0, hcz28_1, hcz28_2, hfz28_0, hfz28_1, hfz28_2⟩ := cz3 BK120.out))
        go_roundg k1
        case measure => have := HK1.out; omega
        case rel => exact ⟨(y133), ((rd_T110 l0 x20_1).f1), (wrap64 (x20_1 + 1)), (by rfl), (by rfl), H', ⟨by have := HK1.out; omega⟩, ⟨by exact Kd.R_mono HO135.out (fun _ hk => trivial)⟩, ⟨by repeat (with_reducible exact HB.out)⟩⟩
       rw [if_neg c16] at H
       exact absurd H (by simp)
      rw [if_neg c15] at H
      exact absurd H (by simp)
     rw [if_neg c13] at H
     exact absurd H (by simp)
    rw [if_neg c11] at H
    exact absurd H (by simp)
   rw [if_neg c10] at H
   exact absurd H (by simp)
  rw [if_neg c9] at H
  have c9b0 : decide (x20_1 < (l0.length : Int)) = false := decide_eq_false c9
  clear c9
  simp only [Option.some.injEq, Prod.mk.injEq] at H
  obtain ⟨rfl, rfl⟩ := H
  go_wp2
  go_ret2
  exact ⟨_, by rfl, by exact HO_4.out, by repeat (with_reducible exact HB.out)⟩
 replace c3 := Bool.eq_false_iff.mpr c3
 subst c3
 rw [if_neg (show ¬ (false = true) by decide)] at H
 simp only [Option.some.injEq, Prod.mk.injEq] at H
 obtain ⟨rfl, rfl⟩ := H
 go_enter Tryd.func38, Tryd.ntmps38
 go_wp2_with (((with_reducible refine gate_callee (f := 49) rfl ?_); refine gL (some 9) Tryd.func49 #[.slice A0 l0.length c0] ?_; (with_reducible refine (span_Right.calls k _ _ l0 false _ ?side1 ?side2 A2.out).mono ?_); (case side1 => repeat (exact HR0.out)); (case side2 => exact HC0.out); rintro e w29 ⟨rfl, hb⟩; refine ⟨_, rfl, ?_⟩; have n0_ := am_ (below_step HB.out hb); clear HB; have HB := n0_; clear n0_; (try clear hb)))
 go_ret2
 exact ⟨_, by first | rfl | (simp [errW_none, errW_some] <;> rfl) | (simp [*, errW_none, errW_some] <;> rfl), by first | exact Kd.R_nil _ _ _ _ _ | exact Kd.N_nil _ _ _ _ _ | exact Kd.V_nil _ _ _ _ _ | exact Kd.Q_nil _ _ _ _ _ | exact Kd.S_nil _ _ _ _ _, by repeat (first | (with_reducible first | exact HB.out | apply ba_ | apply bn_ | apply bd_) | exact HB.out)⟩
end Go.Proofs.YtoandmnefgimoaaDoor.PL
