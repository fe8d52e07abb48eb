-- PRINTED by gprint.py (a session's own driver over the kit's print): not trusted; Lean checks it.
import Derived.Test.YtpeacoppclmmlaaDPSx0
import Derived.Test.YtpeacoppclmmlaaDPSx2
import Derived.Test.YtpeacoppclmmlaaDPSx4
import Derived.Test.YtpeacoppclmmlaaDPSx8
import Derived.Test.YtpeacoppclmmlaaDPSx9
namespace Go.Proofs.Ytpeacoppclmmlaa.PS
open Go.RowKit Go.Proofs.YtpeacoppclmmlaaW.PrintWords Go.Proofs.YtpeacoppclmmlaaW.PrintLast Go.Proofs.YtpeacoppclmmlaaW.PrintMore
attribute [local go_sem] max2_int min2_int max_two min_two max_three min_three max_four min_four   -- for this text's walks alone
set_option linter.unusedVariables false
set_option linter.unusedSimpArgs false

/-! ### grapevinelaw08_SpanFirst: function 10 -/
/-! ### octet_Uint: function 65 -/
-- typed by hand: a label and a goto
def octet_Uint.l0 : Nat → Int → List Int → Option (List Int)
  | 0, _, _ => none
  | k + 1, x0, x3 => if x0 ≥ 128 then (if x3.length < 140737488355328 then (octet_Uint.l0 k (x0 / 128) (x3 ++ [Go.bits .or .u8 (x0 % 256) 128])) else (none)) else (if x3.length < 140737488355328 then (some (x3 ++ [x0 % 256])) else (none))
def octet_Uint.f (k : Nat) (a0 : Int) : Option (List Int) := octet_Uint.l0 k a0 []
def octet_Uint.J (w : World) (r : List Int) (k : Nat) (a' : Act) (w' : World) : Prop :=
  ∃ (k1 : Nat) (x0 : Int) (v3 u4 u5 u6 u7 u8 u9 u10 u11 u12 u13 : Value) (xs : List Int), a' = { tmps := #[.int .u64 x0, undef, .slice none 0 0, v3, u4, u5, u6, u7, u8, u9, u10, u11, u12, u13, undef, undef, undef, undef, undef], defers := [] } ∧
    octet_Uint.l0 k1 x0 xs = some r ∧ k1 ≤ k ∧ Kd.R (Kd.int .u8) 5 w' w.heap.size (fun _ => True) v3 xs ∧ Below w.heap.size w w'
set_option maxHeartbeats 4000000 in
set_option maxRecDepth 100000 in
theorem octet_Uint.calls (k : Nat) (a0 : Int) (r : List Int) (w : World) (h : octet_Uint.f k a0 = some r) :
    Calls Try.prog 65 #[.int .u64 a0] w fun e w' => ∃ v0_ : Value, e = .returned (v0_) ∧ Kd.R (Kd.int .u8) 5 w' w.heap.size (fun _ => True) v0_ r ∧ Below w.heap.size w w' := by
  have H := Aside0.mk h
  clear h
  go_enter Try.func65, Try.ntmps65
  go_wp2
  refine wp_scope_jumps 0 (octet_Uint.J w r k) (fun a' _ => (RowKit.intOf (a'.tmps.getD 0 undef)).toNat) rfl ?_ ?_
  · go_wp2
    go_step3
    have hl : octet_Uint.l0 k a0 [] = some r := H.out
    have HO := Aside0.mk (Kd.R_nil (Kd.int .u8) 5 w w.heap.size (fun _ => True))
    have HB := Aside0.mk (Below.refl w.heap.size w)
    have HK := Aside0.mk (Nat.le_refl k)
    clear H
    cases k with
    | zero => exact absurd hl (by simp [octet_Uint.l0])
    | succ k1 =>
      simp only [octet_Uint.l0] at hl
      by_cases c1 : a0 ≥ 128
      · rw [if_pos c1] at hl
        by_cases c2 : (([] : List Int)).length < 140737488355328
        · rw [if_pos c2] at hl
          have HL := Aside0.mk c2
          have H' := Aside0.mk hl
          clear c2 hl
          go_wp2_with (at_builtin; refine Kd.R_append (Kd.int .u8) (w0 := w) w.heap.size rfl (.tmp 6) (.tmp 10) 44 5 (.int .u8 0) 1 rfl Try.underlying44 info5 rfl (by decide) (by omega) (.slice none 0 0) ([] : List Int) (Go.bits .or .u8 (a0 % 256) 128) [.int .u8 (Go.bits .or .u8 (a0 % 256) 128)] (fun _ => True) (fun _ => False) rfl rfl rfl (fun _ hk => hk.elim) (fun _ _ => trivial) (by (with_reducible repeat (first | apply Kd.R_alloc | apply Kd.R_drewN | apply Kd.R_drew)); exact HO.out) (by repeat (first | exact HB.out | apply below_alloc)) (below_size (by repeat (first | exact HB.out | apply below_alloc))) (by have := HL.out; first | omega | (simp only [List.length_nil] at *; omega)) ?_; intro v4 w4 ho4 hb4 hg4 hat4; have HO4 := Aside0.mk ho4; have HB4 := Aside0.mk hb4; clear ho4 hb4 hg4 hat4)
          go_step3
          refine ⟨rfl, k1, _, v4, _, _, _, _, _, _, _, _, _, _, _, rfl, H'.out, by have := HK.out; omega, HO4.out, HB4.out⟩
        · rw [if_neg c2] at hl
          cases hl
      · rw [if_neg c1] at hl
        by_cases c2 : (([] : List Int)).length < 140737488355328
        · rw [if_pos c2] at hl
          have HL := Aside0.mk c2
          clear c2
          obtain rfl := Option.some.inj hl
          clear hl
          go_wp2_with (at_builtin; refine Kd.R_append (Kd.int .u8) (w0 := w) w.heap.size rfl (.tmp 14) (.tmp 17) 44 5 (.int .u8 0) 1 rfl Try.underlying44 info5 rfl (by decide) (by omega) (.slice none 0 0) ([] : List Int) (a0 % 256) [.int .u8 (a0 % 256)] (fun _ => True) (fun _ => False) rfl rfl rfl (fun _ hk => hk.elim) (fun _ _ => trivial) (by (with_reducible repeat (first | apply Kd.R_alloc | apply Kd.R_drewN | apply Kd.R_drew)); exact HO.out) (by repeat (first | exact HB.out | apply below_alloc)) (below_size (by repeat (first | exact HB.out | apply below_alloc))) (by have := HL.out; first | omega | (simp only [List.length_nil] at *; omega)) ?_; intro v4 w4 ho4 hb4 hg4 hat4; have HO4 := Aside0.mk ho4; have HB4 := Aside0.mk hb4; clear ho4 hb4 hg4 hat4)
          simp only [Exit.jump]
          go_ret
          exact ⟨_, rfl, HO4.out, HB4.out⟩
        · rw [if_neg c2] at hl
          cases hl
  · rintro a' w' ⟨k1, x0, v3, u4, u5, u6, u7, u8, u9, u10, u11, u12, u13, xs, rfl, hl, hk, ho, hb⟩
    have HO := Aside0.mk ho
    have HB := Aside0.mk hb
    have HK := Aside0.mk hk
    clear ho hb hk
    cases k1 with
    | zero => exact absurd hl (by simp [octet_Uint.l0])
    | succ k1 =>
      simp only [octet_Uint.l0] at hl
      by_cases c1 : x0 ≥ 128
      · rw [if_pos c1] at hl
        by_cases c2 : (xs).length < 140737488355328
        · rw [if_pos c2] at hl
          have HL := Aside0.mk c2
          have H' := Aside0.mk hl
          clear c2 hl
          go_wp2_with (at_builtin; refine Kd.R_append (Kd.int .u8) (w0 := w) w.heap.size rfl (.tmp 6) (.tmp 10) 44 5 (.int .u8 0) 1 rfl Try.underlying44 info5 rfl (by decide) (by omega) v3 xs (Go.bits .or .u8 (x0 % 256) 128) [.int .u8 (Go.bits .or .u8 (x0 % 256) 128)] (fun _ => True) (fun _ => False) rfl rfl rfl (fun _ hk => hk.elim) (fun _ _ => trivial) (by (with_reducible repeat (first | apply Kd.R_alloc | apply Kd.R_drewN | apply Kd.R_drew)); exact HO.out) (by repeat (first | exact HB.out | apply below_alloc)) (below_size (by repeat (first | exact HB.out | apply below_alloc))) (by have := HL.out; first | omega | (simp only [List.length_nil] at *; omega)) ?_; intro v4 w4 ho4 hb4 hg4 hat4; have HO4 := Aside0.mk ho4; have HB4 := Aside0.mk hb4; clear ho4 hb4 hg4 hat4)
          go_step3
          refine ⟨rfl, ⟨k1, _, v4, _, _, _, _, _, _, _, _, _, _, _, rfl, H'.out, by have := HK.out; omega, HO4.out, HB4.out⟩, ?_⟩
          simp [RowKit.intOf]
          omega
        · rw [if_neg c2] at hl
          cases hl
      · rw [if_neg c1] at hl
        by_cases c2 : (xs).length < 140737488355328
        · rw [if_pos c2] at hl
          have HL := Aside0.mk c2
          clear c2
          obtain rfl := Option.some.inj hl
          clear hl
          go_wp2_with (at_builtin; refine Kd.R_append (Kd.int .u8) (w0 := w) w.heap.size rfl (.tmp 14) (.tmp 17) 44 5 (.int .u8 0) 1 rfl Try.underlying44 info5 rfl (by decide) (by omega) v3 xs (x0 % 256) [.int .u8 (x0 % 256)] (fun _ => True) (fun _ => False) rfl rfl rfl (fun _ hk => hk.elim) (fun _ _ => trivial) (by (with_reducible repeat (first | apply Kd.R_alloc | apply Kd.R_drewN | apply Kd.R_drew)); exact HO.out) (by repeat (first | exact HB.out | apply below_alloc)) (below_size (by repeat (first | exact HB.out | apply below_alloc))) (by have := HL.out; first | omega | (simp only [List.length_nil] at *; omega)) ?_; intro v4 w4 ho4 hb4 hg4 hat4; have HO4 := Aside0.mk ho4; have HB4 := Aside0.mk hb4; clear ho4 hb4 hg4 hat4)
          simp only [Exit.jump]
          go_ret
          exact ⟨_, rfl, HO4.out, HB4.out⟩
        · rw [if_neg c2] at hl
          cases hl


/-! ### span_Put: function 42 -/
def span_Put.l0 : Nat → List Int → Int → List (S43) → Int → Int → Option (List Int × Int)
  | 0, _, _, _, _, _ => none
  | k + 1, x4, x5, x18, x19, x20 => if x20 < x19 then (if 0 ≤ x20 then (if x20 < (x18.length : Int) then ((octet_Uint.f k (IntKind.u64.wrap (wrap64 ((wrap64 (((rd_T43 x18 x20).f0) - x5)) - 1)))).bind fun t428 => (if x4.length + t428.length < 140737488355328 then ((some (x4 ++ t428 : List Int)).bind fun y431 => ((octet_Uint.f k (IntKind.u64.wrap (wrap64 (((rd_T43 x18 x20).f1) - ((rd_T43 x18 x20).f0))))).bind fun t434 => (if y431.length + t434.length < 140737488355328 then ((some (y431 ++ t434 : List Int)).bind fun y437 => (if y437.length < 140737488355328 then (span_Put.l0 k (y437 ++ [((rd_T43 x18 x20).f2) % 256]) ((rd_T43 x18 x20).f1) x18 x19 (wrap64 (x20 + 1))) else (none))) else (none)))) else (none))) else (none)) else (none)) else (some (x4, 0))
def span_Put.f (k : Nat) (l0 : List (S43)) : Option (List Int × Int) := (span_Right.f k l0).bind fun t422 => (if t422 = true then (if (l0.length : Int) > 256 then (some (([] : List Int), 6)) else ((octet_Uint.f k (IntKind.u64.wrap ((l0.length : Int)))).bind fun t423 => (span_Put.l0 k t423 0 l0 (l0.length : Int) 0))) else (some (([] : List Int), 2)))
set_option maxHeartbeats 8000000 in
set_option maxRecDepth 100000 in
theorem span_Put.calls (k : Nat) (A0 : Option Addr) (c0 : Nat) (l0 : List (S43)) (r1 : List Int) (r2 : Int) (w : World) (hr0 : Kd.C k43 w A0 l0.length l0) (hc0 : l0.length ≤ c0) (h : span_Put.f k l0 = some (r1, r2)) :
    Calls Try.prog 42 #[.slice A0 l0.length c0] w fun e w' => ∃ v0_ : Value, e = .returned (.tuple #[v0_, .int .i64 r2]) ∧ Kd.R (Kd.int .u8) 5 w' w.heap.size (fun _ => True) v0_ r1 ∧ Below w.heap.size w w' := by
  have hu43 := Try.underlying43
  have HR0 := Aside0.mk hr0
  have HC0 := Aside0.mk hc0
  clear hr0 hc0
  have HB := Aside0.mk (Below.refl w.heap.size w)
  have H : ((span_Right.f k l0).bind fun t422 => (if t422 = true then (if (l0.length : Int) > 256 then (some (([] : List Int), 6)) else ((octet_Uint.f k (IntKind.u64.wrap ((l0.length : Int)))).bind fun t423 => (span_Put.l0 k t423 0 l0 (l0.length : Int) 0))) else (some (([] : List Int), 2)))) = some (r1, r2) := h
  clear h
  replace H := Option.bind_eq_some_iff.mp H
  obtain ⟨t422, A20, H⟩ := H
  replace H : (if t422 = true then (if (l0.length : Int) > 256 then (some (([] : List Int), 6)) else ((octet_Uint.f k (IntKind.u64.wrap ((l0.length : Int)))).bind fun t423 => (span_Put.l0 k t423 0 l0 (l0.length : Int) 0))) else (some (([] : List Int), 2))) = some (r1, r2) := H
  have A2 := Aside0.mk A20
  clear A20
  by_cases c3 : t422 = true
  · subst c3
    have H1 : (if (l0.length : Int) > 256 then (some (([] : List Int), 6)) else ((octet_Uint.f k (IntKind.u64.wrap ((l0.length : Int)))).bind fun t423 => (span_Put.l0 k t423 0 l0 (l0.length : Int) 0))) = some (r1, r2) := by rw [if_pos rfl] at H; exact H
    clear H
    have H := H1
    clear H1
    by_cases c4 : (l0.length : Int) > 256
    · rw [if_pos c4] at H
      have c4b0 : decide (256 < (l0.length : Int)) = true := decide_eq_true c4
      have c4b1 : decide (256 < l0.length) = true := decide_eq_true (by omega)
      clear c4
      simp only [Option.some.injEq, Prod.mk.injEq] at H
      obtain ⟨rfl, rfl⟩ := H
      go_enter Try.func42, Try.ntmps42
      go_wp2_with (first | ((with_reducible refine gate_callee (f := 28) rfl ?_); refine goesL_ (some 9) rfl rfl Try.func28 (by kernel_rfl) rfl #[.slice A0 l0.length c0] rfl (by (try simp only [List.map_toArray, List.map_cons, List.map_nil]); first | done | rfl | (simp only [List.length_drop, List.length_take]; rfl)) ?_; (with_reducible refine (span_Right.calls k _ _ l0 true _ ?side1 ?side2 A2.out).mono ?_); (case side1 => repeat (first | exact HR0.out | (with_reducible refine Kd.C_alloc ?_ _) | (with_reducible refine Kd.C_drewN ?_ _) | (with_reducible refine Kd.C_drew ?_))); (case side2 => exact HC0.out); rintro e w5 ⟨rfl, hb⟩; refine ⟨_, rfl, ?_⟩; have n0_ := Aside0.mk (below_step (by repeat (first | (with_reducible first | exact HB.out | apply below_alloc | apply pw_below_drewN | apply below_drew1) | exact HB.out)) hb); clear HB; have HB := n0_; clear n0_; (try clear hb); (try clear hb2); (try clear hk); (try clear hi)))
      go_ret2
      exact ⟨_, by first | rfl | (simp [errW_none, errW_some] <;> rfl) | (simp [*, errW_none, errW_some] <;> rfl), by first | exact Kd.R_nil _ _ _ _ _ | exact Kd.N_nil _ _ _ _ _ | exact Kd.V_nil _ _ _ _ _ | exact Kd.Q_nil _ _ _ _ _ | exact Kd.S_nil _ _ _ _ _, by repeat (first | (with_reducible first | exact HB.out | apply below_alloc | apply pw_below_drewN | apply below_drew1) | exact HB.out)⟩
    · rw [if_neg c4] at H
      have c4b0 : decide (256 < (l0.length : Int)) = false := decide_eq_false c4
      have c4b1 : decide (256 < l0.length) = false := decide_eq_false (by omega)
      clear c4
      replace H := Option.bind_eq_some_iff.mp H
      obtain ⟨t423, A60, H⟩ := H
      replace H : (span_Put.l0 k t423 0 l0 (l0.length : Int) 0) = some (r1, r2) := H
      have A6 := Aside0.mk A60
      clear A60
      have H' := Aside0.mk H
      clear H
      go_enter Try.func42, Try.ntmps42
      go_wp2_with (first | ((with_reducible refine gate_callee (f := 28) rfl ?_); refine goesL_ (some 9) rfl rfl Try.func28 (by kernel_rfl) rfl #[.slice A0 l0.length c0] rfl (by (try simp only [List.map_toArray, List.map_cons, List.map_nil]); first | done | rfl | (simp only [List.length_drop, List.length_take]; rfl)) ?_; (with_reducible refine (span_Right.calls k _ _ l0 true _ ?side1 ?side2 A2.out).mono ?_); (case side1 => repeat (first | exact HR0.out | (with_reducible refine Kd.C_alloc ?_ _) | (with_reducible refine Kd.C_drewN ?_ _) | (with_reducible refine Kd.C_drew ?_))); (case side2 => exact HC0.out); rintro e w7 ⟨rfl, hb⟩; refine ⟨_, rfl, ?_⟩; have n0_ := Aside0.mk (below_step (by repeat (first | (with_reducible first | exact HB.out | apply below_alloc | apply pw_below_drewN | apply below_drew1) | exact HB.out)) hb); clear HB; have HB := n0_; clear n0_; (try clear hb); (try clear hb2); (try clear hk); (try clear hi)) | ((with_reducible refine gate_callee (f := 65) rfl ?_); refine goesL_ (some 17) rfl rfl Try.func65 (by kernel_rfl) rfl #[.int .u64 (IntKind.u64.wrap ((l0.length : Int)))] rfl (by (try simp only [List.map_toArray, List.map_cons, List.map_nil]); first | done | rfl | (simp only [List.length_drop, List.length_take]; rfl)) ?_; (with_reducible refine (octet_Uint.calls k (IntKind.u64.wrap ((l0.length : Int))) t423 _ A6.out).mono ?_); rintro e w8 ⟨v424, rfl, ho0, hb⟩; refine ⟨_, rfl, ?_⟩; have n0_ := Aside0.mk (Kd.R_lower ho0 (below_size (by repeat (first | (with_reducible first | exact HB.out | apply below_alloc | apply pw_below_drewN | apply below_drew1) | exact HB.out)))); have n1_ := Aside0.mk (below_step (by repeat (first | (with_reducible first | exact HB.out | apply below_alloc | apply pw_below_drewN | apply below_drew1) | exact HB.out)) hb); clear HB; have HO425 := n0_; have HB := n1_; clear n0_ n1_; (try clear hb); (try clear hb2); (try clear hk); (try clear hi); (try clear ho0)))
      go_loopg [4, 5, 20] k (fun kq v4 v5 v20 w' => ∃ (x4_1 : List Int) (x5_1 : Int) (x20_1 : Int), v5 = .int .i64 x5_1 ∧ v20 = .int .i64 x20_1 ∧ Aside0 (span_Put.l0 kq x4_1 x5_1 l0 (l0.length : Int) x20_1 = some (r1, r2)) ∧ Aside0 (kq ≤ k) ∧ Aside0 (Kd.R (Kd.int .u8) 5 w' w.heap.size (fun _ => True) v4 x4_1) ∧ Aside0 (Below w.heap.size w w'))
      case atStart => exact ⟨(t423), (0), (0), (by first | rfl | (simp; done) | (simp [*]; done)), (by first | rfl | (simp; done) | (simp [*]; done)), H', ⟨Nat.le_refl _⟩, ⟨by (with_reducible repeat (first | apply Kd.R_alloc | apply Kd.R_drewN | apply Kd.R_drew)); exact HO425.out⟩, ⟨by repeat (first | (with_reducible first | exact HB.out | apply below_alloc | apply pw_below_drewN | apply below_drew1) | exact HB.out)⟩⟩
      case round =>
        clear H'
        try clear c2
        try clear p2
        try clear c3
        try clear c4
        try clear c4b0
        try clear c4b1
        try clear c6
        obtain ⟨x4_1, x5_1, x20_1, rfl, rfl, HA, HK1, HO_4, HB⟩ := hrel
        cases gk with
        | zero => exact absurd HA.out (by simp [span_Put.l0])
        | succ k1 =>
          have H := HA.out
          clear HA
          simp only [span_Put.l0] at H
          by_cases c9 : x20_1 < (l0.length : Int)
          · rw [if_pos c9] at H
            have c9b0 : decide (x20_1 < (l0.length : Int)) = true := decide_eq_true c9
            clear c9
            by_cases c10 : 0 ≤ x20_1
            · rw [if_pos c10] at H
              have c10b0 : decide (0 ≤ x20_1) = true := decide_eq_true c10
              clear c10
              by_cases c11 : x20_1 < (l0.length : Int)
              · rw [if_pos c11] at H
                have c11b0 : decide (x20_1 < (l0.length : Int)) = true := decide_eq_true c11
                clear c11
                replace H := Option.bind_eq_some_iff.mp H
                obtain ⟨t428, A120, H⟩ := H
                replace H : (if x4_1.length + t428.length < 140737488355328 then ((some (x4_1 ++ t428 : List Int)).bind fun y431 => ((octet_Uint.f k1 (IntKind.u64.wrap (wrap64 (((rd_T43 l0 x20_1).f1) - ((rd_T43 l0 x20_1).f0))))).bind fun t434 => (if y431.length + t434.length < 140737488355328 then ((some (y431 ++ t434 : List Int)).bind fun y437 => (if y437.length < 140737488355328 then (span_Put.l0 k1 (y437 ++ [((rd_T43 l0 x20_1).f2) % 256]) ((rd_T43 l0 x20_1).f1) l0 (l0.length : Int) (wrap64 (x20_1 + 1))) else (none))) else (none)))) else (none)) = some (r1, r2) := H
                have A12 := Aside0.mk A120
                clear A120
                by_cases c13 : x4_1.length + t428.length < 140737488355328
                · rw [if_pos c13] at H
                  have LMc13 := Aside0.mk c13
                  clear c13
                  obtain ⟨y431, hy431⟩ : ∃ y_ : List Int, y_ = (x4_1 ++ t428) := ⟨_, rfl⟩
                  replace H : ((octet_Uint.f k1 (IntKind.u64.wrap (wrap64 (((rd_T43 l0 x20_1).f1) - ((rd_T43 l0 x20_1).f0))))).bind fun t434 => (if y431.length + t434.length < 140737488355328 then ((some (y431 ++ t434 : List Int)).bind fun y437 => (if y437.length < 140737488355328 then (span_Put.l0 k1 (y437 ++ [((rd_T43 l0 x20_1).f2) % 256]) ((rd_T43 l0 x20_1).f1) l0 (l0.length : Int) (wrap64 (x20_1 + 1))) else (none))) else (none))) = some (r1, r2) := by first | (rw [hy431]; with_reducible exact H) | (have H2_ := (Option.bind_some _ _).symm.trans H; rw [hy431]; with_reducible exact H2_) | (have H2_ := (Option.bind_some _ _).symm.trans H; with_reducible exact H2_) | with_reducible exact H | (rw [hy431]; exact H) | exact H
                  have Ny431 := Aside0.mk hy431
                  clear hy431
                  replace H := Option.bind_eq_some_iff.mp H
                  obtain ⟨t434, A140, H⟩ := H
                  replace H : (if y431.length + t434.length < 140737488355328 then ((some (y431 ++ t434 : List Int)).bind fun y437 => (if y437.length < 140737488355328 then (span_Put.l0 k1 (y437 ++ [((rd_T43 l0 x20_1).f2) % 256]) ((rd_T43 l0 x20_1).f1) l0 (l0.length : Int) (wrap64 (x20_1 + 1))) else (none))) else (none)) = some (r1, r2) := H
                  have A14 := Aside0.mk A140
                  clear A140
                  by_cases c15 : y431.length + t434.length < 140737488355328
                  · rw [if_pos c15] at H
                    have LMc15 := Aside0.mk c15
                    clear c15
                    obtain ⟨y437, hy437⟩ : ∃ y_ : List Int, y_ = (y431 ++ t434) := ⟨_, rfl⟩
                    replace H : (if y437.length < 140737488355328 then (span_Put.l0 k1 (y437 ++ [((rd_T43 l0 x20_1).f2) % 256]) ((rd_T43 l0 x20_1).f1) l0 (l0.length : Int) (wrap64 (x20_1 + 1))) else (none)) = some (r1, r2) := by first | (rw [hy437]; with_reducible exact H) | (have H2_ := (Option.bind_some _ _).symm.trans H; rw [hy437]; with_reducible exact H2_) | (have H2_ := (Option.bind_some _ _).symm.trans H; with_reducible exact H2_) | with_reducible exact H | (rw [hy437]; exact H) | exact H
                    have Ny437 := Aside0.mk hy437
                    clear hy437
                    by_cases c16 : y437.length < 140737488355328
                    · rw [if_pos c16] at H
                      have LMc16 := Aside0.mk c16
                      clear c16
                      obtain ⟨y440, hy440⟩ : ∃ y_ : List Int, y_ = (y437 ++ [((rd_T43 l0 x20_1).f2) % 256]) := ⟨_, rfl⟩
                      replace H : (span_Put.l0 k1 y440 ((rd_T43 l0 x20_1).f1) l0 (l0.length : Int) (wrap64 (x20_1 + 1))) = some (r1, r2) := by first | (rw [hy440]; with_reducible exact H) | (have H2_ := (Option.bind_some _ _).symm.trans H; rw [hy440]; with_reducible exact H2_) | (have H2_ := (Option.bind_some _ _).symm.trans H; with_reducible exact H2_) | with_reducible exact H | (rw [hy440]; exact H) | exact H
                      have Ny440 := Aside0.mk hy440
                      clear hy440
                      have H' := Aside0.mk H
                      clear H
                      have p426 : 0 ≤ (x20_1 : Int) := of_decide_eq_true (by first | (with_reducible assumption) | assumption)
                      have q426 : x20_1 < (l0.length : Int) := of_decide_eq_true (by first | (with_reducible assumption) | assumption)
                      obtain ⟨ad426, e426, hx426_0, hx426_1, hx426_2⟩ := at_T43 HR0.out x20_1 p426 q426
                      cases e426
                      replace hx426_0 := (HB.out.cell (World.block_lt_of_cell? w _ hx426_0)).trans hx426_0
                      replace hx426_1 := (HB.out.cell (World.block_lt_of_cell? w _ hx426_1)).trans hx426_1
                      replace hx426_2 := (HB.out.cell (World.block_lt_of_cell? w _ hx426_2)).trans hx426_2
                      replace p426 := eq_true p426
                      replace q426 := eq_true q426
                      go_wp2_with (first | ((with_reducible refine gate_dst (N := 7) rfl ?_); refine box_event ?hg (N := 7) ?hd (cs := #[.int .i64 0, .int .i64 0, .int .i64 0]) (t := 43) ?hr ?_; (case hd => rfl); (case hg => rfl); (case hr => first | (go_simp; done) | (go_simp; rfl)); intro gb427 hg w17 hbox hb; have n0_ := Aside0.mk (Kd.R_below (by (with_reducible repeat (first | apply Kd.R_alloc | apply Kd.R_drewN | apply Kd.R_drew)); exact HO_4.out) hb); have n1_ := Aside0.mk (below_step (by repeat (first | (with_reducible first | exact HB.out | apply below_alloc | apply pw_below_drewN | apply below_drew1) | exact HB.out)) hb); have n2_ := Aside0.mk (hbox); have n3_ := Aside0.mk ((by rw [hg]; exact (below_size (by repeat (first | (with_reducible first | exact HB.out | apply below_alloc | apply pw_below_drewN | apply below_drew1) | exact HB.out))) : w.heap.size ≤ gb427)); have n4_ := Aside0.mk ((by rw [hg]; exact (below_size (by repeat (first | (with_reducible first | exact HB.out | apply below_alloc | apply pw_below_drewN | apply below_drew1) | exact HB.out))) : w.heap.size ≤ gb427)); clear HO_4; clear HB; have HO_4 := n0_; have HB := n1_; have BK427 := n2_; have GW427 := n3_; have GE427 := n4_; clear n0_ n1_ n2_ n3_ n4_; clear hb hbox hg; have hcz18_0 : w17.cell? ⟨gb427, 0, none⟩ = some (.int .i64 0) := (blk_cell BK427.out 0).trans rfl; have hcz18_1 : w17.cell? ⟨gb427, 1, none⟩ = some (.int .i64 0) := (blk_cell BK427.out 1).trans rfl; have hcz18_2 : w17.cell? ⟨gb427, 2, none⟩ = some (.int .i64 0) := (blk_cell BK427.out 2).trans rfl; have hfz18_0 := blk_frozen BK427.out 0; have hfz18_1 := blk_frozen BK427.out 1; have hfz18_2 := blk_frozen BK427.out 2) | ((with_reducible refine gate_callee (f := 65) rfl ?_); refine goesL_ (some 31) rfl rfl Try.func65 (by kernel_rfl) rfl #[.int .u64 (IntKind.u64.wrap (wrap64 ((wrap64 (((rd_T43 l0 x20_1).f0) - x5_1)) - 1)))] rfl (by (try simp only [List.map_toArray, List.map_cons, List.map_nil]); first | done | rfl | (simp only [List.length_drop, List.length_take]; rfl)) ?_; (with_reducible refine (octet_Uint.calls k1 (IntKind.u64.wrap (wrap64 ((wrap64 (((rd_T43 l0 x20_1).f0) - x5_1)) - 1))) t428 _ A12.out).mono ?_); rintro e w19 ⟨v429, rfl, ho0, hb⟩; refine ⟨_, rfl, ?_⟩; have n0_ := Aside0.mk (Kd.R_elder' (by (with_reducible repeat (first | apply Kd.R_alloc | apply Kd.R_drewN | apply Kd.R_drew)); exact (Kd.R_mono (Kd.R_far (p := ⟨gb427, 2, none⟩) (Kd.R_far (p := ⟨gb427, 1, none⟩) (Kd.R_far (p := ⟨gb427, 0, none⟩) (Kd.R_types HO_4.out BK427.out (by decide)) (fun _ hk => hk.2) (.int .i64 ((rd_T43 l0 x20_1).f0))) (fun _ hk => hk.2) (.int .i64 ((rd_T43 l0 x20_1).f1))) (fun _ hk => hk.2) (.int .i64 ((rd_T43 l0 x20_1).f2))) (fun _ h_ => h_.1))) (Kd.R_base ho0) hb); have n1_ := Aside0.mk (Kd.R_lower (Kd.R_new' ho0 (Kd.R_lt (by (with_reducible repeat (first | apply Kd.R_alloc | apply Kd.R_drewN | apply Kd.R_drew)); exact (Kd.R_mono (Kd.R_far (p := ⟨gb427, 2, none⟩) (Kd.R_far (p := ⟨gb427, 1, none⟩) (Kd.R_far (p := ⟨gb427, 0, none⟩) (Kd.R_types HO_4.out BK427.out (by decide)) (fun _ hk => hk.2) (.int .i64 ((rd_T43 l0 x20_1).f0))) (fun _ hk => hk.2) (.int .i64 ((rd_T43 l0 x20_1).f1))) (fun _ hk => hk.2) (.int .i64 ((rd_T43 l0 x20_1).f2))) (fun _ h_ => h_.1))))) (below_size (by repeat (first | (with_reducible first | exact HB.out | apply below_alloc | apply pw_below_drewN | apply below_drew1 | refine below_set ?_ GE427.out) | exact HB.out)))); have n2_ := Aside0.mk (blk_below (g := gb427) (o := .cells #[.int .i64 ((rd_T43 l0 x20_1).f0), .int .i64 ((rd_T43 l0 x20_1).f1), .int .i64 ((rd_T43 l0 x20_1).f2)] 43 (0, 0)) (by (with_reducible repeat (first | refine blk_drewN ?_ _ | refine blk_drew ?_ | refine blk_alloc ?_ _)); refine blk_put (cs := #[.int .i64 ((rd_T43 l0 x20_1).f0), .int .i64 ((rd_T43 l0 x20_1).f1), .int .i64 0]) ?_ 2 _ rfl; (with_reducible repeat (first | refine blk_drewN ?_ _ | refine blk_drew ?_ | refine blk_alloc ?_ _)); refine blk_put (cs := #[.int .i64 ((rd_T43 l0 x20_1).f0), .int .i64 0, .int .i64 0]) ?_ 1 _ rfl; (with_reducible repeat (first | refine blk_drewN ?_ _ | refine blk_drew ?_ | refine blk_alloc ?_ _)); refine blk_put (cs := #[.int .i64 0, .int .i64 0, .int .i64 0]) ?_ 0 _ rfl; (with_reducible repeat (first | refine blk_drewN ?_ _ | refine blk_drew ?_ | refine blk_alloc ?_ _)); exact BK427.out) hb); have n3_ := Aside0.mk (below_step (by repeat (first | (with_reducible first | exact HB.out | apply below_alloc | apply pw_below_drewN | apply below_drew1 | refine below_set ?_ GE427.out) | exact HB.out)) hb); clear HO_4; clear BK427; clear HB; have HO_4 := n0_; have HO430 := n1_; have BK427 := n2_; have HB := n3_; clear n0_ n1_ n2_ n3_; (try clear hb); (try clear hb2); (try clear hk); (try clear hi); (try clear ho0); obtain ⟨Ao21, co21, eo21⟩ := Kd.R_slice HO430.out; subst eo21) | ((with_reducible refine gate_builtin (b := .append) (xs := #[.tmp 24, .tmp 31]) rfl ?_); at_builtin; refine Kd.R_append_rows (Kd.int .u8) (w0 := w) w.heap.size rfl (.tmp 24) (.tmp 31) 44 5 (.int .u8 0) 1 rfl Try.underlying44 info5 rfl (by decide) (by omega) u4 x4_1 t428 _ _ _ (fun k_ => some k_ ≠ (.slice Ao21 t428.length co21 : Value).ownBlock) (fun _ => False) rfl rfl ?aO ?aR (fun _ _ h => h) (fun _ h => h.elim) ?aF ?aB ?aS ?aL ?_; (case aR => repeat (first | exact (Kd.R_reads' HO430.out).2.2 | (with_reducible refine Kd.C_alloc ?_ _) | (with_reducible refine Kd.C_drewN ?_ _) | (with_reducible refine Kd.C_drew ?_))); (case aB => exact (by repeat (first | (with_reducible first | exact HB.out | apply below_alloc | apply pw_below_drewN | apply below_drew1 | refine below_set ?_ GE427.out) | exact HB.out))); (case aF => exact (fun k_ hk => Kd.fresh' (Kd.R_lt (by (with_reducible repeat (first | apply Kd.R_alloc | apply Kd.R_drewN | apply Kd.R_drew)); exact HO430.out)) k_ hk)); (case aO => exact (by (with_reducible repeat (first | apply Kd.R_alloc | apply Kd.R_drewN | apply Kd.R_drew)); exact Kd.R_mono HO_4.out (fun _ hk => hk.2))); (case aS => exact (below_size (by repeat (first | (with_reducible first | exact HB.out | apply below_alloc | apply pw_below_drewN | apply below_drew1 | refine below_set ?_ GE427.out) | exact HB.out)))); (case aL => have := LMc13.out; omega); intro v432 w20 ho hb hg hat; rw [← Ny431.out] at ho; have n0_ := Aside0.mk (blk_grown (g := gb427) (o := .cells #[.int .i64 ((rd_T43 l0 x20_1).f0), .int .i64 ((rd_T43 l0 x20_1).f1), .int .i64 ((rd_T43 l0 x20_1).f2)] 43 (0, 0)) (by (with_reducible repeat (first | refine blk_drewN ?_ _ | refine blk_drew ?_ | refine blk_alloc ?_ _)); exact BK427.out) hg (Kd.R_ne HO_4.out BK427.out (by decide))); have n1_ := Aside0.mk (Kd.R_after (ok := (fun _ => True)) (by (with_reducible repeat (first | apply Kd.R_alloc | apply Kd.R_drewN | apply Kd.R_drew)); exact HO430.out) hg hat); have n2_ := Aside0.mk (hb); have n3_ := Aside0.mk (ho); clear BK427; clear HO430; clear HB; clear HO_4; have BK427 := n0_; have HO430 := n1_; have HB := n2_; have HO433 := n3_; clear n0_ n1_ n2_ n3_; clear ho hb hg hat; have hcz22_0 : w20.cell? ⟨gb427, 0, none⟩ = some (.int .i64 ((rd_T43 l0 x20_1).f0)) := (blk_cell BK427.out 0).trans rfl; have hcz22_1 : w20.cell? ⟨gb427, 1, none⟩ = some (.int .i64 ((rd_T43 l0 x20_1).f1)) := (blk_cell BK427.out 1).trans rfl; have hcz22_2 : w20.cell? ⟨gb427, 2, none⟩ = some (.int .i64 ((rd_T43 l0 x20_1).f2)) := (blk_cell BK427.out 2).trans rfl; have hfz22_0 := blk_frozen BK427.out 0; have hfz22_1 := blk_frozen BK427.out 1; have hfz22_2 := blk_frozen BK427.out 2) | ((with_reducible refine gate_callee (f := 65) rfl ?_); refine goesL_ (some 40) rfl rfl Try.func65 (by kernel_rfl) rfl #[.int .u64 (IntKind.u64.wrap (wrap64 (((rd_T43 l0 x20_1).f1) - ((rd_T43 l0 x20_1).f0))))] rfl (by (try simp only [List.map_toArray, List.map_cons, List.map_nil]); first | done | rfl | (simp only [List.length_drop, List.length_take]; rfl)) ?_; (with_reducible refine (octet_Uint.calls k1 (IntKind.u64.wrap (wrap64 (((rd_T43 l0 x20_1).f1) - ((rd_T43 l0 x20_1).f0)))) t434 _ A14.out).mono ?_); rintro e w23 ⟨v435, rfl, ho0, hb⟩; refine ⟨_, rfl, ?_⟩; have n0_ := Aside0.mk (Kd.R_elder' (by (with_reducible repeat (first | apply Kd.R_alloc | apply Kd.R_drewN | apply Kd.R_drew)); exact HO430.out) (Kd.R_base ho0) hb); have n1_ := Aside0.mk (Kd.R_elder' (by (with_reducible repeat (first | apply Kd.R_alloc | apply Kd.R_drewN | apply Kd.R_drew)); exact HO433.out) (Kd.R_base ho0) hb); have n2_ := Aside0.mk (Kd.R_lower (Kd.R_new' (Kd.R_new' ho0 (Kd.R_lt (by (with_reducible repeat (first | apply Kd.R_alloc | apply Kd.R_drewN | apply Kd.R_drew)); exact HO430.out))) (Kd.R_lt (by (with_reducible repeat (first | apply Kd.R_alloc | apply Kd.R_drewN | apply Kd.R_drew)); exact HO433.out))) (below_size (by repeat (first | (with_reducible first | exact HB.out | apply below_alloc | apply pw_below_drewN | apply below_drew1 | refine below_set ?_ GE427.out) | exact HB.out)))); have n3_ := Aside0.mk (blk_below (g := gb427) (o := .cells #[.int .i64 ((rd_T43 l0 x20_1).f0), .int .i64 ((rd_T43 l0 x20_1).f1), .int .i64 ((rd_T43 l0 x20_1).f2)] 43 (0, 0)) (by (with_reducible repeat (first | refine blk_drewN ?_ _ | refine blk_drew ?_ | refine blk_alloc ?_ _)); exact BK427.out) hb); have n4_ := Aside0.mk (below_step (by repeat (first | (with_reducible first | exact HB.out | apply below_alloc | apply pw_below_drewN | apply below_drew1 | refine below_set ?_ GE427.out) | exact HB.out)) hb); clear HO430; clear HO433; clear BK427; clear HB; have HO430 := n0_; have HO433 := n1_; have HO436 := n2_; have BK427 := n3_; have HB := n4_; clear n0_ n1_ n2_ n3_ n4_; (try clear hb); (try clear hb2); (try clear hk); (try clear hi); (try clear ho0); obtain ⟨Ao25, co25, eo25⟩ := Kd.R_slice HO436.out; subst eo25) | ((with_reducible refine gate_builtin (b := .append) (xs := #[.tmp 33, .tmp 40]) rfl ?_); at_builtin; refine Kd.R_append_rows (Kd.int .u8) (w0 := w) w.heap.size rfl (.tmp 33) (.tmp 40) 44 5 (.int .u8 0) 1 rfl Try.underlying44 info5 rfl (by decide) (by omega) v432 y431 t434 _ _ _ (fun k_ => some k_ ≠ (.slice Ao21 t428.length co21 : Value).ownBlock ∧ some k_ ≠ (.slice Ao25 t434.length co25 : Value).ownBlock) (fun _ => False) rfl rfl ?aO ?aR (fun _ _ h => h) (fun _ h => h.elim) ?aF ?aB ?aS ?aL ?_; (case aR => repeat (first | exact (Kd.R_reads' HO436.out).2.2 | (with_reducible refine Kd.C_alloc ?_ _) | (with_reducible refine Kd.C_drewN ?_ _) | (with_reducible refine Kd.C_drew ?_))); (case aB => exact (by repeat (first | (with_reducible first | exact HB.out | apply below_alloc | apply pw_below_drewN | apply below_drew1 | refine below_set ?_ GE427.out) | exact HB.out))); (case aF => exact (fun k_ hk => ⟨Kd.fresh' (Kd.R_lt (by (with_reducible repeat (first | apply Kd.R_alloc | apply Kd.R_drewN | apply Kd.R_drew)); exact HO430.out)) k_ hk, Kd.fresh' (Kd.R_lt (by (with_reducible repeat (first | apply Kd.R_alloc | apply Kd.R_drewN | apply Kd.R_drew)); exact HO436.out)) k_ hk⟩)); (case aO => exact (by (with_reducible repeat (first | apply Kd.R_alloc | apply Kd.R_drewN | apply Kd.R_drew)); exact HO433.out)); (case aS => exact (below_size (by repeat (first | (with_reducible first | exact HB.out | apply below_alloc | apply pw_below_drewN | apply below_drew1 | refine below_set ?_ GE427.out) | exact HB.out)))); (case aL => have := LMc15.out; omega); intro v438 w24 ho hb hg hat; rw [← Ny437.out] at ho; have n0_ := Aside0.mk (blk_grown (g := gb427) (o := .cells #[.int .i64 ((rd_T43 l0 x20_1).f0), .int .i64 ((rd_T43 l0 x20_1).f1), .int .i64 ((rd_T43 l0 x20_1).f2)] 43 (0, 0)) (by (with_reducible repeat (first | refine blk_drewN ?_ _ | refine blk_drew ?_ | refine blk_alloc ?_ _)); exact BK427.out) hg (Kd.R_ne HO433.out BK427.out (by decide))); have n1_ := Aside0.mk (Kd.R_after (ok := (fun k_ => some k_ ≠ (.slice Ao25 t434.length co25 : Value).ownBlock)) (by (with_reducible repeat (first | apply Kd.R_alloc | apply Kd.R_drewN | apply Kd.R_drew)); exact Kd.R_mono HO430.out (fun _ hk => ⟨hk.2, hk.1.2⟩)) hg hat); have n2_ := Aside0.mk (Kd.R_after (ok := (fun k_ => some k_ ≠ (.slice Ao21 t428.length co21 : Value).ownBlock)) (by (with_reducible repeat (first | apply Kd.R_alloc | apply Kd.R_drewN | apply Kd.R_drew)); exact Kd.R_mono HO436.out (fun _ hk => ⟨hk.1.2, hk.2⟩)) hg hat); have n3_ := Aside0.mk (hb); have n4_ := Aside0.mk (ho); clear BK427; clear HO430; clear HO436; clear HB; clear HO433; have BK427 := n0_; have HO430 := n1_; have HO436 := n2_; have HB := n3_; have HO439 := n4_; clear n0_ n1_ n2_ n3_ n4_; clear ho hb hg hat; have hcz26_0 : w24.cell? ⟨gb427, 0, none⟩ = some (.int .i64 ((rd_T43 l0 x20_1).f0)) := (blk_cell BK427.out 0).trans rfl; have hcz26_1 : w24.cell? ⟨gb427, 1, none⟩ = some (.int .i64 ((rd_T43 l0 x20_1).f1)) := (blk_cell BK427.out 1).trans rfl; have hcz26_2 : w24.cell? ⟨gb427, 2, none⟩ = some (.int .i64 ((rd_T43 l0 x20_1).f2)) := (blk_cell BK427.out 2).trans rfl; have hfz26_0 := blk_frozen BK427.out 0; have hfz26_1 := blk_frozen BK427.out 1; have hfz26_2 := blk_frozen BK427.out 2) | ((with_reducible refine gate_builtin (b := .append) (xs := #[.tmp 42, .tmp 46]) rfl ?_); at_builtin; refine Kd.R_append (Kd.int .u8) (w0 := w) w.heap.size rfl (.tmp 42) (.tmp 46) 44 5 (.int .u8 0) 1 rfl Try.underlying44 info5 rfl (by decide) (by omega) v438 y437 (((rd_T43 l0 x20_1).f2) % 256) [.int .u8 (((rd_T43 l0 x20_1).f2) % 256)] (fun k_ => some k_ ≠ (.slice Ao21 t428.length co21 : Value).ownBlock ∧ some k_ ≠ (.slice Ao25 t434.length co25 : Value).ownBlock) (fun _ => False) rfl rfl ?aP (fun _ hk => hk.elim) ?aF ?aO ?aB ?aS ?aL ?_; (case aP => exact rfl); (case aB => exact (by repeat (first | (with_reducible first | exact HB.out | apply below_alloc | apply pw_below_drewN | apply below_drew1 | refine below_set ?_ GE427.out) | exact HB.out))); (case aF => exact (fun k_ hk => ⟨Kd.fresh' (Kd.R_lt (by (with_reducible repeat (first | apply Kd.R_alloc | apply Kd.R_drewN | apply Kd.R_drew)); exact HO430.out)) k_ hk, Kd.fresh' (Kd.R_lt (by (with_reducible repeat (first | apply Kd.R_alloc | apply Kd.R_drewN | apply Kd.R_drew)); exact HO436.out)) k_ hk⟩)); (case aO => exact (by (with_reducible repeat (first | apply Kd.R_alloc | apply Kd.R_drewN | apply Kd.R_drew)); exact HO439.out)); (case aS => exact (below_size (by repeat (first | (with_reducible first | exact HB.out | apply below_alloc | apply pw_below_drewN | apply below_drew1 | refine below_set ?_ GE427.out) | exact HB.out)))); (case aL => have := LMc16.out; omega); intro v441 w27 ho hb hg hat; rw [← Ny440.out] at ho; have n0_ := Aside0.mk (blk_grown (g := gb427) (o := .cells #[.int .i64 ((rd_T43 l0 x20_1).f0), .int .i64 ((rd_T43 l0 x20_1).f1), .int .i64 ((rd_T43 l0 x20_1).f2)] 43 (0, 0)) (by (with_reducible repeat (first | refine blk_drewN ?_ _ | refine blk_drew ?_ | refine blk_alloc ?_ _)); exact BK427.out) hg (Kd.R_ne HO439.out BK427.out (by decide))); have n1_ := Aside0.mk (Kd.R_after (ok := (fun k_ => some k_ ≠ (.slice Ao25 t434.length co25 : Value).ownBlock)) (by (with_reducible repeat (first | apply Kd.R_alloc | apply Kd.R_drewN | apply Kd.R_drew)); exact HO430.out) hg hat); have n2_ := Aside0.mk (Kd.R_after (ok := (fun k_ => some k_ ≠ (.slice Ao21 t428.length co21 : Value).ownBlock)) (by (with_reducible repeat (first | apply Kd.R_alloc | apply Kd.R_drewN | apply Kd.R_drew)); exact HO436.out) hg hat); have n3_ := Aside0.mk (hb); have n4_ := Aside0.mk (ho); clear BK427; clear HO430; clear HO436; clear HB; clear HO439; have BK427 := n0_; have HO430 := n1_; have HO436 := n2_; have HB := n3_; have HO442 := n4_; clear n0_ n1_ n2_ n3_ n4_; clear ho hb hg hat; have hcz28_0 : w27.cell? ⟨gb427, 0, none⟩ = some (.int .i64 ((rd_T43 l0 x20_1).f0)) := (blk_cell BK427.out 0).trans rfl; have hcz28_1 : w27.cell? ⟨gb427, 1, none⟩ = some (.int .i64 ((rd_T43 l0 x20_1).f1)) := (blk_cell BK427.out 1).trans rfl; have hcz28_2 : w27.cell? ⟨gb427, 2, none⟩ = some (.int .i64 ((rd_T43 l0 x20_1).f2)) := (blk_cell BK427.out 2).trans rfl; have hfz28_0 := blk_frozen BK427.out 0; have hfz28_1 := blk_frozen BK427.out 1; have hfz28_2 := blk_frozen BK427.out 2))
                      go_roundg k1
                      case measure => have := HK1.out; omega
                      case rel => exact ⟨(y440), ((rd_T43 l0 x20_1).f1), (wrap64 (x20_1 + 1)), (by first | rfl | (simp; done) | (simp [*]; done)), (by first | rfl | (simp; done) | (simp [*]; done)), H', ⟨by have := HK1.out; omega⟩, ⟨by (with_reducible repeat (first | apply Kd.R_alloc | apply Kd.R_drewN | apply Kd.R_drew)); exact Kd.R_mono HO442.out (fun _ hk => trivial)⟩, ⟨by repeat (first | (with_reducible first | exact HB.out | apply below_alloc | apply pw_below_drewN | apply below_drew1 | refine below_set ?_ GE427.out) | exact HB.out)⟩⟩
                    · rw [if_neg c16] at H
                      exact absurd H (by simp)
                  · rw [if_neg c15] at H
                    exact absurd H (by simp)
                · rw [if_neg c13] at H
                  exact absurd H (by simp)
              · rw [if_neg c11] at H
                exact absurd H (by simp)
            · rw [if_neg c10] at H
              exact absurd H (by simp)
          · rw [if_neg c9] at H
            have c9b0 : decide (x20_1 < (l0.length : Int)) = false := decide_eq_false c9
            clear c9
            simp only [Option.some.injEq, Prod.mk.injEq] at H
            obtain ⟨rfl, rfl⟩ := H
            go_wp2
            go_ret2
            exact ⟨_, by first | rfl | (simp [errW_none, errW_some] <;> rfl) | (simp [*, errW_none, errW_some] <;> rfl), by (with_reducible repeat (first | apply Kd.R_alloc | apply Kd.R_drewN | apply Kd.R_drew)); exact HO_4.out, by repeat (first | (with_reducible first | exact HB.out | apply below_alloc | apply pw_below_drewN | apply below_drew1) | exact HB.out)⟩
  · replace c3 := Bool.eq_false_iff.mpr c3
    subst c3
    have H1 : (some (([] : List Int), 2)) = some (r1, r2) := by rw [if_neg (show ¬ (false = true) by decide)] at H; exact H
    clear H
    have H := H1
    clear H1
    simp only [Option.some.injEq, Prod.mk.injEq] at H
    obtain ⟨rfl, rfl⟩ := H
    go_enter Try.func42, Try.ntmps42
    go_wp2_with (first | ((with_reducible refine gate_callee (f := 28) rfl ?_); refine goesL_ (some 9) rfl rfl Try.func28 (by kernel_rfl) rfl #[.slice A0 l0.length c0] rfl (by (try simp only [List.map_toArray, List.map_cons, List.map_nil]); first | done | rfl | (simp only [List.length_drop, List.length_take]; rfl)) ?_; (with_reducible refine (span_Right.calls k _ _ l0 false _ ?side1 ?side2 A2.out).mono ?_); (case side1 => repeat (first | exact HR0.out | (with_reducible refine Kd.C_alloc ?_ _) | (with_reducible refine Kd.C_drewN ?_ _) | (with_reducible refine Kd.C_drew ?_))); (case side2 => exact HC0.out); rintro e w29 ⟨rfl, hb⟩; refine ⟨_, rfl, ?_⟩; have n0_ := Aside0.mk (below_step (by repeat (first | (with_reducible first | exact HB.out | apply below_alloc | apply pw_below_drewN | apply below_drew1) | exact HB.out)) hb); clear HB; have HB := n0_; clear n0_; (try clear hb); (try clear hb2); (try clear hk); (try clear hi)))
    go_ret2
    exact ⟨_, by first | rfl | (simp [errW_none, errW_some] <;> rfl) | (simp [*, errW_none, errW_some] <;> rfl), by first | exact Kd.R_nil _ _ _ _ _ | exact Kd.N_nil _ _ _ _ _ | exact Kd.V_nil _ _ _ _ _ | exact Kd.Q_nil _ _ _ _ _ | exact Kd.S_nil _ _ _ _ _, by repeat (first | (with_reducible first | exact HB.out | apply below_alloc | apply pw_below_drewN | apply below_drew1) | exact HB.out)⟩

/-! ### grapevineref02_Uint: function 66 -/
def grapevineref02_Uint.l0 : Nat → Int → List Int → Option (List Int)
  | 0, _, _ => none
  | k + 1, x0, x3 => if x0 > 127 then (if x3.length < 140737488355328 then (grapevineref02_Uint.l0 k (IntKind.u64.wrap (Int.tdiv x0 128)) (x3 ++ [(IntKind.u64.wrap (128 + (Int.tmod x0 128))) % 256])) else (none)) else (if x3.length < 140737488355328 then (some (x3 ++ [(x0) % 256])) else (none))
def grapevineref02_Uint.f (k : Nat) (a0 : Int) : Option (List Int) := grapevineref02_Uint.l0 k a0 (([] : List Int))
end Go.Proofs.Ytpeacoppclmmlaa.PS
