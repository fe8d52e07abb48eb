-- PRINTED by gprint.py (a session's own driver over the kit's print): not trusted; Lean checks it.
import Derived.Test.YtpeacoppclmmlaaDPSx0
import Derived.Test.YtpeacoppclmmlaaDPSx4
import Derived.Test.YtpeacoppclmmlaaDPSx7
import Derived.Test.YtpeacoppclmmlaaDPSx8
import Derived.Test.YtpeacoppclmmlaaDPSx9
import Derived.Test.YtpeacoppclmmlaaDPSx10
namespace Go.Proofs.Ytpeacoppclmmlaa.PS
open Go.RowKit Go.Proofs.YtpeacoppclmmlaaW.PrintWords Go.Proofs.YtpeacoppclmmlaaW.PrintLast Go.Proofs.YtpeacoppclmmlaaW.PrintMore
attribute [local go_sem] max2_int min2_int max_two min_two max_three min_three max_four min_four   -- for this text's walks alone
set_option linter.unusedVariables false
set_option linter.unusedSimpArgs false

/-! ### grapevinelaw08_SpanParts: function 12 -/
/-! ### octet_TakeUint: function 74 -/
-- typed by hand (mk_takeuint.py): a label and a goto
def octet_TakeUint.acc (n x : Int) (i : Nat) : Int := Go.bits .or .u64 n (IntKind.u64.wrap (IntKind.u64.wrap (Go.bits .and .u8 x 127) * 2 ^ (7 * i)))
def octet_TakeUint.l0 : Nat → List Int → Int → Int → Nat → Option (Int × Int × Int)
  | 0, _, _, _, _ => none
  | k + 1, b, t, n, i => if t + (i : Int) ≥ (b.length : Int) then some (0, 0, 3) else if i = 9 ∧ rd b (t + (i : Int)) > 1 then some (0, 0, 6) else
      if rd b (t + (i : Int)) ≥ 128 then octet_TakeUint.l0 k b t (octet_TakeUint.acc n (rd b (t + (i : Int))) i) (i + 1) else if rd b (t + (i : Int)) = 0 ∧ i > 0 then some (0, 0, 4) else some (octet_TakeUint.acc n (rd b (t + (i : Int))) i, t + (i : Int) + 1, 0)
def octet_TakeUint.f (k : Nat) (l0 : List Int) (a1 : Int) : Option (Int × Int × Int) := if a1 < 0 then some (0, 0, 2) else if a1 > (l0.length : Int) then some (0, 0, 2) else octet_TakeUint.l0 k l0 a1 0 0
def octet_TakeUint.J (w : World) (A : Option Addr) (l : List Int) (c : Nat) (t : Int) (r : Int × Int × Int) (k : Nat) (a' : Act) (w' : World) : Prop :=
  ∃ (k1 : Nat) (n : Int) (i : Nat) (u9 u10 u11 u12 u13 u14 u15 u16 u17 u18 u19 u20 u21 u22 u23 u24 u25 u26 u27 u28 u29 u30 u31 u32 u33 u34 u35 u36 u37 u38 u39 u40 u41 u42 u43 u44 u45 u46 u47 : Value), a' = { tmps := #[.slice A l.length c, .int .i64 t, undef, undef, .int .u64 0, .int .i64 0, .int .i64 0, .int .u64 n, .int .i64 (i : Int), u9, u10, u11, u12, u13, u14, u15, u16, u17, u18, u19, u20, u21, u22, u23, u24, u25, u26, u27, u28, u29, u30, u31, u32, u33, u34, u35, u36, u37, u38, u39, u40, u41, u42, u43, u44, u45, u46, u47, undef, undef, undef, undef, undef, undef, undef, undef, undef, undef, undef], defers := [] } ∧ octet_TakeUint.l0 k1 l t n i = some r ∧ k1 ≤ k ∧ i ≤ 9 ∧ t + (i : Int) ≤ (l.length : Int) ∧ Drawn0 w w'
set_option maxHeartbeats 8000000 in
set_option maxRecDepth 100000 in
theorem octet_TakeUint.calls (k : Nat) (A0 : Option Addr) (c0 : Nat) (l0 : List Int) (a1 : Int) (r1 r2 r3 : Int) (w : World) (hr0 : Kd.C (Kd.int .u8) w A0 l0.length l0) (hc0 : l0.length ≤ c0) (h : octet_TakeUint.f k l0 a1 = some (r1, r2, r3)) :
    Calls Try.prog 74 #[.slice A0 l0.length c0, .int .i64 a1] w fun e w' => e = .returned (.tuple #[.int .u64 r1, .int .i64 r2, .int .i64 r3]) ∧ Drawn0 w w' := by
  have HR := Aside0.mk hr0
  have HC := Aside0.mk hc0
  clear hr0 hc0
  have hlen : l0.length ≤ 9223372036854775807 := HR.out.2.1
  unfold octet_TakeUint.f at h
  by_cases c1 : a1 < 0
  · rw [if_pos c1] at h
    obtain ⟨rfl, rfl, rfl⟩ : r1 = 0 ∧ r2 = 0 ∧ r3 = 2 := by simpa [eq_comm] using h
    clear h
    go_enter Try.func74, Try.ntmps74
    go_wp2
    refine wp_scope_jumps 0 (fun _ _ => False) (fun _ _ => 0) rfl ?_ (fun _ _ h_ => h_.elim)
    go_wp2
    simp only [Exit.jump]
    go_ret3
    exact ⟨rfl, by repeat (first | exact Drawn0.refl _ | apply Drawn0.step)⟩
  rw [if_neg c1] at h
  by_cases c2 : a1 > (l0.length : Int)
  · rw [if_pos c2] at h
    obtain ⟨rfl, rfl, rfl⟩ : r1 = 0 ∧ r2 = 0 ∧ r3 = 2 := by simpa [eq_comm] using h
    clear h
    go_enter Try.func74, Try.ntmps74
    go_wp2
    refine wp_scope_jumps 0 (fun _ _ => False) (fun _ _ => 0) rfl ?_ (fun _ _ h_ => h_.elim)
    go_wp2
    simp only [Exit.jump]
    go_ret3
    exact ⟨rfl, by repeat (first | exact Drawn0.refl _ | apply Drawn0.step)⟩
  rw [if_neg c2] at h
  have H := Aside0.mk h
  clear h
  go_enter Try.func74, Try.ntmps74
  go_wp2
  refine wp_scope_jumps 0 (octet_TakeUint.J w A0 l0 c0 a1 (r1, r2, r3) k) (fun a' _ => 100 - (RowKit.intOf (a'.tmps.getD 8 undef)).toNat) rfl ?_ ?_
  · go_wp2
    go_step3
    have hl : octet_TakeUint.l0 k l0 a1 0 0 = some (r1, r2, r3) := H.out
    clear H
    cases k with
    | zero => exact absurd hl (by simp [octet_TakeUint.l0])
    | succ k1 =>
      simp only [octet_TakeUint.l0] at hl
      by_cases c3 : a1 + ((0 : Nat) : Int) ≥ (l0.length : Int)
      · rw [if_pos c3] at hl
        obtain ⟨rfl, rfl, rfl⟩ : r1 = 0 ∧ r2 = 0 ∧ r3 = 3 := by simpa [eq_comm] using hl
        have c3' : (l0.length : Int) ≤ a1 := by omega
        go_wp2
        simp only [Exit.jump]
        go_ret3
        exact ⟨rfl, by repeat (first | exact Drawn0.refl _ | apply Drawn0.step)⟩
      · rw [if_neg c3] at hl
        have c3' : a1 < (l0.length : Int) := by omega
        obtain ⟨ad, rfl, hx⟩ := Kd.at_int HR.out a1 (by omega) (by omega)
        simp only [Int.natCast_zero, Int.add_zero] at hl
        generalize hxx : (rd l0 a1) = x at hl hx
        clear hxx
        by_cases c4 : (0 : Nat) = 9 ∧ x > 1
        · rw [if_pos c4] at hl
          omega
        · rw [if_neg c4] at hl
          by_cases c5 : x ≥ 128
          · rw [if_pos c5] at hl
            have H' := Aside0.mk hl
            clear hl
            go_wp2
            go_step3
            refine ⟨rfl, k1, _, 1, _, _, _, _, _, _, _, _, _, _, _, _, _, _, _, _, _, _, _, _, _, _, _, _, _, _, _, _, _, _, _, _, _, _, _, _, _, _, _, rfl, ?_, by omega, by omega, by omega, by repeat (first | exact Drawn0.refl _ | apply Drawn0.step)⟩
            have h_ := H'.out
            simpa [octet_TakeUint.acc] using h_
          · rw [if_neg c5] at hl
            by_cases c6 : x = 0 ∧ (0 : Nat) > 0
            · rw [if_pos c6] at hl
              omega
            · rw [if_neg c6] at hl
              simp only [Option.some.injEq, Prod.mk.injEq] at hl
              obtain ⟨rfl, rfl, rfl⟩ := hl
              by_cases c7 : x = 0
              · subst c7
                go_wp2
                simp only [Exit.jump]
                go_ret3
                exact ⟨by simp [octet_TakeUint.acc], by repeat (first | exact Drawn0.refl _ | apply Drawn0.step)⟩
              · go_wp2
                simp only [Exit.jump]
                go_ret3
                exact ⟨by simp [octet_TakeUint.acc], by repeat (first | exact Drawn0.refl _ | apply Drawn0.step)⟩
  · rintro a' w' ⟨k1, n, i, u9, u10, u11, u12, u13, u14, u15, u16, u17, u18, u19, u20, u21, u22, u23, u24, u25, u26, u27, u28, u29, u30, u31, u32, u33, u34, u35, u36, u37, u38, u39, u40, u41, u42, u43, u44, u45, u46, u47, rfl, hl, hk, hi, hti, ⟨m, rfl⟩⟩
    clear H
    cases k1 with
    | zero => exact absurd hl (by simp [octet_TakeUint.l0])
    | succ k1 =>
      simp only [octet_TakeUint.l0] at hl
      by_cases c3 : a1 + (i : Int) ≥ (l0.length : Int)
      · rw [if_pos c3] at hl
        obtain ⟨rfl, rfl, rfl⟩ : r1 = 0 ∧ r2 = 0 ∧ r3 = 3 := by simpa [eq_comm] using hl
        go_wp2
        simp only [Exit.jump]
        go_ret3
        exact ⟨rfl, by repeat (first | exact Drawn0.refl _ | apply Drawn0.step)⟩
      · rw [if_neg c3] at hl
        obtain ⟨ad, rfl, hx⟩ := Kd.at_int HR.out (a1 + (i : Int)) (by omega) (by omega)
        generalize hxx : (rd l0 (a1 + (i : Int))) = x at hl hx
        clear hxx
        by_cases c4 : i = 9 ∧ x > 1
        · rw [if_pos c4] at hl
          obtain ⟨rfl, rfl, rfl⟩ : r1 = 0 ∧ r2 = 0 ∧ r3 = 6 := by simpa [eq_comm] using hl
          obtain ⟨c4a, c4b⟩ := c4
          have c4c : 9 ≤ i := by omega
          clear c4a
          go_wp2
          simp only [Exit.jump]
          go_ret3
          exact ⟨rfl, by repeat (first | exact Drawn0.refl _ | apply Drawn0.step)⟩
        · rw [if_neg c4] at hl
          by_cases c8 : 9 ≤ i
          · have c9 : x ≤ 1 := by omega
            clear c4
            by_cases c5 : x ≥ 128
            · rw [if_pos c5] at hl
              omega
            · rw [if_neg c5] at hl
              by_cases c6 : x = 0 ∧ i > 0
              · rw [if_pos c6] at hl
                obtain ⟨rfl, rfl, rfl⟩ : r1 = 0 ∧ r2 = 0 ∧ r3 = 4 := by simpa [eq_comm] using hl
                obtain ⟨c6a, c6b⟩ := c6
                subst c6a
                go_wp2
                simp only [Exit.jump]
                go_ret3
                exact ⟨rfl, by repeat (first | exact Drawn0.refl _ | apply Drawn0.step)⟩
              · rw [if_neg c6] at hl
                simp only [Option.some.injEq, Prod.mk.injEq] at hl
                obtain ⟨rfl, rfl, rfl⟩ := hl
                by_cases c7 : x = 0
                · omega
                · go_wp2
                  simp only [Exit.jump]
                  go_ret3
                  exact ⟨(by obtain rfl : i = 9 := (by omega); simp [octet_TakeUint.acc]), by repeat (first | exact Drawn0.refl _ | apply Drawn0.step)⟩
          · clear c4
            have c9 : i < 9 := by omega
            by_cases c5 : x ≥ 128
            · rw [if_pos c5] at hl
              have H' := Aside0.mk hl
              clear hl
              go_wp2
              go_step3
              refine ⟨rfl, ⟨k1, _, i + 1, _, _, _, _, _, _, _, _, _, _, _, _, _, _, _, _, _, _, _, _, _, _, _, _, _, _, _, _, _, _, _, _, _, _, _, _, _, _, _, rfl, ?_, by omega, by omega, by omega, by repeat (first | exact Drawn0.refl _ | apply Drawn0.step)⟩, ?_⟩
              · exact H'.out
              · simp [RowKit.intOf]; omega
            · rw [if_neg c5] at hl
              by_cases c6 : x = 0 ∧ i > 0
              · rw [if_pos c6] at hl
                obtain ⟨rfl, rfl, rfl⟩ : r1 = 0 ∧ r2 = 0 ∧ r3 = 4 := by simpa [eq_comm] using hl
                obtain ⟨c6a, c6b⟩ := c6
                subst c6a
                go_wp2
                simp only [Exit.jump]
                go_ret3
                exact ⟨rfl, by repeat (first | exact Drawn0.refl _ | apply Drawn0.step)⟩
              · rw [if_neg c6] at hl
                simp only [Option.some.injEq, Prod.mk.injEq] at hl
                obtain ⟨rfl, rfl, rfl⟩ := hl
                by_cases c7 : x = 0
                · have c7b : i ≤ 0 := by omega
                  subst c7
                  go_wp2
                  simp only [Exit.jump]
                  go_ret3
                  exact ⟨rfl, by repeat (first | exact Drawn0.refl _ | apply Drawn0.step)⟩
                · go_wp2
                  simp only [Exit.jump]
                  go_ret3
                  exact ⟨rfl, by repeat (first | exact Drawn0.refl _ | apply Drawn0.step)⟩


/-! ### api_Span: function 75 -/
-- typed by hand: a cut with three indexes
def api_Span.f (l0 : List S43) : Option (List S43) := some l0
set_option maxHeartbeats 1000000 in
set_option maxRecDepth 100000 in
theorem api_Span.calls (P0_ : Nat → Prop) (A0 : Option Addr) (c0 : Nat) (l0 : List S43) (r : List S43) (w : World) (hs0 : Kd.V k43 43 w w.heap.size (fun k_ => P0_ k_) (.slice A0 l0.length c0) l0) (h : api_Span.f l0 = some r) :
    Calls Try.prog 75 #[.slice A0 l0.length c0] w fun e w' => ∃ v0_ : Value, e = .returned (v0_) ∧ Kd.V k43 43 w' w.heap.size (fun k_ => (P0_ k_ ∨ w.heap.size ≤ k_)) v0_ r ∧ Below w.heap.size w w' := by
  obtain rfl := Option.some.inj h
  have HS := Aside0.mk hs0
  have hc := (Kd.V_at HS.out).2.1
  clear h hs0
  go_enter Try.func75, Try.ntmps75
  go_wp2
  go_ret
  exact ⟨_, rfl, Kd.V_mono (Kd.V_mk (Nat.le_refl _) (Kd.V_at HS.out).2.2) (fun _ hk => .inl hk), Below.refl _ _⟩


/-! ### span_Take: function 50 -/
mutual
def span_Take.l0 : Nat → List Int → Int → List (S43) → Int → Int → Int → Int → Int → Option ((List (S43)) × Int × Int)
  | 0, _, _, _, _, _, _, _, _ => none
  | k + 1, x0, x8, x10, x31, x32, x530000, x530001, x530002 => if x32 < x31 then ((octet_TakeUint.f k x0 x8).bind fun bt533 => (if bt533.2.2 = 0 then ((octet_TakeUint.f k x0 bt533.2.1).bind fun bt536 => (span_Take.j1 k x0 bt536.2.1 bt536.2.2 x10 bt533.1 bt536.1 x31 x32 x530000 x530001 x530002)) else (span_Take.j1 k x0 bt533.2.1 bt533.2.2 x10 bt533.1 0 x31 x32 x530000 x530001 x530002))) else ((api_Span.f x10).bind fun t530 => (some (t530, x8, 0)))
def span_Take.j1 : Nat → List Int → Int → Int → List (S43) → Int → Int → Int → Int → Int → Int → Int → Option ((List (S43)) × Int × Int)
  | 0, _, _, _, _, _, _, _, _, _, _, _ => none
  | k + 1, x0, x8, x9, x10, x12, x13, x31, x32, x530000, x530001, x530002 => if x9 = 0 then (if x8 ≥ (x0.length : Int) then (some (([] : List (S43)), 0, 3)) else (if 0 ≤ x8 then (if x8 < (x0.length : Int) then (if x12 ≥ (IntKind.u64.wrap (wrap64 (1099511627776 - x530001))) then (some (([] : List (S43)), 0, 4)) else (if x13 ≥ (IntKind.u64.wrap ((IntKind.u64.wrap (wrap64 (1099511627776 - x530001))) - x12)) then (some (([] : List (S43)), 0, 4)) else (if (wrap64 (rd x0 x8)) < 1 then (some (([] : List (S43)), 0, 4)) else (if (wrap64 (rd x0 x8)) > 3 then (some (([] : List (S43)), 0, 4)) else (if x12 = 0 then (if (wrap64 (rd x0 x8)) = x530002 then (some (([] : List (S43)), 0, 4)) else (if x10.length < 5864062014805 then (span_Take.l0 k x0 (wrap64 (x8 + 1)) (x10 ++ [(⟨wrap64 ((wrap64 (x530001 + 1)) + (wrap64 (x12))), wrap64 ((wrap64 ((wrap64 (x530001 + 1)) + (wrap64 (x12)))) + (wrap64 (x13))), wrap64 (rd x0 x8)⟩ : S43)]) x31 (wrap64 (x32 + 1)) (wrap64 ((wrap64 (x530001 + 1)) + (wrap64 (x12)))) (wrap64 ((wrap64 ((wrap64 (x530001 + 1)) + (wrap64 (x12)))) + (wrap64 (x13)))) (wrap64 (rd x0 x8))) else (none))) else (if x10.length < 5864062014805 then (span_Take.l0 k x0 (wrap64 (x8 + 1)) (x10 ++ [(⟨wrap64 ((wrap64 (x530001 + 1)) + (wrap64 (x12))), wrap64 ((wrap64 ((wrap64 (x530001 + 1)) + (wrap64 (x12)))) + (wrap64 (x13))), wrap64 (rd x0 x8)⟩ : S43)]) x31 (wrap64 (x32 + 1)) (wrap64 ((wrap64 (x530001 + 1)) + (wrap64 (x12)))) (wrap64 ((wrap64 ((wrap64 (x530001 + 1)) + (wrap64 (x12)))) + (wrap64 (x13)))) (wrap64 (rd x0 x8))) else (none))))))) else (none)) else (none))) else (some (([] : List (S43)), 0, x9))
end
def span_Take.f (k : Nat) (l0 : List Int) (a1 : Int) : Option ((List (S43)) × Int × Int) := (octet_TakeUint.f k l0 a1).bind fun bt526 => (if bt526.2.2 = 0 then (if bt526.1 > 256 then (some (([] : List (S43)), 0, 6)) else (span_Take.l0 k l0 bt526.2.1 ([] : List (S43)) (wrap64 (bt526.1)) 0 0 0 0)) else (some (([] : List (S43)), 0, bt526.2.2)))
set_option maxHeartbeats 8000000 in
set_option maxRecDepth 100000 in
theorem span_Take.calls (k : Nat) (A0 : Option Addr) (c0 : Nat) (l0 : List Int) (a1 : Int) (r1 : List (S43)) (r2 : Int) (r3 : Int) (w : World) (hr0 : Kd.C (Kd.int .u8) w A0 l0.length l0) (hc0 : l0.length ≤ c0) (h : span_Take.f k l0 a1 = some (r1, r2, r3)) :
    Calls Try.prog 50 #[.slice A0 l0.length c0, .int .i64 a1] w fun e w' => ∃ v0_ : Value, e = .returned (.tuple #[v0_, .int .i64 r2, .int .i64 r3]) ∧ Kd.V k43 43 w' w.heap.size (fun k_ => (w.heap.size ≤ k_)) v0_ r1 ∧ Below w.heap.size w w' := by
  have hu43 := Try.underlying43
  have HR0 := Aside0.mk hr0
  have HC0 := Aside0.mk hc0
  clear hr0 hc0
  have HB := Aside0.mk (Below.refl w.heap.size w)
  have H : ((octet_TakeUint.f k l0 a1).bind fun bt526 => (if bt526.2.2 = 0 then (if bt526.1 > 256 then (some (([] : List (S43)), 0, 6)) else (span_Take.l0 k l0 bt526.2.1 ([] : List (S43)) (wrap64 (bt526.1)) 0 0 0 0)) else (some (([] : List (S43)), 0, bt526.2.2)))) = some (r1, r2, r3) := h
  clear h
  replace H := Option.bind_eq_some_iff.mp H
  obtain ⟨⟨t526, t527, t528⟩, A30, H⟩ := H
  replace H : (if t528 = 0 then (if t526 > 256 then (some (([] : List (S43)), 0, 6)) else (span_Take.l0 k l0 t527 ([] : List (S43)) (wrap64 (t526)) 0 0 0 0)) else (some (([] : List (S43)), 0, t528))) = some (r1, r2, r3) := H
  have A3 := Aside0.mk A30
  clear A30
  by_cases c4 : t528 = 0
  · rw [if_pos c4] at H
    have c4b0 : (t528 == 0) = true := beq_iff_eq.mpr c4
    have c4b1 : (t528 != 0) = false := bne_eq_false_iff_eq.mpr c4
    clear c4
    by_cases c5 : t526 > 256
    · rw [if_pos c5] at H
      have c5b0 : decide (256 < t526) = true := decide_eq_true c5
      clear c5
      simp only [Option.some.injEq, Prod.mk.injEq] at H
      obtain ⟨rfl, rfl, rfl⟩ := H
      go_enter Try.func50, Try.ntmps50
      go_wp2_with (first | ((with_reducible refine gate_callee (f := 74) rfl ?_); refine goesL_ (some 20) rfl rfl Try.func74 (by kernel_rfl) rfl #[.slice A0 l0.length c0, .int .i64 a1] rfl (by (try simp only [List.map_toArray, List.map_cons, List.map_nil]); first | done | rfl | (simp only [List.length_drop, List.length_take]; rfl)) ?_; (with_reducible refine (octet_TakeUint.calls k _ _ l0 a1 t526 t527 t528 _ ?side1 ?side2 A3.out).mono ?_); (case side1 => repeat (first | exact HR0.out | (with_reducible refine Kd.C_alloc ?_ _) | (with_reducible refine Kd.C_drewN ?_ _) | (with_reducible refine Kd.C_drew ?_))); (case side2 => exact HC0.out); rintro e w' ⟨rfl, ⟨nd, rfl⟩⟩; refine ⟨_, rfl, ?_⟩))
      go_ret3
      exact ⟨_, by first | rfl | (simp [errW_none, errW_some] <;> rfl) | (simp [*, errW_none, errW_some] <;> rfl), Kd.R_V (by first | exact Kd.R_nil _ _ _ 0 _ | exact Kd.R_nil _ _ _ _ _ | exact Kd.N_nil _ _ _ _ _ | exact Kd.V_nil _ _ _ _ _ | exact Kd.Q_nil _ _ _ _ _ | exact Kd.S_nil _ _ _ _ _), by repeat (first | (with_reducible first | exact HB.out | apply below_alloc | apply pw_below_drewN | apply below_drew1) | exact HB.out)⟩
    · rw [if_neg c5] at H
      have c5b0 : decide (256 < t526) = false := decide_eq_false c5
      clear c5
      have H' := Aside0.mk H
      clear H
      go_enter Try.func50, Try.ntmps50
      go_wp2_with (first | ((with_reducible refine gate_callee (f := 74) rfl ?_); refine goesL_ (some 20) rfl rfl Try.func74 (by kernel_rfl) rfl #[.slice A0 l0.length c0, .int .i64 a1] rfl (by (try simp only [List.map_toArray, List.map_cons, List.map_nil]); first | done | rfl | (simp only [List.length_drop, List.length_take]; rfl)) ?_; (with_reducible refine (octet_TakeUint.calls k _ _ l0 a1 t526 t527 t528 _ ?side1 ?side2 A3.out).mono ?_); (case side1 => repeat (first | exact HR0.out | (with_reducible refine Kd.C_alloc ?_ _) | (with_reducible refine Kd.C_drewN ?_ _) | (with_reducible refine Kd.C_drew ?_))); (case side2 => exact HC0.out); rintro e w' ⟨rfl, ⟨nd, rfl⟩⟩; refine ⟨_, rfl, ?_⟩) | ((with_reducible refine gate_dst (N := 11) rfl ?_); refine box_event ?hg (N := 11) ?hd (cs := #[.int .i64 0, .int .i64 0, .int .i64 0]) (t := 43) ?hr ?_; (case hd => rfl); (case hg => rfl); (case hr => first | (go_simp; done) | (go_simp; rfl)); intro gb529 hg w6 hbox hb; have n0_ := Aside0.mk (below_step (by repeat (first | (with_reducible first | exact HB.out | apply below_alloc | apply pw_below_drewN | apply below_drew1) | exact HB.out)) hb); have n1_ := Aside0.mk (hbox); have n2_ := Aside0.mk ((by rw [hg]; exact (below_size (by repeat (first | (with_reducible first | exact HB.out | apply below_alloc | apply pw_below_drewN | apply below_drew1) | exact HB.out))) : w.heap.size ≤ gb529)); have n3_ := Aside0.mk ((by rw [hg]; exact (below_size (by repeat (first | (with_reducible first | exact HB.out | apply below_alloc | apply pw_below_drewN | apply below_drew1) | exact HB.out))) : w.heap.size ≤ gb529)); clear HB; have HB := n0_; have BK529 := n1_; have GW529 := n2_; have GE529 := n3_; clear n0_ n1_ n2_ n3_; clear hb hbox hg; have hcz7_0 : w6.cell? ⟨gb529, 0, none⟩ = some (.int .i64 0) := (blk_cell BK529.out 0).trans rfl; have hcz7_1 : w6.cell? ⟨gb529, 1, none⟩ = some (.int .i64 0) := (blk_cell BK529.out 1).trans rfl; have hcz7_2 : w6.cell? ⟨gb529, 2, none⟩ = some (.int .i64 0) := (blk_cell BK529.out 2).trans rfl; have hfz7_0 := blk_frozen BK529.out 0; have hfz7_1 := blk_frozen BK529.out 1; have hfz7_2 := blk_frozen BK529.out 2))
      go_loopg [8, 10, 32] k (fun kq v8 v10 v32 w' => ∃ (x8_1 : Int) (x10_1 : List (S43)) (x32_1 : Int) (x530000_1 : Int) (x530001_1 : Int) (x530002_1 : Int), v8 = .int .i64 x8_1 ∧ v32 = .int .i64 x32_1 ∧ Aside0 (span_Take.l0 kq l0 x8_1 x10_1 (wrap64 (t526)) x32_1 x530000_1 x530001_1 x530002_1 = some (r1, r2, r3)) ∧ Aside0 (kq ≤ k) ∧ Aside0 (Kd.R k43 43 w' w.heap.size (fun k_ => (w.heap.size ≤ k_) ∧ k_ ≠ gb529) v10 x10_1) ∧ Aside0 (w'.heap[gb529]? = some (.cells #[.int .i64 x530000_1, .int .i64 x530001_1, .int .i64 x530002_1] 43 (0, 0))) ∧ Aside0 (Below w.heap.size w w'))
      case atStart => exact ⟨(t527), (([] : List (S43))), (0), (0), (0), (0), (by first | rfl | (simp; done) | (simp [*]; done)), (by first | rfl | (simp; done) | (simp [*]; done)), H', ⟨Nat.le_refl _⟩, ⟨by first | exact Kd.R_nil _ _ _ _ _ | exact Kd.N_nil _ _ _ _ _ | exact Kd.V_nil _ _ _ _ _ | exact Kd.Q_nil _ _ _ _ _ | exact Kd.S_nil _ _ _ _ _⟩, ⟨by (with_reducible repeat (first | refine blk_drewN ?_ _ | refine blk_drew ?_ | refine blk_alloc ?_ _)); refine blk_put (cs := #[.int .i64 0, .int .i64 0, .int .i64 0]) ?_ 2 _ rfl; (with_reducible repeat (first | refine blk_drewN ?_ _ | refine blk_drew ?_ | refine blk_alloc ?_ _)); refine blk_put (cs := #[.int .i64 0, .int .i64 0, .int .i64 0]) ?_ 1 _ rfl; (with_reducible repeat (first | refine blk_drewN ?_ _ | refine blk_drew ?_ | refine blk_alloc ?_ _)); refine blk_put (cs := #[.int .i64 0, .int .i64 0, .int .i64 0]) ?_ 0 _ rfl; (with_reducible repeat (first | refine blk_drewN ?_ _ | refine blk_drew ?_ | refine blk_alloc ?_ _)); exact BK529.out⟩, ⟨by repeat (first | (with_reducible first | exact HB.out | apply below_alloc | apply pw_below_drewN | apply below_drew1 | refine below_set ?_ GE529.out) | exact HB.out)⟩⟩
      case round =>
        clear H'
        try clear p2
        try clear c4
        try clear c4b0
        try clear c4b1
        try clear c5
        try clear c5b0
        try clear p6
        try clear c7
        try clear hcz7_0
        try clear hcz7_1
        try clear hcz7_2
        try clear hfz7_0
        try clear hfz7_1
        try clear hfz7_2
        obtain ⟨x8_1, x10_1, x32_1, x530000_1, x530001_1, x530002_1, rfl, rfl, HA, HK1, HO_10, BK529, HB⟩ := hrel
        cases gk with
        | zero => exact absurd HA.out (by simp [span_Take.l0])
        | succ k1 =>
          have H := HA.out
          clear HA
          simp only [span_Take.l0] at H
          by_cases c8 : x32_1 < (wrap64 (t526))
          · rw [if_pos c8] at H
            have c8b0 : decide (x32_1 < (wrap64 (t526))) = true := decide_eq_true c8
            clear c8
            replace H := Option.bind_eq_some_iff.mp H
            obtain ⟨⟨t533, t534, t535⟩, A90, H⟩ := H
            replace H : (if t535 = 0 then ((octet_TakeUint.f k1 l0 t534).bind fun bt536 => (span_Take.j1 k1 l0 bt536.2.1 bt536.2.2 x10_1 t533 bt536.1 (wrap64 (t526)) x32_1 x530000_1 x530001_1 x530002_1)) else (span_Take.j1 k1 l0 t534 t535 x10_1 t533 0 (wrap64 (t526)) x32_1 x530000_1 x530001_1 x530002_1)) = some (r1, r2, r3) := H
            have A9 := Aside0.mk A90
            clear A90
            have HC10 := Aside0.mk H
            clear H
            go_upto_if 42 with (first | ((with_reducible refine gate_callee (f := 74) rfl ?_); refine goesL_ (some 37) rfl rfl Try.func74 (by kernel_rfl) rfl #[.slice A0 l0.length c0, .int .i64 x8_1] rfl (by (try simp only [List.map_toArray, List.map_cons, List.map_nil]); first | done | rfl | (simp only [List.length_drop, List.length_take]; rfl)) ?_; (with_reducible refine (octet_TakeUint.calls k1 _ _ l0 x8_1 t533 t534 t535 _ ?side1 ?side2 A9.out).mono ?_); (case side1 => repeat (first | exact (Kd.C_below HR0.out HB.out) | (with_reducible refine Kd.C_alloc ?_ _) | (with_reducible refine Kd.C_drewN ?_ _) | (with_reducible refine Kd.C_drew ?_))); (case side2 => exact HC0.out); rintro e w' ⟨rfl, ⟨nd, rfl⟩⟩; refine ⟨_, rfl, ?_⟩))
            (try simp only [Act.put, List.setIfInBounds_toArray, List.set_cons_zero, List.set_cons_succ])
            go_cut [8, 9, 13] (fun v8 v9 v13 wc => ∃ (kq : Nat) (x8_9 : Int) (x9_9 : Int) (x13_9 : Int), v8 = .int .i64 x8_9 ∧ v9 = .int .i64 x9_9 ∧ v13 = .int .u64 x13_9 ∧ Aside0 (span_Take.j1 kq l0 x8_9 x9_9 x10_1 t533 x13_9 (wrap64 (t526)) x32_1 x530000_1 x530001_1 x530002_1 = some (r1, r2, r3)) ∧ Aside0 (kq ≤ k1) ∧ Aside0 (Kd.R k43 43 wc w.heap.size (fun k_ => (w.heap.size ≤ k_) ∧ k_ ≠ gb529) u10 x10_1) ∧ Aside0 (wc.heap[gb529]? = some (.cells #[.int .i64 x530000_1, .int .i64 x530001_1, .int .i64 x530002_1] 43 (0, 0))) ∧ Aside0 (Below w.heap.size w wc))
            case first =>
              have H := HC10.out
              clear HC10
              by_cases c11 : t535 = 0
              · rw [if_pos c11] at H
                have c11b0 : (t535 == 0) = true := beq_iff_eq.mpr c11
                have c11b1 : (t535 != 0) = false := bne_eq_false_iff_eq.mpr c11
                clear c11
                (first | rw [c11b0] | (simp only [i64_w, i32_w]; rw [c11b0]) | skip)
                replace H := Option.bind_eq_some_iff.mp H
                obtain ⟨⟨t536, t537, t538⟩, A120, H⟩ := H
                replace H : (span_Take.j1 k1 l0 t537 t538 x10_1 t533 t536 (wrap64 (t526)) x32_1 x530000_1 x530001_1 x530002_1) = some (r1, r2, r3) := H
                have A12 := Aside0.mk A120
                clear A120
                have H' := Aside0.mk H
                clear H
                go_wp2_with (first | ((with_reducible refine gate_callee (f := 74) rfl ?_); refine goesL_ (some 46) rfl rfl Try.func74 (by kernel_rfl) rfl #[.slice A0 l0.length c0, .int .i64 t534] rfl (by (try simp only [List.map_toArray, List.map_cons, List.map_nil]); first | done | rfl | (simp only [List.length_drop, List.length_take]; rfl)) ?_; (with_reducible refine (octet_TakeUint.calls k1 _ _ l0 t534 t536 t537 t538 _ ?side1 ?side2 A12.out).mono ?_); (case side1 => repeat (first | exact (Kd.C_below HR0.out HB.out) | (with_reducible refine Kd.C_alloc ?_ _) | (with_reducible refine Kd.C_drewN ?_ _) | (with_reducible refine Kd.C_drew ?_))); (case side2 => exact HC0.out); rintro e w' ⟨rfl, ⟨nd, rfl⟩⟩; refine ⟨_, rfl, ?_⟩))
                go_meet
                case rel => exact ⟨_, (t537), (t538), (t536), (by first | rfl | (simp; done) | (simp [*]; done)), (by first | rfl | (simp; done) | (simp [*]; done)), (by first | rfl | (simp; done) | (simp [*]; done)), H', ⟨by have := HK1.out; first | omega | exact Nat.le_refl _⟩, ⟨by (with_reducible repeat (first | apply Kd.R_alloc | apply Kd.R_drewN | apply Kd.R_drew)); exact HO_10.out⟩, ⟨by (with_reducible repeat (first | refine blk_drewN ?_ _ | refine blk_drew ?_ | refine blk_alloc ?_ _)); exact BK529.out⟩, ⟨by repeat (first | (with_reducible first | exact HB.out | apply below_alloc | apply pw_below_drewN | apply below_drew1 | refine below_set ?_ GE529.out) | exact HB.out)⟩⟩
              · rw [if_neg c11] at H
                have c11b0 : (t535 == 0) = false := beq_eq_false_iff_ne.mpr c11
                have c11b1 : (t535 != 0) = true := bne_iff_ne.mpr c11
                (first | rw [c11b0] | (simp only [i64_w, i32_w]; rw [c11b0]) | skip)
                have H' := Aside0.mk H
                clear H
                go_wp2
                go_meet
                case rel => exact ⟨_, (t534), (t535), (0), (by first | rfl | (simp; done) | (simp [*]; done)), (by first | rfl | (simp; done) | (simp [*]; done)), (by first | rfl | (simp; done) | (simp [*]; done)), H', ⟨by have := HK1.out; first | omega | exact Nat.le_refl _⟩, ⟨by (with_reducible repeat (first | apply Kd.R_alloc | apply Kd.R_drewN | apply Kd.R_drew)); exact HO_10.out⟩, ⟨by (with_reducible repeat (first | refine blk_drewN ?_ _ | refine blk_drew ?_ | refine blk_alloc ?_ _)); exact BK529.out⟩, ⟨by repeat (first | (with_reducible first | exact HB.out | apply below_alloc | apply pw_below_drewN | apply below_drew1 | refine below_set ?_ GE529.out) | exact HB.out)⟩⟩
            case rest =>
              clear HC10
              try clear c1
              try clear p2
              try clear c4
              try clear c4b0
              try clear c4b1
              try clear c5
              try clear c5b0
              try clear p6
              try clear c7
              try clear c8
              try clear c8b0
              try clear c11
              try clear c11b0
              try clear c11b1
              try clear hcz7_0
              try clear hcz7_1
              try clear hcz7_2
              try clear hfz7_0
              try clear hfz7_1
              try clear hfz7_2
              try clear p2
              try clear p6
              obtain ⟨kq, x8_9, x9_9, x13_9, rfl, rfl, rfl, HA, HJ9, HO_10, BK529, HB⟩ := hcut
              cases kq with
              | zero => exact absurd HA.out (by simp [span_Take.j1])
              | succ kj9 =>
                have H := HA.out
                clear HA
                simp only [span_Take.j1] at H
                by_cases c13 : x9_9 = 0
                · rw [if_pos c13] at H
                  have c13b0 : (x9_9 == 0) = true := beq_iff_eq.mpr c13
                  have c13b1 : (x9_9 != 0) = false := bne_eq_false_iff_eq.mpr c13
                  clear c13
                  by_cases c14 : x8_9 ≥ (l0.length : Int)
                  · rw [if_pos c14] at H
                    have c14b0 : decide ((l0.length : Int) ≤ x8_9) = true := decide_eq_true c14
                    clear c14
                    simp only [Option.some.injEq, Prod.mk.injEq] at H
                    obtain ⟨rfl, rfl, rfl⟩ := H
                    go_wp2
                    go_ret3
                    exact ⟨_, by first | rfl | (simp [errW_none, errW_some] <;> rfl) | (simp [*, errW_none, errW_some] <;> rfl), Kd.R_V (by first | exact Kd.R_nil _ _ _ 0 _ | exact Kd.R_nil _ _ _ _ _ | exact Kd.N_nil _ _ _ _ _ | exact Kd.V_nil _ _ _ _ _ | exact Kd.Q_nil _ _ _ _ _ | exact Kd.S_nil _ _ _ _ _), by repeat (first | (with_reducible first | exact HB.out | apply below_alloc | apply pw_below_drewN | apply below_drew1 | refine below_set ?_ GE529.out) | exact HB.out)⟩
                  · rw [if_neg c14] at H
                    have c14b0 : decide ((l0.length : Int) ≤ x8_9) = false := decide_eq_false c14
                    clear c14
                    by_cases c15 : 0 ≤ x8_9
                    · rw [if_pos c15] at H
                      have c15b0 : decide (0 ≤ x8_9) = true := decide_eq_true c15
                      clear c15
                      by_cases c16 : x8_9 < (l0.length : Int)
                      · rw [if_pos c16] at H
                        have c16b0 : decide (x8_9 < (l0.length : Int)) = true := decide_eq_true c16
                        clear c16
                        by_cases c17 : t533 ≥ (IntKind.u64.wrap (wrap64 (1099511627776 - x530001_1)))
                        · rw [if_pos c17] at H
                          have c17b0 : decide ((IntKind.u64.wrap (wrap64 (1099511627776 - x530001_1))) ≤ t533) = true := decide_eq_true c17
                          clear c17
                          simp only [Option.some.injEq, Prod.mk.injEq] at H
                          obtain ⟨rfl, rfl, rfl⟩ := H
                          have p539 : 0 ≤ (x8_9 : Int) := of_decide_eq_true (by first | (with_reducible assumption) | assumption)
                          have q539 : x8_9 < (l0.length : Int) := of_decide_eq_true (by first | (with_reducible assumption) | assumption)
                          obtain ⟨ad539, e539, hx539_0⟩ := Kd.at_int HR0.out x8_9 p539 q539
                          cases e539
                          replace hx539_0 := (HB.out.cell (World.block_lt_of_cell? w _ hx539_0)).trans hx539_0
                          replace p539 := eq_true p539
                          replace q539 := eq_true q539
                          have hcz18_0 : wc.cell? ⟨gb529, 0, none⟩ = some (.int .i64 x530000_1) := (blk_cell BK529.out 0).trans rfl
                          have hcz18_1 : wc.cell? ⟨gb529, 1, none⟩ = some (.int .i64 x530001_1) := (blk_cell BK529.out 1).trans rfl
                          have hcz18_2 : wc.cell? ⟨gb529, 2, none⟩ = some (.int .i64 x530002_1) := (blk_cell BK529.out 2).trans rfl
                          have hfz18_0 := blk_frozen BK529.out 0
                          have hfz18_1 := blk_frozen BK529.out 1
                          have hfz18_2 := blk_frozen BK529.out 2
                          go_wp2
                          go_ret3
                          exact ⟨_, by first | rfl | (simp [errW_none, errW_some] <;> rfl) | (simp [*, errW_none, errW_some] <;> rfl), Kd.R_V (by first | exact Kd.R_nil _ _ _ 0 _ | exact Kd.R_nil _ _ _ _ _ | exact Kd.N_nil _ _ _ _ _ | exact Kd.V_nil _ _ _ _ _ | exact Kd.Q_nil _ _ _ _ _ | exact Kd.S_nil _ _ _ _ _), by repeat (first | (with_reducible first | exact HB.out | apply below_alloc | apply pw_below_drewN | apply below_drew1 | refine below_set ?_ GE529.out) | exact HB.out)⟩
                        · rw [if_neg c17] at H
                          have c17b0 : decide ((IntKind.u64.wrap (wrap64 (1099511627776 - x530001_1))) ≤ t533) = false := decide_eq_false c17
                          clear c17
                          by_cases c19 : x13_9 ≥ (IntKind.u64.wrap ((IntKind.u64.wrap (wrap64 (1099511627776 - x530001_1))) - t533))
                          · rw [if_pos c19] at H
                            have c19b0 : decide ((IntKind.u64.wrap ((IntKind.u64.wrap (wrap64 (1099511627776 - x530001_1))) - t533)) ≤ x13_9) = true := decide_eq_true c19
                            clear c19
                            simp only [Option.some.injEq, Prod.mk.injEq] at H
                            obtain ⟨rfl, rfl, rfl⟩ := H
                            have p539 : 0 ≤ (x8_9 : Int) := of_decide_eq_true (by first | (with_reducible assumption) | assumption)
                            have q539 : x8_9 < (l0.length : Int) := of_decide_eq_true (by first | (with_reducible assumption) | assumption)
                            obtain ⟨ad539, e539, hx539_0⟩ := Kd.at_int HR0.out x8_9 p539 q539
                            cases e539
                            replace hx539_0 := (HB.out.cell (World.block_lt_of_cell? w _ hx539_0)).trans hx539_0
                            replace p539 := eq_true p539
                            replace q539 := eq_true q539
                            have hcz20_0 : wc.cell? ⟨gb529, 0, none⟩ = some (.int .i64 x530000_1) := (blk_cell BK529.out 0).trans rfl
                            have hcz20_1 : wc.cell? ⟨gb529, 1, none⟩ = some (.int .i64 x530001_1) := (blk_cell BK529.out 1).trans rfl
                            have hcz20_2 : wc.cell? ⟨gb529, 2, none⟩ = some (.int .i64 x530002_1) := (blk_cell BK529.out 2).trans rfl
                            have hfz20_0 := blk_frozen BK529.out 0
                            have hfz20_1 := blk_frozen BK529.out 1
                            have hfz20_2 := blk_frozen BK529.out 2
                            go_wp2
                            go_ret3
                            exact ⟨_, by first | rfl | (simp [errW_none, errW_some] <;> rfl) | (simp [*, errW_none, errW_some] <;> rfl), Kd.R_V (by first | exact Kd.R_nil _ _ _ 0 _ | exact Kd.R_nil _ _ _ _ _ | exact Kd.N_nil _ _ _ _ _ | exact Kd.V_nil _ _ _ _ _ | exact Kd.Q_nil _ _ _ _ _ | exact Kd.S_nil _ _ _ _ _), by repeat (first | (with_reducible first | exact HB.out | apply below_alloc | apply pw_below_drewN | apply below_drew1 | refine below_set ?_ GE529.out) | exact HB.out)⟩
                          · rw [if_neg c19] at H
                            have c19b0 : decide ((IntKind.u64.wrap ((IntKind.u64.wrap (wrap64 (1099511627776 - x530001_1))) - t533)) ≤ x13_9) = false := decide_eq_false c19
                            clear c19
                            by_cases c21 : (wrap64 (rd l0 x8_9)) < 1
                            · rw [if_pos c21] at H
                              have c21b0 : decide ((wrap64 (rd l0 x8_9)) < 1) = true := decide_eq_true c21
                              clear c21
                              simp only [Option.some.injEq, Prod.mk.injEq] at H
                              obtain ⟨rfl, rfl, rfl⟩ := H
                              have p539 : 0 ≤ (x8_9 : Int) := of_decide_eq_true (by first | (with_reducible assumption) | assumption)
                              have q539 : x8_9 < (l0.length : Int) := of_decide_eq_true (by first | (with_reducible assumption) | assumption)
                              obtain ⟨ad539, e539, hx539_0⟩ := Kd.at_int HR0.out x8_9 p539 q539
                              cases e539
                              replace hx539_0 := (HB.out.cell (World.block_lt_of_cell? w _ hx539_0)).trans hx539_0
                              replace p539 := eq_true p539
                              replace q539 := eq_true q539
                              have hcz22_0 : wc.cell? ⟨gb529, 0, none⟩ = some (.int .i64 x530000_1) := (blk_cell BK529.out 0).trans rfl
                              have hcz22_1 : wc.cell? ⟨gb529, 1, none⟩ = some (.int .i64 x530001_1) := (blk_cell BK529.out 1).trans rfl
                              have hcz22_2 : wc.cell? ⟨gb529, 2, none⟩ = some (.int .i64 x530002_1) := (blk_cell BK529.out 2).trans rfl
                              have hfz22_0 := blk_frozen BK529.out 0
                              have hfz22_1 := blk_frozen BK529.out 1
                              have hfz22_2 := blk_frozen BK529.out 2
                              go_wp2
                              go_ret3
                              exact ⟨_, by first | rfl | (simp [errW_none, errW_some] <;> rfl) | (simp [*, errW_none, errW_some] <;> rfl), Kd.R_V (by first | exact Kd.R_nil _ _ _ 0 _ | exact Kd.R_nil _ _ _ _ _ | exact Kd.N_nil _ _ _ _ _ | exact Kd.V_nil _ _ _ _ _ | exact Kd.Q_nil _ _ _ _ _ | exact Kd.S_nil _ _ _ _ _), by repeat (first | (with_reducible first | exact HB.out | apply below_alloc | apply pw_below_drewN | apply below_drew1 | refine below_set ?_ GE529.out) | exact HB.out)⟩
                            · rw [if_neg c21] at H
                              have c21b0 : decide ((wrap64 (rd l0 x8_9)) < 1) = false := decide_eq_false c21
                              clear c21
                              by_cases c23 : (wrap64 (rd l0 x8_9)) > 3
                              · rw [if_pos c23] at H
                                have c23b0 : decide (3 < (wrap64 (rd l0 x8_9))) = true := decide_eq_true c23
                                clear c23
                                simp only [Option.some.injEq, Prod.mk.injEq] at H
                                obtain ⟨rfl, rfl, rfl⟩ := H
                                have p539 : 0 ≤ (x8_9 : Int) := of_decide_eq_true (by first | (with_reducible assumption) | assumption)
                                have q539 : x8_9 < (l0.length : Int) := of_decide_eq_true (by first | (with_reducible assumption) | assumption)
                                obtain ⟨ad539, e539, hx539_0⟩ := Kd.at_int HR0.out x8_9 p539 q539
                                cases e539
                                replace hx539_0 := (HB.out.cell (World.block_lt_of_cell? w _ hx539_0)).trans hx539_0
                                replace p539 := eq_true p539
                                replace q539 := eq_true q539
                                have hcz24_0 : wc.cell? ⟨gb529, 0, none⟩ = some (.int .i64 x530000_1) := (blk_cell BK529.out 0).trans rfl
                                have hcz24_1 : wc.cell? ⟨gb529, 1, none⟩ = some (.int .i64 x530001_1) := (blk_cell BK529.out 1).trans rfl
                                have hcz24_2 : wc.cell? ⟨gb529, 2, none⟩ = some (.int .i64 x530002_1) := (blk_cell BK529.out 2).trans rfl
                                have hfz24_0 := blk_frozen BK529.out 0
                                have hfz24_1 := blk_frozen BK529.out 1
                                have hfz24_2 := blk_frozen BK529.out 2
                                go_wp2
                                go_ret3
                                exact ⟨_, by first | rfl | (simp [errW_none, errW_some] <;> rfl) | (simp [*, errW_none, errW_some] <;> rfl), Kd.R_V (by first | exact Kd.R_nil _ _ _ 0 _ | exact Kd.R_nil _ _ _ _ _ | exact Kd.N_nil _ _ _ _ _ | exact Kd.V_nil _ _ _ _ _ | exact Kd.Q_nil _ _ _ _ _ | exact Kd.S_nil _ _ _ _ _), by repeat (first | (with_reducible first | exact HB.out | apply below_alloc | apply pw_below_drewN | apply below_drew1 | refine below_set ?_ GE529.out) | exact HB.out)⟩
                              · rw [if_neg c23] at H
                                have c23b0 : decide (3 < (wrap64 (rd l0 x8_9))) = false := decide_eq_false c23
                                clear c23
                                by_cases c25 : t533 = 0
                                · rw [if_pos c25] at H
                                  have c25b0 : (t533 == 0) = true := beq_iff_eq.mpr c25
                                  have c25b1 : (t533 != 0) = false := bne_eq_false_iff_eq.mpr c25
                                  clear c25
                                  by_cases c26 : (wrap64 (rd l0 x8_9)) = x530002_1
                                  · rw [if_pos c26] at H
                                    have c26b0 : ((wrap64 (rd l0 x8_9)) == x530002_1) = true := beq_iff_eq.mpr c26
                                    have c26b1 : ((wrap64 (rd l0 x8_9)) != x530002_1) = false := bne_eq_false_iff_eq.mpr c26
                                    clear c26
                                    simp only [Option.some.injEq, Prod.mk.injEq] at H
                                    obtain ⟨rfl, rfl, rfl⟩ := H
                                    have p539 : 0 ≤ (x8_9 : Int) := of_decide_eq_true (by first | (with_reducible assumption) | assumption)
                                    have q539 : x8_9 < (l0.length : Int) := of_decide_eq_true (by first | (with_reducible assumption) | assumption)
                                    obtain ⟨ad539, e539, hx539_0⟩ := Kd.at_int HR0.out x8_9 p539 q539
                                    cases e539
                                    replace hx539_0 := (HB.out.cell (World.block_lt_of_cell? w _ hx539_0)).trans hx539_0
                                    replace p539 := eq_true p539
                                    replace q539 := eq_true q539
                                    have hcz27_0 : wc.cell? ⟨gb529, 0, none⟩ = some (.int .i64 x530000_1) := (blk_cell BK529.out 0).trans rfl
                                    have hcz27_1 : wc.cell? ⟨gb529, 1, none⟩ = some (.int .i64 x530001_1) := (blk_cell BK529.out 1).trans rfl
                                    have hcz27_2 : wc.cell? ⟨gb529, 2, none⟩ = some (.int .i64 x530002_1) := (blk_cell BK529.out 2).trans rfl
                                    have hfz27_0 := blk_frozen BK529.out 0
                                    have hfz27_1 := blk_frozen BK529.out 1
                                    have hfz27_2 := blk_frozen BK529.out 2
                                    go_wp2
                                    go_ret3
                                    exact ⟨_, by first | rfl | (simp [errW_none, errW_some] <;> rfl) | (simp [*, errW_none, errW_some] <;> rfl), Kd.R_V (by first | exact Kd.R_nil _ _ _ 0 _ | exact Kd.R_nil _ _ _ _ _ | exact Kd.N_nil _ _ _ _ _ | exact Kd.V_nil _ _ _ _ _ | exact Kd.Q_nil _ _ _ _ _ | exact Kd.S_nil _ _ _ _ _), by repeat (first | (with_reducible first | exact HB.out | apply below_alloc | apply pw_below_drewN | apply below_drew1 | refine below_set ?_ GE529.out) | exact HB.out)⟩
                                  · rw [if_neg c26] at H
                                    have c26b0 : ((wrap64 (rd l0 x8_9)) == x530002_1) = false := beq_eq_false_iff_ne.mpr c26
                                    have c26b1 : ((wrap64 (rd l0 x8_9)) != x530002_1) = true := bne_iff_ne.mpr c26
                                    by_cases c28 : x10_1.length < 5864062014805
                                    · rw [if_pos c28] at H
                                      have LMc28 := Aside0.mk c28
                                      clear c28
                                      obtain ⟨y540, hy540⟩ : ∃ y_ : List (S43), y_ = (x10_1 ++ [(⟨wrap64 ((wrap64 (x530001_1 + 1)) + (wrap64 (t533))), wrap64 ((wrap64 ((wrap64 (x530001_1 + 1)) + (wrap64 (t533)))) + (wrap64 (x13_9))), wrap64 (rd l0 x8_9)⟩ : S43)]) := ⟨_, rfl⟩
                                      replace H : (span_Take.l0 kj9 l0 (wrap64 (x8_9 + 1)) y540 (wrap64 (t526)) (wrap64 (x32_1 + 1)) (wrap64 ((wrap64 (x530001_1 + 1)) + (wrap64 (t533)))) (wrap64 ((wrap64 ((wrap64 (x530001_1 + 1)) + (wrap64 (t533)))) + (wrap64 (x13_9)))) (wrap64 (rd l0 x8_9))) = some (r1, r2, r3) := by first | (rw [hy540]; with_reducible exact H) | (have H2_ := (Option.bind_some _ _).symm.trans H; rw [hy540]; with_reducible exact H2_) | (have H2_ := (Option.bind_some _ _).symm.trans H; with_reducible exact H2_) | with_reducible exact H | (rw [hy540]; exact H) | exact H
                                      have Ny540 := Aside0.mk hy540
                                      clear hy540
                                      have H' := Aside0.mk H
                                      clear H
                                      have p539 : 0 ≤ (x8_9 : Int) := of_decide_eq_true (by first | (with_reducible assumption) | assumption)
                                      have q539 : x8_9 < (l0.length : Int) := of_decide_eq_true (by first | (with_reducible assumption) | assumption)
                                      obtain ⟨ad539, e539, hx539_0⟩ := Kd.at_int HR0.out x8_9 p539 q539
                                      cases e539
                                      replace hx539_0 := (HB.out.cell (World.block_lt_of_cell? w _ hx539_0)).trans hx539_0
                                      replace p539 := eq_true p539
                                      replace q539 := eq_true q539
                                      have hcz29_0 : wc.cell? ⟨gb529, 0, none⟩ = some (.int .i64 x530000_1) := (blk_cell BK529.out 0).trans rfl
                                      have hcz29_1 : wc.cell? ⟨gb529, 1, none⟩ = some (.int .i64 x530001_1) := (blk_cell BK529.out 1).trans rfl
                                      have hcz29_2 : wc.cell? ⟨gb529, 2, none⟩ = some (.int .i64 x530002_1) := (blk_cell BK529.out 2).trans rfl
                                      have hfz29_0 := blk_frozen BK529.out 0
                                      have hfz29_1 := blk_frozen BK529.out 1
                                      have hfz29_2 := blk_frozen BK529.out 2
                                      go_wp2_with (first | ((with_reducible refine gate_builtin (b := .append) (xs := #[.tmp 111, .tmp 113]) rfl ?_); at_builtin; refine Kd.R_append k43 (w0 := w) w.heap.size rfl (.tmp 111) (.tmp 113) 22 43 (.agg #[(.int .i64 0), (.int .i64 0), (.int .i64 0)]) 24 rfl Try.underlying22 info43 rfl (by decide) (by omega) u10 x10_1 (⟨wrap64 ((wrap64 (x530001_1 + 1)) + (wrap64 (t533))), wrap64 ((wrap64 ((wrap64 (x530001_1 + 1)) + (wrap64 (t533)))) + (wrap64 (x13_9))), wrap64 (rd l0 x8_9)⟩ : S43) [.int .i64 (wrap64 ((wrap64 (x530001_1 + 1)) + (wrap64 (t533)))), .int .i64 (wrap64 ((wrap64 ((wrap64 (x530001_1 + 1)) + (wrap64 (t533)))) + (wrap64 (x13_9)))), .int .i64 (wrap64 (rd l0 x8_9))] (fun k_ => (w.heap.size ≤ k_) ∧ k_ ≠ gb529) (fun _ => False) rfl (by first | (go_simp; done) | (go_simp; rfl)) ?aP (fun _ hk => hk.elim) ?aF ?aO ?aB ?aS ?aL ?_; (case aP => exact k43_mkM _ _ _ (⟨wrap64 ((wrap64 (x530001_1 + 1)) + (wrap64 (t533))), wrap64 ((wrap64 ((wrap64 (x530001_1 + 1)) + (wrap64 (t533)))) + (wrap64 (x13_9))), wrap64 (rd l0 x8_9)⟩ : S43)); (case aB => exact (by repeat (first | (with_reducible first | exact HB.out | apply below_alloc | apply pw_below_drewN | apply below_drew1 | refine below_set ?_ GE529.out) | exact HB.out))); (case aF => exact (fun k_ hk => ⟨(Nat.le_trans (below_size (by repeat (first | (with_reducible first | exact HB.out | apply below_alloc | apply pw_below_drewN | apply below_drew1 | refine below_set ?_ GE529.out) | exact HB.out))) hk), Kd.freshB (g := gb529) (o := .cells #[.int .i64 (wrap64 ((wrap64 (x530001_1 + 1)) + (wrap64 (t533)))), .int .i64 (wrap64 ((wrap64 ((wrap64 (x530001_1 + 1)) + (wrap64 (t533)))) + (wrap64 (x13_9)))), .int .i64 (wrap64 (rd l0 x8_9))] 43 (0, 0)) (by (with_reducible repeat (first | refine blk_drewN ?_ _ | refine blk_drew ?_ | refine blk_alloc ?_ _)); refine blk_put (cs := #[.int .i64 (wrap64 ((wrap64 (x530001_1 + 1)) + (wrap64 (t533)))), .int .i64 (wrap64 ((wrap64 ((wrap64 (x530001_1 + 1)) + (wrap64 (t533)))) + (wrap64 (x13_9)))), .int .i64 x530002_1]) ?_ 2 _ rfl; (with_reducible repeat (first | refine blk_drewN ?_ _ | refine blk_drew ?_ | refine blk_alloc ?_ _)); refine blk_put (cs := #[.int .i64 (wrap64 ((wrap64 (x530001_1 + 1)) + (wrap64 (t533)))), .int .i64 x530001_1, .int .i64 x530002_1]) ?_ 1 _ rfl; (with_reducible repeat (first | refine blk_drewN ?_ _ | refine blk_drew ?_ | refine blk_alloc ?_ _)); refine blk_put (cs := #[.int .i64 x530000_1, .int .i64 x530001_1, .int .i64 x530002_1]) ?_ 0 _ rfl; (with_reducible repeat (first | refine blk_drewN ?_ _ | refine blk_drew ?_ | refine blk_alloc ?_ _)); exact BK529.out) k_ hk⟩)); (case aO => exact (by (with_reducible repeat (first | apply Kd.R_alloc | apply Kd.R_drewN | apply Kd.R_drew)); exact Kd.R_mono (Kd.R_far (p := ⟨gb529, 2, none⟩) (Kd.R_far (p := ⟨gb529, 1, none⟩) (Kd.R_far (p := ⟨gb529, 0, none⟩) (Kd.R_mono HO_10.out (fun k_ hk => (⟨hk, hk.2⟩ : _ ∧ k_ ≠ gb529))) (fun _ hk => hk.2) (.int .i64 (wrap64 ((wrap64 (x530001_1 + 1)) + (wrap64 (t533)))))) (fun _ hk => hk.2) (.int .i64 (wrap64 ((wrap64 ((wrap64 (x530001_1 + 1)) + (wrap64 (t533)))) + (wrap64 (x13_9)))))) (fun _ hk => hk.2) (.int .i64 (wrap64 (rd l0 x8_9)))) (fun _ hk => ⟨hk.1.1, hk.1.2⟩))); (case aS => exact (below_size (by repeat (first | (with_reducible first | exact HB.out | apply below_alloc | apply pw_below_drewN | apply below_drew1 | refine below_set ?_ GE529.out) | exact HB.out)))); (case aL => have := LMc28.out; omega); intro v541 w30 ho hb hg hat; rw [← Ny540.out] at ho; have n0_ := Aside0.mk (blk_grown (g := gb529) (o := .cells #[.int .i64 (wrap64 ((wrap64 (x530001_1 + 1)) + (wrap64 (t533)))), .int .i64 (wrap64 ((wrap64 ((wrap64 (x530001_1 + 1)) + (wrap64 (t533)))) + (wrap64 (x13_9)))), .int .i64 (wrap64 (rd l0 x8_9))] 43 (0, 0)) (by (with_reducible repeat (first | refine blk_drewN ?_ _ | refine blk_drew ?_ | refine blk_alloc ?_ _)); refine blk_put (cs := #[.int .i64 (wrap64 ((wrap64 (x530001_1 + 1)) + (wrap64 (t533)))), .int .i64 (wrap64 ((wrap64 ((wrap64 (x530001_1 + 1)) + (wrap64 (t533)))) + (wrap64 (x13_9)))), .int .i64 x530002_1]) ?_ 2 _ rfl; (with_reducible repeat (first | refine blk_drewN ?_ _ | refine blk_drew ?_ | refine blk_alloc ?_ _)); refine blk_put (cs := #[.int .i64 (wrap64 ((wrap64 (x530001_1 + 1)) + (wrap64 (t533)))), .int .i64 x530001_1, .int .i64 x530002_1]) ?_ 1 _ rfl; (with_reducible repeat (first | refine blk_drewN ?_ _ | refine blk_drew ?_ | refine blk_alloc ?_ _)); refine blk_put (cs := #[.int .i64 x530000_1, .int .i64 x530001_1, .int .i64 x530002_1]) ?_ 0 _ rfl; (with_reducible repeat (first | refine blk_drewN ?_ _ | refine blk_drew ?_ | refine blk_alloc ?_ _)); exact BK529.out) hg (Kd.R_away HO_10.out (fun _ hk => hk.2))); have n1_ := Aside0.mk (hb); have n2_ := Aside0.mk (ho); clear BK529; clear HB; clear HO_10; have BK529 := n0_; have HB := n1_; have HO542 := n2_; clear n0_ n1_ n2_; clear ho hb hg hat))
                                      go_roundg kj9
                                      case measure => have := HK1.out; have := HJ9.out; omega
                                      case rel => exact ⟨(wrap64 (x8_9 + 1)), (y540), (wrap64 (x32_1 + 1)), (wrap64 ((wrap64 (x530001_1 + 1)) + (wrap64 (t533)))), (wrap64 ((wrap64 ((wrap64 (x530001_1 + 1)) + (wrap64 (t533)))) + (wrap64 (x13_9)))), (wrap64 (rd l0 x8_9)), (by first | rfl | (simp; done) | (simp [*]; done)), (by first | rfl | (simp; done) | (simp [*]; done)), H', ⟨by have := HK1.out; have := HJ9.out; omega⟩, ⟨by (with_reducible repeat (first | apply Kd.R_alloc | apply Kd.R_drewN | apply Kd.R_drew)); exact HO542.out⟩, ⟨by (with_reducible repeat (first | refine blk_drewN ?_ _ | refine blk_drew ?_ | refine blk_alloc ?_ _)); exact BK529.out⟩, ⟨by repeat (first | (with_reducible first | exact HB.out | apply below_alloc | apply pw_below_drewN | apply below_drew1 | refine below_set ?_ GE529.out) | exact HB.out)⟩⟩
                                    · rw [if_neg c28] at H
                                      exact absurd H (by simp)
                                · rw [if_neg c25] at H
                                  have c25b0 : (t533 == 0) = false := beq_eq_false_iff_ne.mpr c25
                                  have c25b1 : (t533 != 0) = true := bne_iff_ne.mpr c25
                                  by_cases c31 : x10_1.length < 5864062014805
                                  · rw [if_pos c31] at H
                                    have LMc31 := Aside0.mk c31
                                    clear c31
                                    obtain ⟨y543, hy543⟩ : ∃ y_ : List (S43), y_ = (x10_1 ++ [(⟨wrap64 ((wrap64 (x530001_1 + 1)) + (wrap64 (t533))), wrap64 ((wrap64 ((wrap64 (x530001_1 + 1)) + (wrap64 (t533)))) + (wrap64 (x13_9))), wrap64 (rd l0 x8_9)⟩ : S43)]) := ⟨_, rfl⟩
                                    replace H : (span_Take.l0 kj9 l0 (wrap64 (x8_9 + 1)) y543 (wrap64 (t526)) (wrap64 (x32_1 + 1)) (wrap64 ((wrap64 (x530001_1 + 1)) + (wrap64 (t533)))) (wrap64 ((wrap64 ((wrap64 (x530001_1 + 1)) + (wrap64 (t533)))) + (wrap64 (x13_9)))) (wrap64 (rd l0 x8_9))) = some (r1, r2, r3) := by first | (rw [hy543]; with_reducible exact H) | (have H2_ := (Option.bind_some _ _).symm.trans H; rw [hy543]; with_reducible exact H2_) | (have H2_ := (Option.bind_some _ _).symm.trans H; with_reducible exact H2_) | with_reducible exact H | (rw [hy543]; exact H) | exact H
                                    have Ny543 := Aside0.mk hy543
                                    clear hy543
                                    have H' := Aside0.mk H
                                    clear H
                                    have p539 : 0 ≤ (x8_9 : Int) := of_decide_eq_true (by first | (with_reducible assumption) | assumption)
                                    have q539 : x8_9 < (l0.length : Int) := of_decide_eq_true (by first | (with_reducible assumption) | assumption)
                                    obtain ⟨ad539, e539, hx539_0⟩ := Kd.at_int HR0.out x8_9 p539 q539
                                    cases e539
                                    replace hx539_0 := (HB.out.cell (World.block_lt_of_cell? w _ hx539_0)).trans hx539_0
                                    replace p539 := eq_true p539
                                    replace q539 := eq_true q539
                                    have hcz32_0 : wc.cell? ⟨gb529, 0, none⟩ = some (.int .i64 x530000_1) := (blk_cell BK529.out 0).trans rfl
                                    have hcz32_1 : wc.cell? ⟨gb529, 1, none⟩ = some (.int .i64 x530001_1) := (blk_cell BK529.out 1).trans rfl
                                    have hcz32_2 : wc.cell? ⟨gb529, 2, none⟩ = some (.int .i64 x530002_1) := (blk_cell BK529.out 2).trans rfl
                                    have hfz32_0 := blk_frozen BK529.out 0
                                    have hfz32_1 := blk_frozen BK529.out 1
                                    have hfz32_2 := blk_frozen BK529.out 2
                                    go_wp2_with (first | ((with_reducible refine gate_builtin (b := .append) (xs := #[.tmp 111, .tmp 113]) rfl ?_); at_builtin; refine Kd.R_append k43 (w0 := w) w.heap.size rfl (.tmp 111) (.tmp 113) 22 43 (.agg #[(.int .i64 0), (.int .i64 0), (.int .i64 0)]) 24 rfl Try.underlying22 info43 rfl (by decide) (by omega) u10 x10_1 (⟨wrap64 ((wrap64 (x530001_1 + 1)) + (wrap64 (t533))), wrap64 ((wrap64 ((wrap64 (x530001_1 + 1)) + (wrap64 (t533)))) + (wrap64 (x13_9))), wrap64 (rd l0 x8_9)⟩ : S43) [.int .i64 (wrap64 ((wrap64 (x530001_1 + 1)) + (wrap64 (t533)))), .int .i64 (wrap64 ((wrap64 ((wrap64 (x530001_1 + 1)) + (wrap64 (t533)))) + (wrap64 (x13_9)))), .int .i64 (wrap64 (rd l0 x8_9))] (fun k_ => (w.heap.size ≤ k_) ∧ k_ ≠ gb529) (fun _ => False) rfl (by first | (go_simp; done) | (go_simp; rfl)) ?aP (fun _ hk => hk.elim) ?aF ?aO ?aB ?aS ?aL ?_; (case aP => exact k43_mkM _ _ _ (⟨wrap64 ((wrap64 (x530001_1 + 1)) + (wrap64 (t533))), wrap64 ((wrap64 ((wrap64 (x530001_1 + 1)) + (wrap64 (t533)))) + (wrap64 (x13_9))), wrap64 (rd l0 x8_9)⟩ : S43)); (case aB => exact (by repeat (first | (with_reducible first | exact HB.out | apply below_alloc | apply pw_below_drewN | apply below_drew1 | refine below_set ?_ GE529.out) | exact HB.out))); (case aF => exact (fun k_ hk => ⟨(Nat.le_trans (below_size (by repeat (first | (with_reducible first | exact HB.out | apply below_alloc | apply pw_below_drewN | apply below_drew1 | refine below_set ?_ GE529.out) | exact HB.out))) hk), Kd.freshB (g := gb529) (o := .cells #[.int .i64 (wrap64 ((wrap64 (x530001_1 + 1)) + (wrap64 (t533)))), .int .i64 (wrap64 ((wrap64 ((wrap64 (x530001_1 + 1)) + (wrap64 (t533)))) + (wrap64 (x13_9)))), .int .i64 (wrap64 (rd l0 x8_9))] 43 (0, 0)) (by (with_reducible repeat (first | refine blk_drewN ?_ _ | refine blk_drew ?_ | refine blk_alloc ?_ _)); refine blk_put (cs := #[.int .i64 (wrap64 ((wrap64 (x530001_1 + 1)) + (wrap64 (t533)))), .int .i64 (wrap64 ((wrap64 ((wrap64 (x530001_1 + 1)) + (wrap64 (t533)))) + (wrap64 (x13_9)))), .int .i64 x530002_1]) ?_ 2 _ rfl; (with_reducible repeat (first | refine blk_drewN ?_ _ | refine blk_drew ?_ | refine blk_alloc ?_ _)); refine blk_put (cs := #[.int .i64 (wrap64 ((wrap64 (x530001_1 + 1)) + (wrap64 (t533)))), .int .i64 x530001_1, .int .i64 x530002_1]) ?_ 1 _ rfl; (with_reducible repeat (first | refine blk_drewN ?_ _ | refine blk_drew ?_ | refine blk_alloc ?_ _)); refine blk_put (cs := #[.int .i64 x530000_1, .int .i64 x530001_1, .int .i64 x530002_1]) ?_ 0 _ rfl; (with_reducible repeat (first | refine blk_drewN ?_ _ | refine blk_drew ?_ | refine blk_alloc ?_ _)); exact BK529.out) k_ hk⟩)); (case aO => exact (by (with_reducible repeat (first | apply Kd.R_alloc | apply Kd.R_drewN | apply Kd.R_drew)); exact Kd.R_mono (Kd.R_far (p := ⟨gb529, 2, none⟩) (Kd.R_far (p := ⟨gb529, 1, none⟩) (Kd.R_far (p := ⟨gb529, 0, none⟩) (Kd.R_mono HO_10.out (fun k_ hk => (⟨hk, hk.2⟩ : _ ∧ k_ ≠ gb529))) (fun _ hk => hk.2) (.int .i64 (wrap64 ((wrap64 (x530001_1 + 1)) + (wrap64 (t533)))))) (fun _ hk => hk.2) (.int .i64 (wrap64 ((wrap64 ((wrap64 (x530001_1 + 1)) + (wrap64 (t533)))) + (wrap64 (x13_9)))))) (fun _ hk => hk.2) (.int .i64 (wrap64 (rd l0 x8_9)))) (fun _ hk => ⟨hk.1.1, hk.1.2⟩))); (case aS => exact (below_size (by repeat (first | (with_reducible first | exact HB.out | apply below_alloc | apply pw_below_drewN | apply below_drew1 | refine below_set ?_ GE529.out) | exact HB.out)))); (case aL => have := LMc31.out; omega); intro v544 w33 ho hb hg hat; rw [← Ny543.out] at ho; have n0_ := Aside0.mk (blk_grown (g := gb529) (o := .cells #[.int .i64 (wrap64 ((wrap64 (x530001_1 + 1)) + (wrap64 (t533)))), .int .i64 (wrap64 ((wrap64 ((wrap64 (x530001_1 + 1)) + (wrap64 (t533)))) + (wrap64 (x13_9)))), .int .i64 (wrap64 (rd l0 x8_9))] 43 (0, 0)) (by (with_reducible repeat (first | refine blk_drewN ?_ _ | refine blk_drew ?_ | refine blk_alloc ?_ _)); refine blk_put (cs := #[.int .i64 (wrap64 ((wrap64 (x530001_1 + 1)) + (wrap64 (t533)))), .int .i64 (wrap64 ((wrap64 ((wrap64 (x530001_1 + 1)) + (wrap64 (t533)))) + (wrap64 (x13_9)))), .int .i64 x530002_1]) ?_ 2 _ rfl; (with_reducible repeat (first | refine blk_drewN ?_ _ | refine blk_drew ?_ | refine blk_alloc ?_ _)); refine blk_put (cs := #[.int .i64 (wrap64 ((wrap64 (x530001_1 + 1)) + (wrap64 (t533)))), .int .i64 x530001_1, .int .i64 x530002_1]) ?_ 1 _ rfl; (with_reducible repeat (first | refine blk_drewN ?_ _ | refine blk_drew ?_ | refine blk_alloc ?_ _)); refine blk_put (cs := #[.int .i64 x530000_1, .int .i64 x530001_1, .int .i64 x530002_1]) ?_ 0 _ rfl; (with_reducible repeat (first | refine blk_drewN ?_ _ | refine blk_drew ?_ | refine blk_alloc ?_ _)); exact BK529.out) hg (Kd.R_away HO_10.out (fun _ hk => hk.2))); have n1_ := Aside0.mk (hb); have n2_ := Aside0.mk (ho); clear BK529; clear HB; clear HO_10; have BK529 := n0_; have HB := n1_; have HO545 := n2_; clear n0_ n1_ n2_; clear ho hb hg hat))
                                    go_roundg kj9
                                    case measure => have := HK1.out; have := HJ9.out; omega
                                    case rel => exact ⟨(wrap64 (x8_9 + 1)), (y543), (wrap64 (x32_1 + 1)), (wrap64 ((wrap64 (x530001_1 + 1)) + (wrap64 (t533)))), (wrap64 ((wrap64 ((wrap64 (x530001_1 + 1)) + (wrap64 (t533)))) + (wrap64 (x13_9)))), (wrap64 (rd l0 x8_9)), (by first | rfl | (simp; done) | (simp [*]; done)), (by first | rfl | (simp; done) | (simp [*]; done)), H', ⟨by have := HK1.out; have := HJ9.out; omega⟩, ⟨by (with_reducible repeat (first | apply Kd.R_alloc | apply Kd.R_drewN | apply Kd.R_drew)); exact HO545.out⟩, ⟨by (with_reducible repeat (first | refine blk_drewN ?_ _ | refine blk_drew ?_ | refine blk_alloc ?_ _)); exact BK529.out⟩, ⟨by repeat (first | (with_reducible first | exact HB.out | apply below_alloc | apply pw_below_drewN | apply below_drew1 | refine below_set ?_ GE529.out) | exact HB.out)⟩⟩
                                  · rw [if_neg c31] at H
                                    exact absurd H (by simp)
                      · rw [if_neg c16] at H
                        exact absurd H (by simp)
                    · rw [if_neg c15] at H
                      exact absurd H (by simp)
                · rw [if_neg c13] at H
                  have c13b0 : (x9_9 == 0) = false := beq_eq_false_iff_ne.mpr c13
                  have c13b1 : (x9_9 != 0) = true := bne_iff_ne.mpr c13
                  simp only [Option.some.injEq, Prod.mk.injEq] at H
                  obtain ⟨rfl, rfl, rfl⟩ := H
                  go_wp2
                  go_ret3
                  exact ⟨_, by first | rfl | (simp [errW_none, errW_some] <;> rfl) | (simp [*, errW_none, errW_some] <;> rfl), Kd.R_V (by first | exact Kd.R_nil _ _ _ 0 _ | exact Kd.R_nil _ _ _ _ _ | exact Kd.N_nil _ _ _ _ _ | exact Kd.V_nil _ _ _ _ _ | exact Kd.Q_nil _ _ _ _ _ | exact Kd.S_nil _ _ _ _ _), by repeat (first | (with_reducible first | exact HB.out | apply below_alloc | apply pw_below_drewN | apply below_drew1 | refine below_set ?_ GE529.out) | exact HB.out)⟩
          · rw [if_neg c8] at H
            have c8b0 : decide (x32_1 < (wrap64 (t526))) = false := decide_eq_false c8
            clear c8
            replace H := Option.bind_eq_some_iff.mp H
            obtain ⟨t530, A340, H⟩ := H
            replace H : (some (t530, x8_1, 0)) = some (r1, r2, r3) := H
            have A34 := Aside0.mk A340
            clear A340
            simp only [Option.some.injEq, Prod.mk.injEq] at H
            obtain ⟨rfl, rfl, rfl⟩ := H
            obtain ⟨Ao35, co35, eo35⟩ := Kd.R_slice HO_10.out
            subst eo35
            go_wp2_with (first | ((with_reducible refine gate_callee (f := 75) rfl ?_); refine goesL_ (some 117) rfl rfl Try.func75 (by kernel_rfl) rfl #[.slice Ao35 x10_1.length co35] rfl (by (try simp only [List.map_toArray, List.map_cons, List.map_nil]); first | done | rfl | (simp only [List.length_drop, List.length_take]; rfl)) ?_; (with_reducible refine (api_Span.calls (fun k_ => some k_ = (.slice Ao35 x10_1.length co35 : Value).ownBlock) _ _ x10_1 t530 _ ?side1 A34.out).mono ?_); (case side1 => exact Kd.R_V (Kd.R_tight rfl (HO_10.out))); rintro e w36 ⟨v531, rfl, ho0, hb⟩; refine ⟨_, rfl, ?_⟩; have n0_ := Aside0.mk (Kd.R_below (by (with_reducible repeat (first | apply Kd.R_alloc | apply Kd.R_drewN | apply Kd.R_drew)); exact HO_10.out) hb); have n1_ := Aside0.mk (Kd.V_lower (Kd.V_mono (ok' := fun k_ => (w.heap.size ≤ k_) ∧ k_ ≠ gb529) ho0 (fun k_ hk_ => ⟨Or.elim hk_ (fun hs_ => ((HO_10.out).1 k_ hs_.symm).1) (fun hn_ => (Nat.le_trans (below_size (by repeat (first | (with_reducible first | exact HB.out | apply below_alloc | apply pw_below_drewN | apply below_drew1 | refine below_set ?_ GE529.out) | exact HB.out))) hn_)), Or.elim hk_ (fun hs_ => ((HO_10.out).1 k_ hs_.symm).2) (fun hn_ => (Kd.freshB (g := gb529) (o := .cells #[.int .i64 x530000_1, .int .i64 x530001_1, .int .i64 x530002_1] 43 (0, 0)) (by (with_reducible repeat (first | refine blk_drewN ?_ _ | refine blk_drew ?_ | refine blk_alloc ?_ _)); exact BK529.out) k_ hn_))⟩)) (below_size (by repeat (first | (with_reducible first | exact HB.out | apply below_alloc | apply pw_below_drewN | apply below_drew1 | refine below_set ?_ GE529.out) | exact HB.out)))); have n2_ := Aside0.mk (blk_below (g := gb529) (o := .cells #[.int .i64 x530000_1, .int .i64 x530001_1, .int .i64 x530002_1] 43 (0, 0)) (by (with_reducible repeat (first | refine blk_drewN ?_ _ | refine blk_drew ?_ | refine blk_alloc ?_ _)); exact BK529.out) hb); have n3_ := Aside0.mk (below_step (by repeat (first | (with_reducible first | exact HB.out | apply below_alloc | apply pw_below_drewN | apply below_drew1 | refine below_set ?_ GE529.out) | exact HB.out)) hb); clear HO_10; clear BK529; clear HB; have HO_10 := n0_; have HO532 := n1_; have BK529 := n2_; have HB := n3_; clear n0_ n1_ n2_ n3_; (try clear hb); (try clear hb2); (try clear hk); (try clear hi); (try clear ho0)))
            go_ret3
            exact ⟨_, by first | rfl | (simp [errW_none, errW_some] <;> rfl) | (simp [*, errW_none, errW_some] <;> rfl), by (with_reducible repeat (first | apply Kd.V_alloc | apply Kd.V_drewN | apply Kd.V_drew)); exact Kd.V_mono HO532.out (fun _ hk => hk.1), by repeat (first | (with_reducible first | exact HB.out | apply below_alloc | apply pw_below_drewN | apply below_drew1 | refine below_set ?_ GE529.out) | exact HB.out)⟩
  · rw [if_neg c4] at H
    have c4b0 : (t528 == 0) = false := beq_eq_false_iff_ne.mpr c4
    have c4b1 : (t528 != 0) = true := bne_iff_ne.mpr c4
    simp only [Option.some.injEq, Prod.mk.injEq] at H
    obtain ⟨rfl, rfl, rfl⟩ := H
    go_enter Try.func50, Try.ntmps50
    go_wp2_with (first | ((with_reducible refine gate_callee (f := 74) rfl ?_); refine goesL_ (some 20) rfl rfl Try.func74 (by kernel_rfl) rfl #[.slice A0 l0.length c0, .int .i64 a1] rfl (by (try simp only [List.map_toArray, List.map_cons, List.map_nil]); first | done | rfl | (simp only [List.length_drop, List.length_take]; rfl)) ?_; (with_reducible refine (octet_TakeUint.calls k _ _ l0 a1 t526 t527 t528 _ ?side1 ?side2 A3.out).mono ?_); (case side1 => repeat (first | exact HR0.out | (with_reducible refine Kd.C_alloc ?_ _) | (with_reducible refine Kd.C_drewN ?_ _) | (with_reducible refine Kd.C_drew ?_))); (case side2 => exact HC0.out); rintro e w' ⟨rfl, ⟨nd, rfl⟩⟩; refine ⟨_, rfl, ?_⟩))
    go_ret3
    exact ⟨_, by first | rfl | (simp [errW_none, errW_some] <;> rfl) | (simp [*, errW_none, errW_some] <;> rfl), Kd.R_V (by first | exact Kd.R_nil _ _ _ 0 _ | exact Kd.R_nil _ _ _ _ _ | exact Kd.N_nil _ _ _ _ _ | exact Kd.V_nil _ _ _ _ _ | exact Kd.Q_nil _ _ _ _ _ | exact Kd.S_nil _ _ _ _ _), by repeat (first | (with_reducible first | exact HB.out | apply below_alloc | apply pw_below_drewN | apply below_drew1) | exact HB.out)⟩

end Go.Proofs.Ytpeacoppclmmlaa.PS
