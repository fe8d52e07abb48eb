-- PRINTED by gprint.py (a session's own driver over the kit's print): not trusted; Lean checks it.
import Derived.Test.YtffefaiaifhokaaSOPTx0
import Derived.Test.YtffefaiaifhokaaSOPTx2
import Derived.Test.YtffefaiaifhokaaSOPTx4
namespace Go.Proofs.Ytffefaiaifhokaa.PT
open Go.RowKit Go.Proofs.YtffefaiaifhokaaW.PrintWords Go.Proofs.YtffefaiaifhokaaW.PrintLast Go.Proofs.YtffefaiaifhokaaW.PrintMore
attribute [local go_sem] max2_int min2_int max_two min_two max_three min_three max_four min_four   -- for this text's walks alone
set_option linter.unusedVariables false
set_option linter.unusedSimpArgs false

/-! ### grapevinelaw15_bodies: function 9 -/
mutual
def grapevinelaw15_bodies.l0 : Nat → List (S33) → List (S33) → Int → Int → Option ((List (S33)))
 | 0, _, _, _, _ => none
 | k + 1, x0, x3, x4, x5 => if x5 < (x0.length : Int) then (grapevinelaw15_bodies.j1 k x0 x3 x4 x5 (decide (x5 < 8))) else (grapevinelaw15_bodies.j1 k x0 x3 x4 x5 false)
def grapevinelaw15_bodies.j1 : Nat → List (S33) → List (S33) → Int → Int → Bool → Option ((List (S33)))
 | 0, _, _, _, _, _ => none
 | k + 1, x0, x3, x4, x5, x15 => if x15 = true then (if 0 ≤ x5 then (if x5 < (x0.length : Int) then ((grapevinelaw15_owned.f k ((rd_T33 x0 x5).f0) ((rd_T33 x0 x5).f1) ((rd_T33 x0 x5).f2) ((rd_T33 x0 x5).f3) ((rd_T33 x0 x5).f4) ((rd_T33 x0 x5).f5) ((rd_T33 x0 x5).f6) ((rd_T33 x0 x5).f7)).bind fun bt153 => ((grapevineref13_Check.f k bt153.1 bt153.2.1 bt153.2.2.1 bt153.2.2.2.1 bt153.2.2.2.2.1 bt153.2.2.2.2.2.1 bt153.2.2.2.2.2.2.1 bt153.2.2.2.2.2.2.2).bind fun t166 => (if t166 = 0 then (if bt153.1 = 1 then (grapevinelaw15_bodies.j2 k x0 x3 x4 x5 (decide ((wrap64 (x4 + (bt153.2.2.2.2.2.2.2.length : Int))) > 64)) bt153.1 bt153.2.1 bt153.2.2.1 bt153.2.2.2.1 bt153.2.2.2.2.1 bt153.2.2.2.2.2.1 bt153.2.2.2.2.2.2.1 bt153.2.2.2.2.2.2.2) else (grapevinelaw15_bodies.j2 k x0 x3 x4 x5 true bt153.1 bt153.2.1 bt153.2.2.1 bt153.2.2.2.1 bt153.2.2.2.2.1 bt153.2.2.2.2.2.1 bt153.2.2.2.2.2.2.1 bt153.2.2.2.2.2.2.2)) else (grapevinelaw15_bodies.j2 k x0 x3 x4 x5 true bt153.1 bt153.2.1 bt153.2.2.1 bt153.2.2.2.1 bt153.2.2.2.2.1 bt153.2.2.2.2.2.1 bt153.2.2.2.2.2.2.1 bt153.2.2.2.2.2.2.2)))) else (none)) else (none)) else (some x3)
def grapevinelaw15_bodies.j2 : Nat → List (S33) → List (S33) → Int → Int → Bool → Int → Int → Int → Int → Int → Int → List (S38) → List (S42) → Option ((List (S33)))
 | 0, _, _, _, _, _, _, _, _, _, _, _, _, _ => none
 | k + 1, x0, x3, x4, x5, x38, x166000, x166001, x166002, x166003, x166004, x166005, x166006, x166007 => if x38 = true then (grapevinelaw15_bodies.l0 k x0 x3 x4 (wrap64 (x5 + 1))) else (grapevinelaw15_bodies.l1 k x0 x3 x4 x5 0 x166000 x166001 x166002 x166003 x166004 x166005 x166006 x166007)
def grapevinelaw15_bodies.l1 : Nat → List (S33) → List (S33) → Int → Int → Int → Int → Int → Int → Int → Int → Int → List (S38) → List (S42) → Option ((List (S33)))
 | 0, _, _, _, _, _, _, _, _, _, _, _, _, _ => none
 | k + 1, x0, x3, x4, x5, x7, x166000, x166001, x166002, x166003, x166004, x166005, x166006, x166007 => if x7 < (x166007.length : Int) then (if 0 ≤ x7 then (grapevinelaw15_bodies.l1 k x0 x3 x4 x5 (wrap64 (x7 + 1)) x166000 x166001 x166002 x166003 x166004 x166005 x166006 (x166007.set (x7 : Int).toNat (⟨(rd_T42 x166007 x7).f0, (rd_T42 x166007 x7).f1, (([((rd_T42 x166007 x7).f0) % 256, (((rd_T42 x166007 x7).f0) / 256) % 256] : List Int))⟩ : S42))) else (none)) else (if x3.length < 1466015503701 then (grapevinelaw15_bodies.l0 k x0 (x3 ++ [(⟨x166000, x166001, x166002, x166003, x166004, x166005, x166006, x166007⟩ : S33)]) (wrap64 (x4 + (x166007.length : Int))) (wrap64 (x5 + 1))) else (none))
end
def grapevinelaw15_bodies.f (k : Nat) (l0 : List (S33)) : Option ((List (S33))) := grapevinelaw15_bodies.l0 k l0 ([] : List (S33)) 0 0
theorem grapevinelaw15_bodies.mono_l : ∀ k, (∀ y0 y1 y2 y3, LeO (grapevinelaw15_bodies.l0 k y0 y1 y2 y3) (grapevinelaw15_bodies.l0 (k + 1) y0 y1 y2 y3)) ∧ (∀ y0 y1 y2 y3 y4, LeO (grapevinelaw15_bodies.j1 k y0 y1 y2 y3 y4) (grapevinelaw15_bodies.j1 (k + 1) y0 y1 y2 y3 y4)) ∧ (∀ y0 y1 y2 y3 y4 y5 y6 y7 y8 y9 y10 y11 y12, LeO (grapevinelaw15_bodies.j2 k y0 y1 y2 y3 y4 y5 y6 y7 y8 y9 y10 y11 y12) (grapevinelaw15_bodies.j2 (k + 1) y0 y1 y2 y3 y4 y5 y6 y7 y8 y9 y10 y11 y12)) ∧ (∀ y0 y1 y2 y3 y4 y5 y6 y7 y8 y9 y10 y11 y12, LeO (grapevinelaw15_bodies.l1 k y0 y1 y2 y3 y4 y5 y6 y7 y8 y9 y10 y11 y12) (grapevinelaw15_bodies.l1 (k + 1) y0 y1 y2 y3 y4 y5 y6 y7 y8 y9 y10 y11 y12))
 | 0 => ⟨fun _ _ _ _ r h => by simp [grapevinelaw15_bodies.l0] at h, fun _ _ _ _ _ r h => by simp [grapevinelaw15_bodies.j1] at h, fun _ _ _ _ _ _ _ _ _ _ _ _ _ r h => by simp [grapevinelaw15_bodies.j2] at h, fun _ _ _ _ _ _ _ _ _ _ _ _ _ r h => by simp [grapevinelaw15_bodies.l1] at h⟩
 | k + 1 => by
  obtain ⟨ih0, ih1, ih2, ih3⟩ := grapevinelaw15_bodies.mono_l k
  refine ⟨?_, ?_, ?_, ?_⟩
  ·
   intro y0 y1 y2 y3
   unfold grapevinelaw15_bodies.l0
   repeat' first
   | (with_reducible exact ih0 _ _ _ _)
   | (with_reducible exact ih1 _ _ _ _ _)
   | (with_reducible exact ih2 _ _ _ _ _ _ _ _ _ _ _ _ _)
   | (with_reducible exact ih3 _ _ _ _ _ _ _ _ _ _ _ _ _)
   | (with_reducible exact grapevinelaw15_owned.mono _ _ _ _ _ _ _ _ _)
   | (with_reducible exact grapevineref13_Check.mono _ _ _ _ _ _ _ _ _)
   | (with_reducible exact LeO.refl _)
   | (with_reducible exact LeO.none _)
   | (with_reducible refine LeO.ite ?_ ?_)
   | (with_reducible refine LeO.bind ?_ (fun _ => ?_))
   | exact ih0 _ _ _ _
   | exact ih1 _ _ _ _ _
   | exact ih2 _ _ _ _ _ _ _ _ _ _ _ _ _
   | exact ih3 _ _ _ _ _ _ _ _ _ _ _ _ _
   | exact grapevinelaw15_owned.mono _ _ _ _ _ _ _ _ _
   | exact grapevineref13_Check.mono _ _ _ _ _ _ _ _ _
   | exact LeO.none _
   | refine LeO.ite ?_ ?_
   | refine LeO.bind ?_ (fun _ => ?_)
  ·
   intro y0 y1 y2 y3 y4
   unfold grapevinelaw15_bodies.j1
   repeat' first
   | (with_reducible exact ih0 _ _ _ _)
   | (with_reducible exact ih1 _ _ _ _ _)
   | (with_reducible exact ih2 _ _ _ _ _ _ _ _ _ _ _ _ _)
   | (with_reducible exact ih3 _ _ _ _ _ _ _ _ _ _ _ _ _)
   | (with_reducible exact grapevinelaw15_owned.mono _ _ _ _ _ _ _ _ _)
   | (with_reducible exact grapevineref13_Check.mono _ _ _ _ _ _ _ _ _)
   | (with_reducible exact LeO.refl _)
   | (with_reducible exact LeO.none _)
   | (with_reducible refine LeO.ite ?_ ?_)
   | (with_reducible refine LeO.bind ?_ (fun _ => ?_))
   | exact ih0 _ _ _ _
   | exact ih1 _ _ _ _ _
   | exact ih2 _ _ _ _ _ _ _ _ _ _ _ _ _
   | exact ih3 _ _ _ _ _ _ _ _ _ _ _ _ _
   | exact grapevinelaw15_owned.mono _ _ _ _ _ _ _ _ _
   | exact grapevineref13_Check.mono _ _ _ _ _ _ _ _ _
   | exact LeO.none _
   | refine LeO.ite ?_ ?_
   | refine LeO.bind ?_ (fun _ => ?_)
  ·
   intro y0 y1 y2 y3 y4 y5 y6 y7 y8 y9 y10 y11 y12
   unfold grapevinelaw15_bodies.j2
   repeat' first
   | (with_reducible exact ih0 _ _ _ _)
   | (with_reducible exact ih1 _ _ _ _ _)
   | (with_reducible exact ih2 _ _ _ _ _ _ _ _ _ _ _ _ _)
   | (with_reducible exact ih3 _ _ _ _ _ _ _ _ _ _ _ _ _)
   | (with_reducible exact grapevinelaw15_owned.mono _ _ _ _ _ _ _ _ _)
   | (with_reducible exact grapevineref13_Check.mono _ _ _ _ _ _ _ _ _)
   | (with_reducible exact LeO.refl _)
   | (with_reducible exact LeO.none _)
   | (with_reducible refine LeO.ite ?_ ?_)
   | (with_reducible refine LeO.bind ?_ (fun _ => ?_))
   | exact ih0 _ _ _ _
   | exact ih1 _ _ _ _ _
   | exact ih2 _ _ _ _ _ _ _ _ _ _ _ _ _
   | exact ih3 _ _ _ _ _ _ _ _ _ _ _ _ _
   | exact grapevinelaw15_owned.mono _ _ _ _ _ _ _ _ _
   | exact grapevineref13_Check.mono _ _ _ _ _ _ _ _ _
   | exact LeO.none _
   | refine LeO.ite ?_ ?_
   | refine LeO.bind ?_ (fun _ => ?_)
  intro y0 y1 y2 y3 y4 y5 y6 y7 y8 y9 y10 y11 y12
  unfold grapevinelaw15_bodies.l1
  repeat' first
  | (with_reducible exact ih0 _ _ _ _)
  | (with_reducible exact ih1 _ _ _ _ _)
  | (with_reducible exact ih2 _ _ _ _ _ _ _ _ _ _ _ _ _)
  | (with_reducible exact ih3 _ _ _ _ _ _ _ _ _ _ _ _ _)
  | (with_reducible exact grapevinelaw15_owned.mono _ _ _ _ _ _ _ _ _)
  | (with_reducible exact grapevineref13_Check.mono _ _ _ _ _ _ _ _ _)
  | (with_reducible exact LeO.refl _)
  | (with_reducible exact LeO.none _)
  | (with_reducible refine LeO.ite ?_ ?_)
  | (with_reducible refine LeO.bind ?_ (fun _ => ?_))
  | exact ih0 _ _ _ _
  | exact ih1 _ _ _ _ _
  | exact ih2 _ _ _ _ _ _ _ _ _ _ _ _ _
  | exact ih3 _ _ _ _ _ _ _ _ _ _ _ _ _
  | exact grapevinelaw15_owned.mono _ _ _ _ _ _ _ _ _
  | exact grapevineref13_Check.mono _ _ _ _ _ _ _ _ _
  | exact LeO.none _
  | refine LeO.ite ?_ ?_
  | refine LeO.bind ?_ (fun _ => ?_)
theorem grapevinelaw15_bodies.mono : ∀ a0 k, LeO (grapevinelaw15_bodies.f k a0) (grapevinelaw15_bodies.f (k + 1) a0) := by
 intro a0 k
 obtain ⟨ih0, ih1, ih2, ih3⟩ := grapevinelaw15_bodies.mono_l k
 unfold grapevinelaw15_bodies.f
 repeat' first
  | (with_reducible exact ih0 _ _ _ _)
  | (with_reducible exact ih1 _ _ _ _ _)
  | (with_reducible exact ih2 _ _ _ _ _ _ _ _ _ _ _ _ _)
  | (with_reducible exact ih3 _ _ _ _ _ _ _ _ _ _ _ _ _)
  | (with_reducible exact grapevinelaw15_owned.mono _ _ _ _ _ _ _ _ _)
  | (with_reducible exact grapevineref13_Check.mono _ _ _ _ _ _ _ _ _)
  | (with_reducible exact LeO.refl _)
  | (with_reducible exact LeO.none _)
  | (with_reducible refine LeO.ite ?_ ?_)
  | (with_reducible refine LeO.bind ?_ (fun _ => ?_))
  | exact ih0 _ _ _ _
  | exact ih1 _ _ _ _ _
  | exact ih2 _ _ _ _ _ _ _ _ _ _ _ _ _
  | exact ih3 _ _ _ _ _ _ _ _ _ _ _ _ _
  | exact grapevinelaw15_owned.mono _ _ _ _ _ _ _ _ _
  | exact grapevineref13_Check.mono _ _ _ _ _ _ _ _ _
  | exact LeO.none _
  | refine LeO.ite ?_ ?_
  | refine LeO.bind ?_ (fun _ => ?_)
def grapevinelaw15_bodies.T11 : Bool × List (List Nat × List Nat) := (true, [([], []), ([0], [0]), ([], []), ([], []), ([3], [3]), ([], []), ([4, 5], [4, 5]), ([6], [6]), ([7], [7]), ([8], [8]), ([], []), ([10], [10]), ([], []), ([11, 12], [11, 12]), ([13], [13]), ([14], [14]), ([15], [15]), ([16], [16]), ([9, 17], [9, 17]), ([1, 2, 0, 1, 2, 3, 4, 5, 6, 7, 8, 9, 10, 11, 12, 13, 14, 15, 16, 17, 18], [1, 2]), ([19, 0, 1, 2, 3, 4, 5, 6, 7, 8, 9, 10, 11, 12, 13, 14, 15, 16, 17, 18], [19]), ([20, 18, 0, 1, 2, 3, 4, 5, 6, 7, 8, 9, 10, 11, 12, 13, 14, 15, 16, 17, 18], [18, 20])])
def grapevinelaw15_bodies.B11 : List Nat := [0, 1, 0, 0, 8, 0, 56, 120, 248, 504, 0, 1024, 0, 7168, 15360, 31744, 64512, 130048, 262136, 524287, 1048575, 2097151]
theorem grapevinelaw15_bodies.tab11 : rtab .any (opsOf Try.f9 11) = grapevinelaw15_bodies.T11 := by kernel_rfl
theorem grapevinelaw15_bodies.bits11 : waitsOk grapevinelaw15_bodies.T11.2 grapevinelaw15_bodies.B11 = true := by kernel_rfl
set_option maxHeartbeats 8000000 in
set_option maxRecDepth 100000 in
theorem grapevinelaw15_bodies.calls (k : Nat) (A0 : Option Addr) (c0 : Nat) (l0 : List (S33)) (r : List (S33)) (w : World) (hr0 : Kd.C k33 w A0 l0.length l0) (hc0 : l0.length ≤ c0) (h : grapevinelaw15_bodies.f k l0 = some r) :
 Calls Try.prog 9 #[.slice A0 l0.length c0] w fun e w' => ∃ v0_ : Value, e = .returned (v0_) ∧ Kd.N k33 33 w' w.heap.size (fun k_ => (w.heap.size ≤ k_)) v0_ r ∧ Below w.heap.size w w' := by
 have hu33 := Try.underlying33
 have HR0 := Aside0.mk hr0
 have HC0 := Aside0.mk hc0
 clear hr0 hc0
 have HB := Aside0.mk (Below.refl w.heap.size w)
 have H : (grapevinelaw15_bodies.l0 k l0 ([] : List (S33)) 0 0) = some r := h
 clear h
 have H' := Aside0.mk H
 clear H
 go_enter Try.func9, Try.ntmps9
 go_wp2
 go_loopg [3, 4, 5] k (fun kq v3 v4 v5 w' => ∃ (x3_1 : List (S33)) (x4_1 : Int) (x5_1 : Int), v4 = .int .i64 x4_1 ∧ v5 = .int .i64 x5_1 ∧ Aside0 (grapevinelaw15_bodies.l0 kq l0 x3_1 x4_1 x5_1 = some r) ∧ Aside0 (kq ≤ k) ∧ Aside0 (Kd.N k33 33 w' w.heap.size (fun k_ => (w.heap.size ≤ k_)) v3 x3_1) ∧ Aside0 (Below w.heap.size w w'))
 case atStart => exact ⟨(([] : List (S33))), (0), (0), (by rfl), (by rfl), H', ⟨Nat.le_refl _⟩, ⟨by exact Kd.N_nil _ _ _ _ _⟩, ⟨by repeat (with_reducible exact HB.out)⟩⟩
 case round =>
  clear H'
  obtain ⟨x3_1, x4_1, x5_1, rfl, rfl, HA, HK1, HO_3, HB⟩ := hrel
  cases gk with
  | zero => exact absurd HA.out (by simp [grapevinelaw15_bodies.l0])
  | succ k1 =>
   have H := HA.out
   clear HA
   simp only [grapevinelaw15_bodies.l0] at H
   have HC2 := Aside0.mk H
   clear H
   go_upto_region 4 with (fail)
   go_cut [15] (fun v15 wc => ∃ (kq : Nat) (x15_1 : Bool), v15 = .bool x15_1 ∧ Aside0 (grapevinelaw15_bodies.j1 kq l0 x3_1 x4_1 x5_1 x15_1 = some r) ∧ Aside0 (kq ≤ k1) ∧ Aside0 (Kd.N k33 33 wc w.heap.size (fun k_ => (w.heap.size ≤ k_)) u3 x3_1) ∧ Aside0 (Below w.heap.size w wc))
   case first =>
    have H := HC2.out
    clear HC2
    by_cases c3 : x5_1 < (l0.length : Int)
    ·
     rw [if_pos c3] at H
     have c3b0 : decide (x5_1 < (l0.length : Int)) = true := decide_eq_true c3
     clear c3
     (skip)
     have H' := Aside0.mk H
     clear H
     go_wp2
     go_meet
     case rel => exact ⟨_, (decide (x5_1 < 8)), (by rfl), H', ⟨by have := HK1.out; omega⟩, ⟨by exact HO_3.out⟩, ⟨by repeat (with_reducible exact HB.out)⟩⟩
    rw [if_neg c3] at H
    have c3b0 : decide (x5_1 < (l0.length : Int)) = false := decide_eq_false c3
    clear c3
    (skip)
    have H' := Aside0.mk H
    clear H
    go_wp2
    go_meet
    case rel => exact ⟨_, (false), (by rfl), H', ⟨by have := HK1.out; omega⟩, ⟨by exact HO_3.out⟩, ⟨by repeat (with_reducible exact HB.out)⟩⟩
   case rest =>
    clear HC2
    try clear c3b0
    obtain ⟨kq, x15_1, rfl, HA, HJ1, HO_3, HB⟩ := hcut
    cases kq with
    | zero => exact absurd HA.out (by simp [grapevinelaw15_bodies.j1])
    | succ kj1 =>
     have H := HA.out
     clear HA
     simp only [grapevinelaw15_bodies.j1] at H
     by_cases c4 : x15_1 = true
     ·
      subst c4
      have H1 : (if 0 ≤ x5_1 then (if x5_1 < (l0.length : Int) then ((grapevinelaw15_owned.f kj1 ((rd_T33 l0 x5_1).f0) ((rd_T33 l0 x5_1).f1) ((rd_T33 l0 x5_1).f2) ((rd_T33 l0 x5_1).f3) ((rd_T33 l0 x5_1).f4) ((rd_T33 l0 x5_1).f5) ((rd_T33 l0 x5_1).f6) ((rd_T33 l0 x5_1).f7)).bind fun bt153 => ((grapevineref13_Check.f kj1 bt153.1 bt153.2.1 bt153.2.2.1 bt153.2.2.2.1 bt153.2.2.2.2.1 bt153.2.2.2.2.2.1 bt153.2.2.2.2.2.2.1 bt153.2.2.2.2.2.2.2).bind fun t166 => (if t166 = 0 then (if bt153.1 = 1 then (grapevinelaw15_bodies.j2 kj1 l0 x3_1 x4_1 x5_1 (decide ((wrap64 (x4_1 + (bt153.2.2.2.2.2.2.2.length : Int))) > 64)) bt153.1 bt153.2.1 bt153.2.2.1 bt153.2.2.2.1 bt153.2.2.2.2.1 bt153.2.2.2.2.2.1 bt153.2.2.2.2.2.2.1 bt153.2.2.2.2.2.2.2) else (grapevinelaw15_bodies.j2 kj1 l0 x3_1 x4_1 x5_1 true bt153.1 bt153.2.1 bt153.2.2.1 bt153.2.2.2.1 bt153.2.2.2.2.1 bt153.2.2.2.2.2.1 bt153.2.2.2.2.2.2.1 bt153.2.2.2.2.2.2.2)) else (grapevinelaw15_bodies.j2 kj1 l0 x3_1 x4_1 x5_1 true bt153.1 bt153.2.1 bt153.2.2.1 bt153.2.2.2.1 bt153.2.2.2.2.1 bt153.2.2.2.2.2.1 bt153.2.2.2.2.2.2.1 bt153.2.2.2.2.2.2.2)))) else (none)) else (none)) = some r := by rw [if_pos rfl] at H; exact H
      clear H
      have H := H1
      clear H1
      by_cases c5 : 0 ≤ x5_1
      ·
       rw [if_pos c5] at H
       have c5b0 : decide (0 ≤ x5_1) = true := decide_eq_true c5
       clear c5
       by_cases c6 : x5_1 < (l0.length : Int)
       ·
        rw [if_pos c6] at H
        have c6b0 : decide (x5_1 < (l0.length : Int)) = true := decide_eq_true c6
        clear c6
        replace H := Option.bind_eq_some_iff.mp H
        obtain ⟨⟨t153, t154, t155, t156, t157, t158, t159, t162⟩, A70, H⟩ := H
        replace H : ((grapevineref13_Check.f kj1 t153 t154 t155 t156 t157 t158 t159 t162).bind fun t166 => (if t166 = 0 then (if t153 = 1 then (grapevinelaw15_bodies.j2 kj1 l0 x3_1 x4_1 x5_1 (decide ((wrap64 (x4_1 + (t162.length : Int))) > 64)) t153 t154 t155 t156 t157 t158 t159 t162) else (grapevinelaw15_bodies.j2 kj1 l0 x3_1 x4_1 x5_1 true t153 t154 t155 t156 t157 t158 t159 t162)) else (grapevinelaw15_bodies.j2 kj1 l0 x3_1 x4_1 x5_1 true t153 t154 t155 t156 t157 t158 t159 t162))) = some r := H
        have A7 := Aside0.mk A70
        clear A70
        have HC8 := Aside0.mk H
        clear H
        have p152 : 0 ≤ (x5_1 : Int) := of_decide_eq_true (by (with_reducible assumption))
        have q152 : x5_1 < (l0.length : Int) := of_decide_eq_true (by (with_reducible assumption))
        obtain ⟨ad152, A152_6, c152_6, A152_7, c152_7, e152, hx152_0, hx152_1, hx152_2, hx152_3, hx152_4, hx152_5, hx152_6, hx152_7, hl152_6, hi152_6, hl152_7, hi152_7⟩ := at_T33 HR0.out x5_1 p152 q152
        cases e152
        replace hx152_0 := (HB.out.cell (World.block_lt_of_cell? w _ hx152_0)).trans hx152_0
        replace hx152_1 := (HB.out.cell (World.block_lt_of_cell? w _ hx152_1)).trans hx152_1
        replace hx152_2 := (HB.out.cell (World.block_lt_of_cell? w _ hx152_2)).trans hx152_2
        replace hx152_3 := (HB.out.cell (World.block_lt_of_cell? w _ hx152_3)).trans hx152_3
        replace hx152_4 := (HB.out.cell (World.block_lt_of_cell? w _ hx152_4)).trans hx152_4
        replace hx152_5 := (HB.out.cell (World.block_lt_of_cell? w _ hx152_5)).trans hx152_5
        replace hx152_6 := (HB.out.cell (World.block_lt_of_cell? w _ hx152_6)).trans hx152_6
        replace hx152_7 := (HB.out.cell (World.block_lt_of_cell? w _ hx152_7)).trans hx152_7
        have HR152_6 := Aside0.mk hi152_6
        have HC152_6 := Aside0.mk hl152_6
        clear hi152_6 hl152_6
        have HR152_7 := Aside0.mk hi152_7
        have HC152_7 := Aside0.mk hl152_7
        clear hi152_7 hl152_7
        replace p152 := eq_true p152
        replace q152 := eq_true q152
        go_upto_region 7 with (first | ((with_reducible refine gate_callee (f := 31) rfl ?_); refine goesL_ (some 22) rfl rfl Try.func31 (by kernel_rfl) rfl #[.agg #[.int .i64 ((rd_T33 l0 x5_1).f0), .int .i64 ((rd_T33 l0 x5_1).f1), .int .i64 ((rd_T33 l0 x5_1).f2), .int .i64 ((rd_T33 l0 x5_1).f3), .int .i64 ((rd_T33 l0 x5_1).f4), .int .i64 ((rd_T33 l0 x5_1).f5), .slice A152_6 ((rd_T33 l0 x5_1).f6).length c152_6, .slice A152_7 ((rd_T33 l0 x5_1).f7).length c152_7]] rfl (by (try simp only [List.map_toArray, List.map_cons, List.map_nil]); rfl) ?_; (with_reducible refine (grapevinelaw15_owned.calls kj1 ((rd_T33 l0 x5_1).f0) ((rd_T33 l0 x5_1).f1) ((rd_T33 l0 x5_1).f2) ((rd_T33 l0 x5_1).f3) ((rd_T33 l0 x5_1).f4) ((rd_T33 l0 x5_1).f5) _ _ ((rd_T33 l0 x5_1).f6) _ _ ((rd_T33 l0 x5_1).f7) t153 t154 t155 t156 t157 t158 t159 t162 _ ?side1 ?side2 ?side3 ?side4 A7.out).mono ?_); (case side1 => repeat (exact (Kd.C_below HR152_6.out HB.out))); (case side2 => exact HC152_6.out); (case side3 => repeat (exact (Kd.C_below HR152_7.out HB.out))); (case side4 => exact HC152_7.out); rintro e w9 ⟨v160, v163, rfl, ho0, ho1, hb⟩; refine ⟨_, rfl, ?_⟩; have n0_ := Aside0.mk (Kd.N_mono (Kd.N_told (Kd.N_told (Kd.N_old (by exact HO_3.out) hb) (Kd.R_base ho0)) (Kd.N_base (Kd.S_N ho1))) (fun _ h_ => h_.1)); have n1_ := Aside0.mk (Kd.R_lower (Kd.R_newM (M := fun k_ => (w.heap.size ≤ k_)) ho0 (below_size (by repeat (with_reducible exact HB.out))) (fun k_ h_ => h_)) (below_size (by repeat (with_reducible exact HB.out)))); have n2_ := Aside0.mk (Kd.N_lower (Kd.N_mono (ok' := fun k_ => (w.heap.size ≤ k_) ∧ some k_ ≠ (v160 : Value).ownBlock ∧ some k_ ≠ (u3 : Value).ownBlock) (Kd.S_N (Kd.S_bound (Kd.S_apart' ho1 (Kd.R_typed ho0) (by decide)))) (fun k_ hk_ => ⟨(Nat.le_trans (below_size (by repeat (with_reducible exact HB.out))) hk_.2.1), hk_.1.2, (Kd.fresh' (Kd.N_lt (by exact HO_3.out)) k_ hk_.2.1)⟩)) (below_size (by repeat (with_reducible exact HB.out)))); have n3_ := Aside0.mk (below_step (by repeat (with_reducible exact HB.out)) hb); clear HO_3; clear HB; have HO_3 := n0_; have HO161 := n1_; have HO164 := n2_; have HB := n3_; clear n0_ n1_ n2_ n3_; (try clear hb); (try clear ho0); (try clear ho1)) | ((with_reducible refine gate_dst (N := 6) rfl ?_); (try (refine gate_guard (by rfl) ?_; dsimp only)); refine box_event ?hg (N := 6) ?hd (cs := #[.int .i64 0, .int .i64 0, .int .i64 0, .int .i64 0, .int .i64 0, .int .i64 0, .slice none 0 0, .slice none 0 0]) (t := 33) ?hr ?_; (case hd => rfl); (case hg => rfl); (case hr => (go_simp; done)); intro gb165 hg w10 hbox hb; have n0_ := Aside0.mk (Kd.N_below (Kd.N_elderB (by exact HO_3.out) gb165 (Nat.le_of_eq hg.symm)) hb); have n1_ := Aside0.mk (Kd.R_below (by exact HO161.out) hb); have n2_ := Aside0.mk (Kd.N_below (Kd.N_elderB (by exact HO164.out) gb165 (Nat.le_of_eq hg.symm)) hb); have n3_ := Aside0.mk (below_step (by repeat (with_reducible exact HB.out)) hb); have n4_ := Aside0.mk (hbox); have n5_ := Aside0.mk ((by rw [hg]; exact (below_size (by repeat (with_reducible exact HB.out))) : w.heap.size ≤ gb165)); have n6_ := Aside0.mk ((by rw [hg]; exact (below_size (by repeat (with_reducible exact HB.out))) : w.heap.size ≤ gb165)); clear HO_3; clear HO161; clear HO164; clear HB; have HO_3 := n0_; have HO161 := n1_; have HO164 := n2_; have HB := n3_; have BK165 := n4_; have GW165 := n5_; have GE165 := n6_; clear n0_ n1_ n2_ n3_ n4_ n5_ n6_; clear hb hbox hg; obtain ⟨hcz11_0, hcz11_1, hcz11_2, hcz11_3, hcz11_4, hcz11_5, hcz11_6, hcz11_7, hfz11_0, hfz11_1, hfz11_2, hfz11_3, hfz11_4, hfz11_5, hfz11_6, hfz11_7⟩ := cz8 BK165.out; obtain ⟨Ao12, co12, eo12⟩ := Kd.R_slice HO161.out; subst eo12; obtain ⟨Ao13, co13, eo13⟩ := Kd.N_slice HO164.out; subst eo13))
        (skip)
        go_cut [38] (fun v38 wc => ∃ (kq : Nat) (x38_7 : Bool), v38 = .bool x38_7 ∧ Aside0 (grapevinelaw15_bodies.j2 kq l0 x3_1 x4_1 x5_1 x38_7 t153 t154 t155 t156 t157 t158 t159 t162 = some r) ∧ Aside0 (kq ≤ kj1) ∧ Aside0 (Kd.N k33 33 wc w.heap.size (fun k_ => (w.heap.size ≤ k_) ∧ some k_ ≠ ((.slice Ao12 t159.length co12) : Value).ownBlock ∧ some k_ ≠ ((.slice Ao13 t162.length co13) : Value).ownBlock ∧ k_ ≠ gb165) u3 x3_1) ∧ Aside0 (Kd.R k38 38 wc w.heap.size (fun k_ => (w.heap.size ≤ k_)) (.slice Ao12 t159.length co12) t159) ∧ Aside0 (Kd.N k42 42 wc w.heap.size (fun k_ => (w.heap.size ≤ k_) ∧ some k_ ≠ (u3 : Value).ownBlock ∧ some k_ ≠ ((.slice Ao12 t159.length co12) : Value).ownBlock ∧ k_ ≠ gb165) (.slice Ao13 t162.length co13) t162) ∧ Aside0 (wc.heap[gb165]? = some (.cells #[.int .i64 t153, .int .i64 t154, .int .i64 t155, .int .i64 t156, .int .i64 t157, .int .i64 t158, (.slice Ao12 t159.length co12), (.slice Ao13 t162.length co13)] 33 (0, 0))) ∧ Aside0 (Below w.heap.size w wc))
        case first =>
         have H := HC8.out
         clear HC8
         replace H := Option.bind_eq_some_iff.mp H
         obtain ⟨t166, A140, H⟩ := H
         replace H : (if t166 = 0 then (if t153 = 1 then (grapevinelaw15_bodies.j2 kj1 l0 x3_1 x4_1 x5_1 (decide ((wrap64 (x4_1 + (t162.length : Int))) > 64)) t153 t154 t155 t156 t157 t158 t159 t162) else (grapevinelaw15_bodies.j2 kj1 l0 x3_1 x4_1 x5_1 true t153 t154 t155 t156 t157 t158 t159 t162)) else (grapevinelaw15_bodies.j2 kj1 l0 x3_1 x4_1 x5_1 true t153 t154 t155 t156 t157 t158 t159 t162)) = some r := H
         have A14 := Aside0.mk A140
         clear A140
         by_cases c15 : t166 = 0
         ·
          rw [if_pos c15] at H
          have c15b0 : (t166 == 0) = true := beq_iff_eq.mpr c15
          have c15b1 : (t166 != 0) = false := bne_eq_false_iff_eq.mpr c15
          clear c15
          (skip)
          by_cases c16 : t153 = 1
          ·
           rw [if_pos c16] at H
           have c16b0 : (t153 == 1) = true := beq_iff_eq.mpr c16
           have c16b1 : (t153 != 1) = false := bne_eq_false_iff_eq.mpr c16
           clear c16
           have H' := Aside0.mk H
           clear H
           obtain ⟨hcz17_0, hcz17_1, hcz17_2, hcz17_3, hcz17_4, hcz17_5, hcz17_6, hcz17_7, hfz17_0, hfz17_1, hfz17_2, hfz17_3, hfz17_4, hfz17_5, hfz17_6, hfz17_7⟩ := cz8 BK165.out
           go_wp2_with (((with_reducible refine gate_callee (f := 32) rfl ?_); refine goesL_ (some 24) rfl rfl Try.func32 (by kernel_rfl) rfl #[.agg #[.int .i64 t153, .int .i64 t154, .int .i64 t155, .int .i64 t156, .int .i64 t157, .int .i64 t158, .slice Ao12 t159.length co12, .slice Ao13 t162.length co13]] rfl (by (try simp only [List.map_toArray, List.map_cons, List.map_nil]); rfl) ?_; (with_reducible refine (grapevineref13_Check.calls kj1 t153 t154 t155 t156 t157 t158 _ _ t159 _ _ t162 t166 _ ?side1 ?side2 ?side3 ?side4 A14.out).mono ?_); (case side1 => refine (Kd.R_reads' (e := 38) (base := w.heap.size) (ok := fun k_ => ((w.heap.size ≤ k_) ∧ True)) (n := t159.length) (c := co12) ?_).2.2; exact (by exact (Kd.R_mono (Kd.R_far (p := ⟨gb165, 7, none⟩) (Kd.R_far (p := ⟨gb165, 6, none⟩) (Kd.R_far (p := ⟨gb165, 5, none⟩) (Kd.R_far (p := ⟨gb165, 4, none⟩) (Kd.R_far (p := ⟨gb165, 3, none⟩) (Kd.R_far (p := ⟨gb165, 2, none⟩) (Kd.R_far (p := ⟨gb165, 1, none⟩) (Kd.R_far (p := ⟨gb165, 0, none⟩) (Kd.R_types HO161.out BK165.out (by decide)) (fun _ hk => hk.2) (.int .i64 t153)) (fun _ hk => hk.2) (.int .i64 t154)) (fun _ hk => hk.2) (.int .i64 t155)) (fun _ hk => hk.2) (.int .i64 t156)) (fun _ hk => hk.2) (.int .i64 t157)) (fun _ hk => hk.2) (.int .i64 t158)) (fun _ hk => hk.2) (.slice Ao12 t159.length co12)) (fun _ hk => hk.2) (.slice Ao13 t162.length co13)) (fun _ h_ => h_.1)))); (case side2 => exact (Kd.R_reads' HO161.out).2.1); (case side3 => refine (Kd.N_reads' (e := 42) (base := w.heap.size) (ok := fun k_ => (((w.heap.size ≤ k_) ∧ (some k_ ≠ (.slice Ao12 t159.length co12 : Value).ownBlock ∧ some k_ ≠ (u3 : Value).ownBlock)) ∧ k_ ≠ gb165)) (n := t162.length) (c := co13) ?_).2.2; exact (by exact (Kd.N_mono (Kd.N_far (p := ⟨gb165, 7, none⟩) (Kd.N_far (p := ⟨gb165, 6, none⟩) (Kd.N_far (p := ⟨gb165, 5, none⟩) (Kd.N_far (p := ⟨gb165, 4, none⟩) (Kd.N_far (p := ⟨gb165, 3, none⟩) (Kd.N_far (p := ⟨gb165, 2, none⟩) (Kd.N_far (p := ⟨gb165, 1, none⟩) (Kd.N_far (p := ⟨gb165, 0, none⟩) (Kd.N_mono HO164.out (fun k_ hk => (⟨hk, hk.2⟩ : _ ∧ k_ ≠ gb165))) (fun _ hk => hk.2) (.int .i64 t153)) (fun _ hk => hk.2) (.int .i64 t154)) (fun _ hk => hk.2) (.int .i64 t155)) (fun _ hk => hk.2) (.int .i64 t156)) (fun _ hk => hk.2) (.int .i64 t157)) (fun _ hk => hk.2) (.int .i64 t158)) (fun _ hk => hk.2) (.slice Ao12 t159.length co12)) (fun _ hk => hk.2) (.slice Ao13 t162.length co13)) (fun _ h_ => h_.1)))); (case side4 => exact (Kd.N_reads' HO164.out).2.1); rintro e w18 ⟨rfl, hb⟩; refine ⟨_, rfl, ?_⟩; have n0_ := Aside0.mk (Kd.N_below (by exact (Kd.N_mono (Kd.N_far (p := ⟨gb165, 7, none⟩) (Kd.N_far (p := ⟨gb165, 6, none⟩) (Kd.N_far (p := ⟨gb165, 5, none⟩) (Kd.N_far (p := ⟨gb165, 4, none⟩) (Kd.N_far (p := ⟨gb165, 3, none⟩) (Kd.N_far (p := ⟨gb165, 2, none⟩) (Kd.N_far (p := ⟨gb165, 1, none⟩) (Kd.N_far (p := ⟨gb165, 0, none⟩) (Kd.N_mono HO_3.out (fun k_ hk => (⟨hk, hk.2⟩ : _ ∧ k_ ≠ gb165))) (fun _ hk => hk.2) (.int .i64 t153)) (fun _ hk => hk.2) (.int .i64 t154)) (fun _ hk => hk.2) (.int .i64 t155)) (fun _ hk => hk.2) (.int .i64 t156)) (fun _ hk => hk.2) (.int .i64 t157)) (fun _ hk => hk.2) (.int .i64 t158)) (fun _ hk => hk.2) (.slice Ao12 t159.length co12)) (fun _ hk => hk.2) (.slice Ao13 t162.length co13)) (fun _ h_ => h_.1))) hb); have n1_ := Aside0.mk (Kd.R_below (by exact (Kd.R_mono (Kd.R_far (p := ⟨gb165, 7, none⟩) (Kd.R_far (p := ⟨gb165, 6, none⟩) (Kd.R_far (p := ⟨gb165, 5, none⟩) (Kd.R_far (p := ⟨gb165, 4, none⟩) (Kd.R_far (p := ⟨gb165, 3, none⟩) (Kd.R_far (p := ⟨gb165, 2, none⟩) (Kd.R_far (p := ⟨gb165, 1, none⟩) (Kd.R_far (p := ⟨gb165, 0, none⟩) (Kd.R_types HO161.out BK165.out (by decide)) (fun _ hk => hk.2) (.int .i64 t153)) (fun _ hk => hk.2) (.int .i64 t154)) (fun _ hk => hk.2) (.int .i64 t155)) (fun _ hk => hk.2) (.int .i64 t156)) (fun _ hk => hk.2) (.int .i64 t157)) (fun _ hk => hk.2) (.int .i64 t158)) (fun _ hk => hk.2) (.slice Ao12 t159.length co12)) (fun _ hk => hk.2) (.slice Ao13 t162.length co13)) (fun _ h_ => h_.1))) hb); have n2_ := Aside0.mk (Kd.N_below (by exact (Kd.N_mono (Kd.N_far (p := ⟨gb165, 7, none⟩) (Kd.N_far (p := ⟨gb165, 6, none⟩) (Kd.N_far (p := ⟨gb165, 5, none⟩) (Kd.N_far (p := ⟨gb165, 4, none⟩) (Kd.N_far (p := ⟨gb165, 3, none⟩) (Kd.N_far (p := ⟨gb165, 2, none⟩) (Kd.N_far (p := ⟨gb165, 1, none⟩) (Kd.N_far (p := ⟨gb165, 0, none⟩) (Kd.N_mono HO164.out (fun k_ hk => (⟨hk, hk.2⟩ : _ ∧ k_ ≠ gb165))) (fun _ hk => hk.2) (.int .i64 t153)) (fun _ hk => hk.2) (.int .i64 t154)) (fun _ hk => hk.2) (.int .i64 t155)) (fun _ hk => hk.2) (.int .i64 t156)) (fun _ hk => hk.2) (.int .i64 t157)) (fun _ hk => hk.2) (.int .i64 t158)) (fun _ hk => hk.2) (.slice Ao12 t159.length co12)) (fun _ hk => hk.2) (.slice Ao13 t162.length co13)) (fun _ h_ => h_.1))) hb); have n3_ := Aside0.mk (blk_below (g := gb165) (o := .cells #[.int .i64 t153, .int .i64 t154, .int .i64 t155, .int .i64 t156, .int .i64 t157, .int .i64 t158, .slice Ao12 t159.length co12, .slice Ao13 t162.length co13] 33 (0, 0)) (by refine blk_put (cs := #[.int .i64 t153, .int .i64 t154, .int .i64 t155, .int .i64 t156, .int .i64 t157, .int .i64 t158, .slice Ao12 t159.length co12, .slice none 0 0]) ?_ 7 _ rfl; refine blk_put (cs := #[.int .i64 t153, .int .i64 t154, .int .i64 t155, .int .i64 t156, .int .i64 t157, .int .i64 t158, .slice none 0 0, .slice none 0 0]) ?_ 6 _ rfl; refine blk_put (cs := #[.int .i64 t153, .int .i64 t154, .int .i64 t155, .int .i64 t156, .int .i64 t157, .int .i64 0, .slice none 0 0, .slice none 0 0]) ?_ 5 _ rfl; refine blk_put (cs := #[.int .i64 t153, .int .i64 t154, .int .i64 t155, .int .i64 t156, .int .i64 0, .int .i64 0, .slice none 0 0, .slice none 0 0]) ?_ 4 _ rfl; refine blk_put (cs := #[.int .i64 t153, .int .i64 t154, .int .i64 t155, .int .i64 0, .int .i64 0, .int .i64 0, .slice none 0 0, .slice none 0 0]) ?_ 3 _ rfl; refine blk_put (cs := #[.int .i64 t153, .int .i64 t154, .int .i64 0, .int .i64 0, .int .i64 0, .int .i64 0, .slice none 0 0, .slice none 0 0]) ?_ 2 _ rfl; refine blk_put (cs := #[.int .i64 t153, .int .i64 0, .int .i64 0, .int .i64 0, .int .i64 0, .int .i64 0, .slice none 0 0, .slice none 0 0]) ?_ 1 _ rfl; refine blk_put (cs := #[.int .i64 0, .int .i64 0, .int .i64 0, .int .i64 0, .int .i64 0, .int .i64 0, .slice none 0 0, .slice none 0 0]) ?_ 0 _ rfl; exact BK165.out) hb); have n4_ := Aside0.mk (below_step (by repeat (with_reducible first | exact HB.out | refine below_set ?_ GE165.out)) hb); clear HO_3; clear HO161; clear HO164; clear BK165; clear HB; have HO_3 := n0_; have HO161 := n1_; have HO164 := n2_; have BK165 := n3_; have HB := n4_; clear n0_ n1_ n2_ n3_ n4_; (try clear hb); obtain ⟨hcz19_0, hcz19_1, hcz19_2, hcz19_3, hcz19_4, hcz19_5, hcz19_6, hcz19_7, hfz19_0, hfz19_1, hfz19_2, hfz19_3, hfz19_4, hfz19_5, hfz19_6, hfz19_7⟩ := cz8 BK165.out))
           go_meet
           case rel => exact ⟨_, (decide ((wrap64 (x4_1 + (t162.length : Int))) > 64)), (by rfl), H', ⟨by have := HK1.out; have := HJ1.out; omega⟩, ⟨by exact Kd.N_mono HO_3.out (fun _ hk => ⟨hk.1.1.1, ⟨hk.1.1.2, ⟨hk.1.2, hk.2⟩⟩⟩)⟩, ⟨by exact Kd.R_mono HO161.out (fun _ hk => hk.1)⟩, ⟨by exact Kd.N_mono HO164.out (fun _ hk => ⟨hk.1.1, ⟨hk.1.2.2, ⟨hk.1.2.1, hk.2⟩⟩⟩)⟩, ⟨by exact BK165.out⟩, ⟨by repeat (with_reducible exact HB.out)⟩⟩
          rw [if_neg c16] at H
          have c16b0 : (t153 == 1) = false := beq_eq_false_iff_ne.mpr c16
          have c16b1 : (t153 != 1) = true := bne_iff_ne.mpr c16
          have H' := Aside0.mk H
          clear H
          obtain ⟨hcz20_0, hcz20_1, hcz20_2, hcz20_3, hcz20_4, hcz20_5, hcz20_6, hcz20_7, hfz20_0, hfz20_1, hfz20_2, hfz20_3, hfz20_4, hfz20_5, hfz20_6, hfz20_7⟩ := cz8 BK165.out
          go_wp2_with (((with_reducible refine gate_callee (f := 32) rfl ?_); refine goesL_ (some 24) rfl rfl Try.func32 (by kernel_rfl) rfl #[.agg #[.int .i64 t153, .int .i64 t154, .int .i64 t155, .int .i64 t156, .int .i64 t157, .int .i64 t158, .slice Ao12 t159.length co12, .slice Ao13 t162.length co13]] rfl (by (try simp only [List.map_toArray, List.map_cons, List.map_nil]); rfl) ?_; (with_reducible refine (grapevineref13_Check.calls kj1 t153 t154 t155 t156 t157 t158 _ _ t159 _ _ t162 t166 _ ?side1 ?side2 ?side3 ?side4 A14.out).mono ?_); (case side1 => refine (Kd.R_reads' (e := 38) (base := w.heap.size) (ok := fun k_ => ((w.heap.size ≤ k_) ∧ True)) (n := t159.length) (c := co12) ?_).2.2; exact (by exact (Kd.R_mono (Kd.R_far (p := ⟨gb165, 7, none⟩) (Kd.R_far (p := ⟨gb165, 6, none⟩) (Kd.R_far (p := ⟨gb165, 5, none⟩) (Kd.R_far (p := ⟨gb165, 4, none⟩) (Kd.R_far (p := ⟨gb165, 3, none⟩) (Kd.R_far (p := ⟨gb165, 2, none⟩) (Kd.R_far (p := ⟨gb165, 1, none⟩) (Kd.R_far (p := ⟨gb165, 0, none⟩) (Kd.R_types HO161.out BK165.out (by decide)) (fun _ hk => hk.2) (.int .i64 t153)) (fun _ hk => hk.2) (.int .i64 t154)) (fun _ hk => hk.2) (.int .i64 t155)) (fun _ hk => hk.2) (.int .i64 t156)) (fun _ hk => hk.2) (.int .i64 t157)) (fun _ hk => hk.2) (.int .i64 t158)) (fun _ hk => hk.2) (.slice Ao12 t159.length co12)) (fun _ hk => hk.2) (.slice Ao13 t162.length co13)) (fun _ h_ => h_.1)))); (case side2 => exact (Kd.R_reads' HO161.out).2.1); (case side3 => refine (Kd.N_reads' (e := 42) (base := w.heap.size) (ok := fun k_ => (((w.heap.size ≤ k_) ∧ (some k_ ≠ (.slice Ao12 t159.length co12 : Value).ownBlock ∧ some k_ ≠ (u3 : Value).ownBlock)) ∧ k_ ≠ gb165)) (n := t162.length) (c := co13) ?_).2.2; exact (by exact (Kd.N_mono (Kd.N_far (p := ⟨gb165, 7, none⟩) (Kd.N_far (p := ⟨gb165, 6, none⟩) (Kd.N_far (p := ⟨gb165, 5, none⟩) (Kd.N_far (p := ⟨gb165, 4, none⟩) (Kd.N_far (p := ⟨gb165, 3, none⟩) (Kd.N_far (p := ⟨gb165, 2, none⟩) (Kd.N_far (p := ⟨gb165, 1, none⟩) (Kd.N_far (p := ⟨gb165, 0, none⟩) (Kd.N_mono HO164.out (fun k_ hk => (⟨hk, hk.2⟩ : _ ∧ k_ ≠ gb165))) (fun _ hk => hk.2) (.int .i64 t153)) (fun _ hk => hk.2) (.int .i64 t154)) (fun _ hk => hk.2) (.int .i64 t155)) (fun _ hk => hk.2) (.int .i64 t156)) (fun _ hk => hk.2) (.int .i64 t157)) (fun _ hk => hk.2) (.int .i64 t158)) (fun _ hk => hk.2) (.slice Ao12 t159.length co12)) (fun _ hk => hk.2) (.slice Ao13 t162.length co13)) (fun _ h_ => h_.1)))); (case side4 => exact (Kd.N_reads' HO164.out).2.1); rintro e w21 ⟨rfl, hb⟩; refine ⟨_, rfl, ?_⟩; have n0_ := Aside0.mk (Kd.N_below (by exact (Kd.N_mono (Kd.N_far (p := ⟨gb165, 7, none⟩) (Kd.N_far (p := ⟨gb165, 6, none⟩) (Kd.N_far (p := ⟨gb165, 5, none⟩) (Kd.N_far (p := ⟨gb165, 4, none⟩) (Kd.N_far (p := ⟨gb165, 3, none⟩) (Kd.N_far (p := ⟨gb165, 2, none⟩) (Kd.N_far (p := ⟨gb165, 1, none⟩) (Kd.N_far (p := ⟨gb165, 0, none⟩) (Kd.N_mono HO_3.out (fun k_ hk => (⟨hk, hk.2⟩ : _ ∧ k_ ≠ gb165))) (fun _ hk => hk.2) (.int .i64 t153)) (fun _ hk => hk.2) (.int .i64 t154)) (fun _ hk => hk.2) (.int .i64 t155)) (fun _ hk => hk.2) (.int .i64 t156)) (fun _ hk => hk.2) (.int .i64 t157)) (fun _ hk => hk.2) (.int .i64 t158)) (fun _ hk => hk.2) (.slice Ao12 t159.length co12)) (fun _ hk => hk.2) (.slice Ao13 t162.length co13)) (fun _ h_ => h_.1))) hb); have n1_ := Aside0.mk (Kd.R_below (by exact (Kd.R_mono (Kd.R_far (p := ⟨gb165, 7, none⟩) (Kd.R_far (p := ⟨gb165, 6, none⟩) (Kd.R_far (p := ⟨gb165, 5, none⟩) (Kd.R_far (p := ⟨gb165, 4, none⟩) (Kd.R_far (p := ⟨gb165, 3, none⟩) (Kd.R_far (p := ⟨gb165, 2, none⟩) (Kd.R_far (p := ⟨gb165, 1, none⟩) (Kd.R_far (p := ⟨gb165, 0, none⟩) (Kd.R_types HO161.out BK165.out (by decide)) (fun _ hk => hk.2) (.int .i64 t153)) (fun _ hk => hk.2) (.int .i64 t154)) (fun _ hk => hk.2) (.int .i64 t155)) (fun _ hk => hk.2) (.int .i64 t156)) (fun _ hk => hk.2) (.int .i64 t157)) (fun _ hk => hk.2) (.int .i64 t158)) (fun _ hk => hk.2) (.slice Ao12 t159.length co12)) (fun _ hk => hk.2) (.slice Ao13 t162.length co13)) (fun _ h_ => h_.1))) hb); have n2_ := Aside0.mk (Kd.N_below (by exact (Kd.N_mono (Kd.N_far (p := ⟨gb165, 7, none⟩) (Kd.N_far (p := ⟨gb165, 6, none⟩) (Kd.N_far (p := ⟨gb165, 5, none⟩) (Kd.N_far (p := ⟨gb165, 4, none⟩) (Kd.N_far (p := ⟨gb165, 3, none⟩) (Kd.N_far (p := ⟨gb165, 2, none⟩) (Kd.N_far (p := ⟨gb165, 1, none⟩) (Kd.N_far (p := ⟨gb165, 0, none⟩) (Kd.N_mono HO164.out (fun k_ hk => (⟨hk, hk.2⟩ : _ ∧ k_ ≠ gb165))) (fun _ hk => hk.2) (.int .i64 t153)) (fun _ hk => hk.2) (.int .i64 t154)) (fun _ hk => hk.2) (.int .i64 t155)) (fun _ hk => hk.2) (.int .i64 t156)) (fun _ hk => hk.2) (.int .i64 t157)) (fun _ hk => hk.2) (.int .i64 t158)) (fun _ hk => hk.2) (.slice Ao12 t159.length co12)) (fun _ hk => hk.2) (.slice Ao13 t162.length co13)) (fun _ h_ => h_.1))) hb); have n3_ := Aside0.mk (blk_below (g := gb165) (o := .cells #[.int .i64 t153, .int .i64 t154, .int .i64 t155, .int .i64 t156, .int .i64 t157, .int .i64 t158, .slice Ao12 t159.length co12, .slice Ao13 t162.length co13] 33 (0, 0)) (by refine blk_put (cs := #[.int .i64 t153, .int .i64 t154, .int .i64 t155, .int .i64 t156, .int .i64 t157, .int .i64 t158, .slice Ao12 t159.length co12, .slice none 0 0]) ?_ 7 _ rfl; refine blk_put (cs := #[.int .i64 t153, .int .i64 t154, .int .i64 t155, .int .i64 t156, .int .i64 t157, .int .i64 t158, .slice none 0 0, .slice none 0 0]) ?_ 6 _ rfl; refine blk_put (cs := #[.int .i64 t153, .int .i64 t154, .int .i64 t155, .int .i64 t156, .int .i64 t157, .int .i64 0, .slice none 0 0, .slice none 0 0]) ?_ 5 _ rfl; refine blk_put (cs := #[.int .i64 t153, .int .i64 t154, .int .i64 t155, .int .i64 t156, .int .i64 0, .int .i64 0, .slice none 0 0, .slice none 0 0]) ?_ 4 _ rfl; refine blk_put (cs := #[.int .i64 t153, .int .i64 t154, .int .i64 t155, .int .i64 0, .int .i64 0, .int .i64 0, .slice none 0 0, .slice none 0 0]) ?_ 3 _ rfl; refine blk_put (cs := #[.int .i64 t153, .int .i64 t154, .int .i64 0, .int .i64 0, .int .i64 0, .int .i64 0, .slice none 0 0, .slice none 0 0]) ?_ 2 _ rfl; refine blk_put (cs := #[.int .i64 t153, .int .i64 0, .int .i64 0, .int .i64 0, .int .i64 0, .int .i64 0, .slice none 0 0, .slice none 0 0]) ?_ 1 _ rfl; refine blk_put (cs := #[.int .i64 0, .int .i64 0, .int .i64 0, .int .i64 0, .int .i64 0, .int .i64 0, .slice none 0 0, .slice none 0 0]) ?_ 0 _ rfl; exact BK165.out) hb); have n4_ := Aside0.mk (below_step (by repeat (with_reducible first | exact HB.out | refine below_set ?_ GE165.out)) hb); clear HO_3; clear HO161; clear HO164; clear BK165; clear HB; have HO_3 := n0_; have HO161 := n1_; have HO164 := n2_; have BK165 := n3_; have HB := n4_; clear n0_ n1_ n2_ n3_ n4_; (try clear hb); obtain ⟨hcz22_0, hcz22_1, hcz22_2, hcz22_3, hcz22_4, hcz22_5, hcz22_6, hcz22_7, hfz22_0, hfz22_1, hfz22_2, hfz22_3, hfz22_4, hfz22_5, hfz22_6, hfz22_7⟩ := cz8 BK165.out))
          go_meet
          case rel => exact ⟨_, (true), (by rfl), H', ⟨by have := HK1.out; have := HJ1.out; omega⟩, ⟨by exact Kd.N_mono HO_3.out (fun _ hk => ⟨hk.1.1.1, ⟨hk.1.1.2, ⟨hk.1.2, hk.2⟩⟩⟩)⟩, ⟨by exact Kd.R_mono HO161.out (fun _ hk => hk.1)⟩, ⟨by exact Kd.N_mono HO164.out (fun _ hk => ⟨hk.1.1, ⟨hk.1.2.2, ⟨hk.1.2.1, hk.2⟩⟩⟩)⟩, ⟨by exact BK165.out⟩, ⟨by repeat (with_reducible exact HB.out)⟩⟩
         rw [if_neg c15] at H
         have c15b0 : (t166 == 0) = false := beq_eq_false_iff_ne.mpr c15
         have c15b1 : (t166 != 0) = true := bne_iff_ne.mpr c15
         (skip)
         have H' := Aside0.mk H
         clear H
         obtain ⟨hcz23_0, hcz23_1, hcz23_2, hcz23_3, hcz23_4, hcz23_5, hcz23_6, hcz23_7, hfz23_0, hfz23_1, hfz23_2, hfz23_3, hfz23_4, hfz23_5, hfz23_6, hfz23_7⟩ := cz8 BK165.out
         go_wp2_with (((with_reducible refine gate_callee (f := 32) rfl ?_); refine goesL_ (some 24) rfl rfl Try.func32 (by kernel_rfl) rfl #[.agg #[.int .i64 t153, .int .i64 t154, .int .i64 t155, .int .i64 t156, .int .i64 t157, .int .i64 t158, .slice Ao12 t159.length co12, .slice Ao13 t162.length co13]] rfl (by (try simp only [List.map_toArray, List.map_cons, List.map_nil]); rfl) ?_; (with_reducible refine (grapevineref13_Check.calls kj1 t153 t154 t155 t156 t157 t158 _ _ t159 _ _ t162 t166 _ ?side1 ?side2 ?side3 ?side4 A14.out).mono ?_); (case side1 => refine (Kd.R_reads' (e := 38) (base := w.heap.size) (ok := fun k_ => ((w.heap.size ≤ k_) ∧ True)) (n := t159.length) (c := co12) ?_).2.2; exact (by exact (Kd.R_mono (Kd.R_far (p := ⟨gb165, 7, none⟩) (Kd.R_far (p := ⟨gb165, 6, none⟩) (Kd.R_far (p := ⟨gb165, 5, none⟩) (Kd.R_far (p := ⟨gb165, 4, none⟩) (Kd.R_far (p := ⟨gb165, 3, none⟩) (Kd.R_far (p := ⟨gb165, 2, none⟩) (Kd.R_far (p := ⟨gb165, 1, none⟩) (Kd.R_far (p := ⟨gb165, 0, none⟩) (Kd.R_types HO161.out BK165.out (by decide)) (fun _ hk => hk.2) (.int .i64 t153)) (fun _ hk => hk.2) (.int .i64 t154)) (fun _ hk => hk.2) (.int .i64 t155)) (fun _ hk => hk.2) (.int .i64 t156)) (fun _ hk => hk.2) (.int .i64 t157)) (fun _ hk => hk.2) (.int .i64 t158)) (fun _ hk => hk.2) (.slice Ao12 t159.length co12)) (fun _ hk => hk.2) (.slice Ao13 t162.length co13)) (fun _ h_ => h_.1)))); (case side2 => exact (Kd.R_reads' HO161.out).2.1); (case side3 => refine (Kd.N_reads' (e := 42) (base := w.heap.size) (ok := fun k_ => (((w.heap.size ≤ k_) ∧ (some k_ ≠ (.slice Ao12 t159.length co12 : Value).ownBlock ∧ some k_ ≠ (u3 : Value).ownBlock)) ∧ k_ ≠ gb165)) (n := t162.length) (c := co13) ?_).2.2; exact (by exact (Kd.N_mono (Kd.N_far (p := ⟨gb165, 7, none⟩) (Kd.N_far (p := ⟨gb165, 6, none⟩) (Kd.N_far (p := ⟨gb165, 5, none⟩) (Kd.N_far (p := ⟨gb165, 4, none⟩) (Kd.N_far (p := ⟨gb165, 3, none⟩) (Kd.N_far (p := ⟨gb165, 2, none⟩) (Kd.N_far (p := ⟨gb165, 1, none⟩) (Kd.N_far (p := ⟨gb165, 0, none⟩) (Kd.N_mono HO164.out (fun k_ hk => (⟨hk, hk.2⟩ : _ ∧ k_ ≠ gb165))) (fun _ hk => hk.2) (.int .i64 t153)) (fun _ hk => hk.2) (.int .i64 t154)) (fun _ hk => hk.2) (.int .i64 t155)) (fun _ hk => hk.2) (.int .i64 t156)) (fun _ hk => hk.2) (.int .i64 t157)) (fun _ hk => hk.2) (.int .i64 t158)) (fun _ hk => hk.2) (.slice Ao12 t159.length co12)) (fun _ hk => hk.2) (.slice Ao13 t162.length co13)) (fun _ h_ => h_.1)))); (case side4 => exact (Kd.N_reads' HO164.out).2.1); rintro e w24 ⟨rfl, hb⟩; refine ⟨_, rfl, ?_⟩; have n0_ := Aside0.mk (Kd.N_below (by exact (Kd.N_mono (Kd.N_far (p := ⟨gb165, 7, none⟩) (Kd.N_far (p := ⟨gb165, 6, none⟩) (Kd.N_far (p := ⟨gb165, 5, none⟩) (Kd.N_far (p := ⟨gb165, 4, none⟩) (Kd.N_far (p := ⟨gb165, 3, none⟩) (Kd.N_far (p := ⟨gb165, 2, none⟩) (Kd.N_far (p := ⟨gb165, 1, none⟩) (Kd.N_far (p := ⟨gb165, 0, none⟩) (Kd.N_mono HO_3.out (fun k_ hk => (⟨hk, hk.2⟩ : _ ∧ k_ ≠ gb165))) (fun _ hk => hk.2) (.int .i64 t153)) (fun _ hk => hk.2) (.int .i64 t154)) (fun _ hk => hk.2) (.int .i64 t155)) (fun _ hk => hk.2) (.int .i64 t156)) (fun _ hk => hk.2) (.int .i64 t157)) (fun _ hk => hk.2) (.int .i64 t158)) (fun _ hk => hk.2) (.slice Ao12 t159.length co12)) (fun _ hk => hk.2) (.slice Ao13 t162.length co13)) (fun _ h_ => h_.1))) hb); have n1_ := Aside0.mk (Kd.R_below (by exact (Kd.R_mono (Kd.R_far (p := ⟨gb165, 7, none⟩) (Kd.R_far (p := ⟨gb165, 6, none⟩) (Kd.R_far (p := ⟨gb165, 5, none⟩) (Kd.R_far (p := ⟨gb165, 4, none⟩) (Kd.R_far (p := ⟨gb165, 3, none⟩) (Kd.R_far (p := ⟨gb165, 2, none⟩) (Kd.R_far (p := ⟨gb165, 1, none⟩) (Kd.R_far (p := ⟨gb165, 0, none⟩) (Kd.R_types HO161.out BK165.out (by decide)) (fun _ hk => hk.2) (.int .i64 t153)) (fun _ hk => hk.2) (.int .i64 t154)) (fun _ hk => hk.2) (.int .i64 t155)) (fun _ hk => hk.2) (.int .i64 t156)) (fun _ hk => hk.2) (.int .i64 t157)) (fun _ hk => hk.2) (.int .i64 t158)) (fun _ hk => hk.2) (.slice Ao12 t159.length co12)) (fun _ hk => hk.2) (.slice Ao13 t162.length co13)) (fun _ h_ => h_.1))) hb); have n2_ := Aside0.mk (Kd.N_below (by exact (Kd.N_mono (Kd.N_far (p := ⟨gb165, 7, none⟩) (Kd.N_far (p := ⟨gb165, 6, none⟩) (Kd.N_far (p := ⟨gb165, 5, none⟩) (Kd.N_far (p := ⟨gb165, 4, none⟩) (Kd.N_far (p := ⟨gb165, 3, none⟩) (Kd.N_far (p := ⟨gb165, 2, none⟩) (Kd.N_far (p := ⟨gb165, 1, none⟩) (Kd.N_far (p := ⟨gb165, 0, none⟩) (Kd.N_mono HO164.out (fun k_ hk => (⟨hk, hk.2⟩ : _ ∧ k_ ≠ gb165))) (fun _ hk => hk.2) (.int .i64 t153)) (fun _ hk => hk.2) (.int .i64 t154)) (fun _ hk => hk.2) (.int .i64 t155)) (fun _ hk => hk.2) (.int .i64 t156)) (fun _ hk => hk.2) (.int .i64 t157)) (fun _ hk => hk.2) (.int .i64 t158)) (fun _ hk => hk.2) (.slice Ao12 t159.length co12)) (fun _ hk => hk.2) (.slice Ao13 t162.length co13)) (fun _ h_ => h_.1))) hb); have n3_ := Aside0.mk (blk_below (g := gb165) (o := .cells #[.int .i64 t153, .int .i64 t154, .int .i64 t155, .int .i64 t156, .int .i64 t157, .int .i64 t158, .slice Ao12 t159.length co12, .slice Ao13 t162.length co13] 33 (0, 0)) (by refine blk_put (cs := #[.int .i64 t153, .int .i64 t154, .int .i64 t155, .int .i64 t156, .int .i64 t157, .int .i64 t158, .slice Ao12 t159.length co12, .slice none 0 0]) ?_ 7 _ rfl; refine blk_put (cs := #[.int .i64 t153, .int .i64 t154, .int .i64 t155, .int .i64 t156, .int .i64 t157, .int .i64 t158, .slice none 0 0, .slice none 0 0]) ?_ 6 _ rfl; refine blk_put (cs := #[.int .i64 t153, .int .i64 t154, .int .i64 t155, .int .i64 t156, .int .i64 t157, .int .i64 0, .slice none 0 0, .slice none 0 0]) ?_ 5 _ rfl; refine blk_put (cs := #[.int .i64 t153, .int .i64 t154, .int .i64 t155, .int .i64 t156, .int .i64 0, .int .i64 0, .slice none 0 0, .slice none 0 0]) ?_ 4 _ rfl; refine blk_put (cs := #[.int .i64 t153, .int .i64 t154, .int .i64 t155, .int .i64 0, .int .i64 0, .int .i64 0, .slice none 0 0, .slice none 0 0]) ?_ 3 _ rfl; refine blk_put (cs := #[.int .i64 t153, .int .i64 t154, .int .i64 0, .int .i64 0, .int .i64 0, .int .i64 0, .slice none 0 0, .slice none 0 0]) ?_ 2 _ rfl; refine blk_put (cs := #[.int .i64 t153, .int .i64 0, .int .i64 0, .int .i64 0, .int .i64 0, .int .i64 0, .slice none 0 0, .slice none 0 0]) ?_ 1 _ rfl; refine blk_put (cs := #[.int .i64 0, .int .i64 0, .int .i64 0, .int .i64 0, .int .i64 0, .int .i64 0, .slice none 0 0, .slice none 0 0]) ?_ 0 _ rfl; exact BK165.out) hb); have n4_ := Aside0.mk (below_step (by repeat (with_reducible first | exact HB.out | refine below_set ?_ GE165.out)) hb); clear HO_3; clear HO161; clear HO164; clear BK165; clear HB; have HO_3 := n0_; have HO161 := n1_; have HO164 := n2_; have BK165 := n3_; have HB := n4_; clear n0_ n1_ n2_ n3_ n4_; (try clear hb)))
         go_meet
         case rel => exact ⟨_, (true), (by rfl), H', ⟨by have := HK1.out; have := HJ1.out; omega⟩, ⟨by exact Kd.N_mono HO_3.out (fun _ hk => ⟨hk.1.1.1, ⟨hk.1.1.2, ⟨hk.1.2, hk.2⟩⟩⟩)⟩, ⟨by exact Kd.R_mono HO161.out (fun _ hk => hk.1)⟩, ⟨by exact Kd.N_mono HO164.out (fun _ hk => ⟨hk.1.1, ⟨hk.1.2.2, ⟨hk.1.2.1, hk.2⟩⟩⟩)⟩, ⟨by exact BK165.out⟩, ⟨by repeat (with_reducible exact HB.out)⟩⟩
        case rest =>
         clear HC8
         try clear c3b0
         try clear c5b0
         try clear c6b0
         try clear hcz11_0
         try clear hcz11_1
         try clear hcz11_2
         try clear hcz11_3
         try clear hcz11_4
         try clear hcz11_5
         try clear hcz11_6
         try clear hcz11_7
         try clear hcz23_0
         try clear hcz23_1
         try clear hcz23_2
         try clear hcz23_3
         try clear hcz23_4
         try clear hcz23_5
         try clear hcz23_6
         try clear hcz23_7
         try clear hfz11_0
         try clear hfz11_1
         try clear hfz11_2
         try clear hfz11_3
         try clear hfz11_4
         try clear hfz11_5
         try clear hfz11_6
         try clear hfz11_7
         try clear hfz23_0
         try clear hfz23_1
         try clear hfz23_2
         try clear hfz23_3
         try clear hfz23_4
         try clear hfz23_5
         try clear hfz23_6
         try clear hfz23_7
         try clear hx152_0
         try clear hx152_1
         try clear hx152_2
         try clear hx152_3
         try clear hx152_4
         try clear hx152_5
         try clear hx152_6
         try clear hx152_7
         try clear p152
         try clear q152
         obtain ⟨kq, x38_7, rfl, HA, HJ7, HO_3, HO_166006, HO_166007, BK165, HB⟩ := hcut
         cases kq with
         | zero => exact absurd HA.out (by simp [grapevinelaw15_bodies.j2])
         | succ kj7 =>
          have H := HA.out
          clear HA
          simp only [grapevinelaw15_bodies.j2] at H
          by_cases c25 : x38_7 = true
          ·
           subst c25
           have H1 : (grapevinelaw15_bodies.l0 kj7 l0 x3_1 x4_1 (wrap64 (x5_1 + 1))) = some r := by rw [if_pos rfl] at H; exact H
           clear H
           have H := H1
           clear H1
           have H' := Aside0.mk H
           clear H
           go_wp2
           go_roundg kj7
           case measure => have := HK1.out; have := HJ1.out; have := HJ7.out; omega
           case rel => exact ⟨(x3_1), (x4_1), (wrap64 (x5_1 + 1)), (by rfl), (by rfl), H', ⟨by have := HK1.out; have := HJ1.out; have := HJ7.out; omega⟩, ⟨by exact Kd.N_mono HO_3.out (fun _ hk => hk.1)⟩, ⟨by repeat (with_reducible exact HB.out)⟩⟩
          replace c25 := Bool.eq_false_iff.mpr c25
          subst c25
          have H1 : (grapevinelaw15_bodies.l1 kj7 l0 x3_1 x4_1 x5_1 0 t153 t154 t155 t156 t157 t158 t159 t162) = some r := by rw [if_neg (show ¬ (false = true) by decide)] at H; exact H
          clear H
          have H := H1
          clear H1
          have H' := Aside0.mk H
          clear H
          go_wp2
          go_loopg [7] kj7 (fun kq v7 w' => ∃ (x7_4 : Int) (x166007_4 : List (S42)) (u166007 : Value), v7 = .int .i64 x7_4 ∧ Aside0 (grapevinelaw15_bodies.l1 kq l0 x3_1 x4_1 x5_1 x7_4 t153 t154 t155 t156 t157 t158 t159 x166007_4 = some r) ∧ Aside0 (kq ≤ kj7) ∧ Aside0 (Kd.N k33 33 w' w.heap.size (fun k_ => (w.heap.size ≤ k_) ∧ some k_ ≠ ((.slice Ao12 t159.length co12) : Value).ownBlock ∧ some k_ ≠ (u166007 : Value).ownBlock ∧ k_ ≠ gb165) u3 x3_1) ∧ Aside0 (Kd.R k38 38 w' w.heap.size (fun k_ => (w.heap.size ≤ k_)) (.slice Ao12 t159.length co12) t159) ∧ Aside0 (Kd.N k42 42 w' w.heap.size (fun k_ => (w.heap.size ≤ k_) ∧ some k_ ≠ (u3 : Value).ownBlock ∧ some k_ ≠ ((.slice Ao12 t159.length co12) : Value).ownBlock ∧ k_ ≠ gb165) u166007 x166007_4) ∧ Aside0 (w'.heap[gb165]? = some (.cells #[.int .i64 t153, .int .i64 t154, .int .i64 t155, .int .i64 t156, .int .i64 t157, .int .i64 t158, (.slice Ao12 t159.length co12), u166007] 33 (0, 0))) ∧ Aside0 (Below w.heap.size w w'))
          case atStart => exact ⟨(0), (t162), (.slice Ao13 t162.length co13), (by rfl), H', ⟨Nat.le_refl _⟩, ⟨by exact HO_3.out⟩, ⟨by exact HO_166006.out⟩, ⟨by exact HO_166007.out⟩, ⟨by exact BK165.out⟩, ⟨by repeat (with_reducible exact HB.out)⟩⟩
          case round =>
           clear H'
           try clear c3b0
           try clear c5b0
           try clear c6b0
           try clear hcz11_0
           try clear hcz11_1
           try clear hcz11_2
           try clear hcz11_3
           try clear hcz11_4
           try clear hcz11_5
           try clear hcz11_6
           try clear hcz11_7
           try clear hcz23_0
           try clear hcz23_1
           try clear hcz23_2
           try clear hcz23_3
           try clear hcz23_4
           try clear hcz23_5
           try clear hcz23_6
           try clear hcz23_7
           try clear hfz11_0
           try clear hfz11_1
           try clear hfz11_2
           try clear hfz11_3
           try clear hfz11_4
           try clear hfz11_5
           try clear hfz11_6
           try clear hfz11_7
           try clear hfz23_0
           try clear hfz23_1
           try clear hfz23_2
           try clear hfz23_3
           try clear hfz23_4
           try clear hfz23_5
           try clear hfz23_6
           try clear hfz23_7
           try clear hx152_0
           try clear hx152_1
           try clear hx152_2
           try clear hx152_3
           try clear hx152_4
           try clear hx152_5
           try clear hx152_6
           try clear hx152_7
           try clear p152
           try clear q152
           obtain ⟨x7_4, x166007_4, u166007, rfl, HA, HK4, HO_3, HO_166006, HO_166007, BK165, HB⟩ := hrel
           cases gk with
           | zero => exact absurd HA.out (by simp [grapevinelaw15_bodies.l1])
           | succ k4 =>
            have H := HA.out
            clear HA
            simp only [grapevinelaw15_bodies.l1] at H
            by_cases c26 : x7_4 < (x166007_4.length : Int)
            ·
             rw [if_pos c26] at H
             have c26b0 : decide (x7_4 < (x166007_4.length : Int)) = true := decide_eq_true c26
             clear c26
             by_cases c27 : 0 ≤ x7_4
             ·
              rw [if_pos c27] at H
              have c27b0 : decide (0 ≤ x7_4) = true := decide_eq_true c27
              clear c27
              obtain ⟨y169, hy169⟩ : ∃ y_ : List Int, y_ = (([((rd_T42 x166007_4 x7_4).f0) % 256, (((rd_T42 x166007_4 x7_4).f0) / 256) % 256] : List Int)) := ⟨_, rfl⟩
              replace H : (grapevinelaw15_bodies.l1 k4 l0 x3_1 x4_1 x5_1 (wrap64 (x7_4 + 1)) t153 t154 t155 t156 t157 t158 t159 (x166007_4.set (x7_4 : Int).toNat (⟨(rd_T42 x166007_4 x7_4).f0, (rd_T42 x166007_4 x7_4).f1, y169⟩ : S42))) = some r := by (rw [hy169]; with_reducible exact H)
              have Ny169 := Aside0.mk hy169
              clear hy169
              obtain ⟨y172, hy172⟩ : ∃ y_ : List (S42), y_ = (x166007_4.set (x7_4 : Int).toNat (⟨(rd_T42 x166007_4 x7_4).f0, (rd_T42 x166007_4 x7_4).f1, y169⟩ : S42)) := ⟨_, rfl⟩
              replace H : (grapevinelaw15_bodies.l1 k4 l0 x3_1 x4_1 x5_1 (wrap64 (x7_4 + 1)) t153 t154 t155 t156 t157 t158 t159 y172) = some r := by (rw [hy172]; with_reducible exact H)
              have Ny172 := Aside0.mk hy172
              clear hy172
              have H' := Aside0.mk H
              clear H
              obtain ⟨hcz29_0, hcz29_1, hcz29_2, hcz29_3, hcz29_4, hcz29_5, hcz29_6, hcz29_7, hfz29_0, hfz29_1, hfz29_2, hfz29_3, hfz29_4, hfz29_5, hfz29_6, hfz29_7⟩ := cz8 BK165.out
              obtain ⟨Ao30, co30, eo30⟩ := Kd.N_slice HO_166007.out
              subst eo30
              try go_wp2
              have n0_ := Aside0.mk (Kd.N_drew HO_3.out)
              have n1_ := Aside0.mk (Kd.R_drew HO_166006.out)
              have n2_ := Aside0.mk (Kd.N_drew HO_166007.out)
              have n3_ := Aside0.mk (blk_drew BK165.out)
              have n4_ := Aside0.mk (below_drew1 HB.out)
              clear HO_3
              clear HO_166006
              clear HO_166007
              clear BK165
              clear HB
              have HO_3 := n0_
              have HO_166006 := n1_
              have HO_166007 := n2_
              have BK165 := n3_
              have HB := n4_
              clear n0_ n1_ n2_ n3_ n4_
              have p167 : 0 ≤ (x7_4 : Int) := of_decide_eq_true (by (with_reducible assumption))
              have q167 : x7_4 < (x166007_4.length : Int) := of_decide_eq_true (by (with_reducible assumption))
              obtain ⟨ad167, A167_2, c167_2, e167, hx167_0, hx167_1, hx167_2, hl167_2, hi167_2⟩ := at_T42 (Kd.N_reads' HO_166007.out).2.2 x7_4 p167 q167
              cases e167
              obtain ⟨ce167, hce167, hMe167, hcc167⟩ := Kd.N_get HO_166007.out z42 x7_4 p167 (by exact q167)
              obtain ⟨ua167_2, uc167_2, rfl, ul167_2, ge167_2⟩ := k42_openF hMe167
              have hv167_2 := hcc167 2 _ rfl
              rw [add_field _ _ 2 (by omega)] at hv167_2
              replace hv167_2 := Option.some.inj (hv167_2.symm.trans hx167_2)
              injection hv167_2 with hva_ hvn_ hvc_
              rw [hva_] at ge167_2
              rw [hvc_] at ul167_2
              have HL167_2 := Aside0.mk (show Kd.V (Kd.int .u8) 5 _ w.heap.size _ _ ((rd_T42 x166007_4 x7_4).f2) from Kd.V_mk ul167_2 ge167_2)
              clear hva_ hvn_ hvc_ ge167_2 ul167_2
              clear hcc167 hce167
              have HR167_2 := Aside0.mk hi167_2
              have HC167_2 := Aside0.mk hl167_2
              clear hi167_2 hl167_2
              replace p167 := eq_true p167
              replace q167 := eq_true q167
              have p168 : 0 ≤ (x7_4 : Int) := of_decide_eq_true (by (with_reducible assumption))
              have q168 : x7_4 < (x166007_4.length : Int) := of_decide_eq_true (by (with_reducible assumption))
              obtain ⟨ad168, A168_2, c168_2, e168, hx168_0, hx168_1, hx168_2, hl168_2, hi168_2⟩ := at_T42 (Kd.N_reads' HO_166007.out).2.2 x7_4 p168 q168
              obtain rfl : ad167 = ad168 := (by injection e168)
              obtain ⟨ce168, hce168, hMe168, hcc168⟩ := Kd.N_get HO_166007.out z42 x7_4 p168 (by exact q168)
              obtain ⟨ua168_2, uc168_2, rfl, ul168_2, ge168_2⟩ := k42_openF hMe168
              have hv168_2 := hcc168 2 _ rfl
              rw [add_field _ _ 2 (by omega)] at hv168_2
              replace hv168_2 := Option.some.inj (hv168_2.symm.trans hx168_2)
              injection hv168_2 with hva_ hvn_ hvc_
              rw [hva_] at ge168_2
              rw [hvc_] at ul168_2
              have HL168_2 := Aside0.mk (show Kd.V (Kd.int .u8) 5 _ w.heap.size _ _ ((rd_T42 x166007_4 x7_4).f2) from Kd.V_mk ul168_2 ge168_2)
              clear hva_ hvn_ hvc_ ge168_2 ul168_2
              clear hcc168 hce168
              have HR168_2 := Aside0.mk hi168_2
              have HC168_2 := Aside0.mk hl168_2
              clear hi168_2 hl168_2
              replace p168 := eq_true p168
              replace q168 := eq_true q168
              have ea_ := Option.some.inj (hx167_2.symm.trans hx168_2)
              injection ea_ with ea_ en_ ec_
              subst ea_
              subst ec_
              clear en_
              refine start_ (n := 22) (S := fun w' => w'.cell? ⟨gb165, 0, none⟩ = some (.int .i64 t153) ∧ w'.cell? ⟨gb165, 1, none⟩ = some (.int .i64 t154) ∧ w'.cell? ⟨gb165, 2, none⟩ = some (.int .i64 t155) ∧ w'.cell? ⟨gb165, 3, none⟩ = some (.int .i64 t156) ∧ w'.cell? ⟨gb165, 4, none⟩ = some (.int .i64 t157) ∧ w'.cell? ⟨gb165, 5, none⟩ = some (.int .i64 t158) ∧ w'.cell? ⟨gb165, 6, none⟩ = some (.slice Ao12 t159.length co12) ∧ w'.cell? ⟨gb165, 7, none⟩ = some (.slice (some ad167) x166007_4.length co30) ∧ w'.cell? (ad167.add ((x7_4).toNat * 3)) = some (.int .i64 ((rd_T42 x166007_4 x7_4).f0)) ∧ w'.cell? ⟨(ad167.add ((x7_4).toNat * 3)).block, (ad167.add ((x7_4).toNat * 3)).off + 1, none⟩ = some (.int .u32 ((rd_T42 x166007_4 x7_4).f1)) ∧ w'.cell? ⟨(ad167.add ((x7_4).toNat * 3)).block, (ad167.add ((x7_4).toNat * 3)).off + 2, none⟩ = some (.slice A167_2 ((rd_T42 x166007_4 x7_4).f2).length c167_2) ∧ w'.cell? (ad167.add ((x7_4).toNat * 3)) = some (.int .i64 ((rd_T42 x166007_4 x7_4).f0)) ∧ w'.cell? ⟨(ad167.add ((x7_4).toNat * 3)).block, (ad167.add ((x7_4).toNat * 3)).off + 1, none⟩ = some (.int .u32 ((rd_T42 x166007_4 x7_4).f1)) ∧ w'.cell? ⟨(ad167.add ((x7_4).toNat * 3)).block, (ad167.add ((x7_4).toNat * 3)).off + 2, none⟩ = some (.slice A167_2 ((rd_T42 x166007_4 x7_4).f2).length c167_2)) (ds := [21]) #[false, false, false, false, false, false, false, false, false, false, false, false, false, false, false, false, false, false, false, false, false, false] (by kernel_rfl) rfl rfl ⟨(blk_cell BK165.out 0).trans rfl, (blk_cell BK165.out 1).trans rfl, (blk_cell BK165.out 2).trans rfl, (blk_cell BK165.out 3).trans rfl, (blk_cell BK165.out 4).trans rfl, (blk_cell BK165.out 5).trans rfl, (blk_cell BK165.out 6).trans rfl, (blk_cell BK165.out 7).trans rfl, hx167_0, hx167_1, hx167_2, hx168_0, hx168_1, hx168_2⟩ (fun hHeld => ?_); refine with_tabW grapevinelaw15_bodies.tab11 grapevinelaw15_bodies.bits11 (fun HT_ HW_ => ?_)
              generalize wr.drew = w31 at HO_3 HO_166006 HO_166007 BK165 HB HL167_2 HL168_2 HR167_2 HR168_2 hx167_0 hx167_1 hx167_2 hx168_0 hx168_1 hx168_2 hHeld ⊢
              refine pure_ (i := 0) (N := some 46) (v := ?_) (a' := ?_) #[true, false, false, false, false, false, false, false, false, false, false, false, false, false, false, false, false, false, false, false, false, false] rfl rfl (any_of HT_.out (by kernel_rfl)) (fun _ _ _ h => h) (Or.inl ⟨by rfl, ?_⟩) ?_ ?_
              rotate_left
              ·
               intro w'
               go_simp
               with_reducible rfl
              rotate_left
              ·
               simp only [Act.put, List.setIfInBounds_toArray, List.set_cons_zero, List.set_cons_succ, i64_w, i32_w]
               rfl
              refine pure_ (i := 2) (N := some 48) (v := ?_) (a' := ?_) #[true, false, true, false, false, false, false, false, false, false, false, false, false, false, false, false, false, false, false, false, false, false] rfl rfl (any_of HT_.out (by kernel_rfl)) (fun _ _ _ h => h) (Or.inl ⟨by rfl, ?_⟩) ?_ ?_
              rotate_left
              ·
               intro w'
               go_simp
               with_reducible rfl
              rotate_left
              ·
               simp only [Act.put, List.setIfInBounds_toArray, List.set_cons_zero, List.set_cons_succ, i64_w, i32_w]
               rfl
              refine pure_ (i := 3) (N := some 49) (v := ?_) (a' := ?_) #[true, false, true, true, false, false, false, false, false, false, false, false, false, false, false, false, false, false, false, false, false, false] rfl rfl (any_of HT_.out (by kernel_rfl)) (fun _ _ _ h => h) (Or.inl ⟨by rfl, ?_⟩) ?_ ?_
              rotate_left
              ·
               intro w'
               go_simp
               with_reducible rfl
              rotate_left
              ·
               simp only [Act.put, List.setIfInBounds_toArray, List.set_cons_zero, List.set_cons_succ, i64_w, i32_w]
               rfl
              refine pure_ (i := 5) (N := some 51) (v := ?_) (a' := ?_) #[true, false, true, true, false, true, false, false, false, false, false, false, false, false, false, false, false, false, false, false, false, false] rfl rfl (any_of HT_.out (by kernel_rfl)) (fun _ _ _ h => h) (Or.inl ⟨by rfl, ?_⟩) ?_ ?_
              rotate_left
              ·
               intro w'
               go_simp
               with_reducible rfl
              rotate_left
              ·
               simp only [Act.put, List.setIfInBounds_toArray, List.set_cons_zero, List.set_cons_succ, i64_w, i32_w]
               rfl
              refine pure_ (i := 10) (N := some 56) (v := ?_) (a' := ?_) #[true, false, true, true, false, true, false, false, false, false, true, false, false, false, false, false, false, false, false, false, false, false] rfl rfl (any_of HT_.out (by kernel_rfl)) (fun _ _ _ h => h) (Or.inl ⟨by rfl, ?_⟩) ?_ ?_
              rotate_left
              ·
               intro w'
               go_simp
               with_reducible rfl
              rotate_left
              ·
               simp only [Act.put, List.setIfInBounds_toArray, List.set_cons_zero, List.set_cons_succ, i64_w, i32_w]
               rfl
              refine pure_ (i := 12) (N := some 58) (v := ?_) (a' := ?_) #[true, false, true, true, false, true, false, false, false, false, true, false, true, false, false, false, false, false, false, false, false, false] rfl rfl (any_of HT_.out (by kernel_rfl)) (fun _ _ _ h => h) (Or.inl ⟨by rfl, ?_⟩) ?_ ?_
              rotate_left
              ·
               intro w'
               go_simp
               with_reducible rfl
              rotate_left
              ·
               simp only [Act.put, List.setIfInBounds_toArray, List.set_cons_zero, List.set_cons_succ, i64_w, i32_w]
               rfl
              refine take_ (i := 1) (N := some 47) (v := ?_) (a' := ?_) #[true, true, true, true, false, true, false, false, false, false, true, false, true, false, false, false, false, false, false, false, false, false] rfl rfl (take_ofW HT_.out HW_.out (by kernel_rfl)) (fun _ _ _ h => h) (Or.inl ⟨by rfl, ?_⟩) hHeld ?_ ?_
              rotate_left
              ·
               rintro w' ⟨s0, s1, s2, s3, s4, s5, s6, s7, s8, s9, s10, s11, s12, s13⟩
               go_simp
               with_reducible rfl
              rotate_left
              ·
               simp only [Act.put, List.setIfInBounds_toArray, List.set_cons_zero, List.set_cons_succ, i64_w, i32_w]
               rfl
              refine take_ (i := 4) (N := some 50) (v := ?_) (a' := ?_) #[true, true, true, true, true, true, false, false, false, false, true, false, true, false, false, false, false, false, false, false, false, false] rfl rfl (take_ofW HT_.out HW_.out (by kernel_rfl)) (fun _ _ _ h => h) (Or.inl ⟨by rfl, ?_⟩) hHeld ?_ ?_
              rotate_left
              ·
               rintro w' ⟨s0, s1, s2, s3, s4, s5, s6, s7, s8, s9, s10, s11, s12, s13⟩
               go_simp
               with_reducible rfl
              rotate_left
              ·
               simp only [Act.put, List.setIfInBounds_toArray, List.set_cons_zero, List.set_cons_succ, i64_w, i32_w]
               rfl
              refine pure_ (i := 6) (N := some 52) (v := ?_) (a' := ?_) #[true, true, true, true, true, true, true, false, false, false, true, false, true, false, false, false, false, false, false, false, false, false] rfl rfl (any_of HT_.out (by kernel_rfl)) (fun _ _ _ h => h) (Or.inl ⟨by rfl, ?_⟩) ?_ ?_
              rotate_left
              ·
               intro w'
               go_simp
               with_reducible rfl
              rotate_left
              ·
               simp only [Act.put, List.setIfInBounds_toArray, List.set_cons_zero, List.set_cons_succ, i64_w, i32_w]
               rfl
              refine pure_ (i := 7) (N := some 53) (v := ?_) (a' := ?_) #[true, true, true, true, true, true, true, true, false, false, true, false, true, false, false, false, false, false, false, false, false, false] rfl rfl (any_of HT_.out (by kernel_rfl)) (fun _ _ _ h => h) (Or.inl ⟨by rfl, ?_⟩) ?_ ?_
              rotate_left
              ·
               intro w'
               go_simp
               with_reducible rfl
              rotate_left
              ·
               simp only [Act.put, List.setIfInBounds_toArray, List.set_cons_zero, List.set_cons_succ, i64_w, i32_w]
               rfl
              refine take_ (i := 8) (N := some 54) (v := ?_) (a' := ?_) #[true, true, true, true, true, true, true, true, true, false, true, false, true, false, false, false, false, false, false, false, false, false] rfl rfl (take_ofW HT_.out HW_.out (by kernel_rfl)) (fun _ _ _ h => h) (Or.inl ⟨by rfl, ?_⟩) hHeld ?_ ?_
              rotate_left
              ·
               rintro w' ⟨s0, s1, s2, s3, s4, s5, s6, s7, s8, s9, s10, s11, s12, s13⟩
               go_simp
               with_reducible rfl
              rotate_left
              ·
               simp only [Act.put, List.setIfInBounds_toArray, List.set_cons_zero, List.set_cons_succ, i64_w, i32_w]
               rfl
              refine pure_ (i := 9) (N := some 55) (v := ?_) (a' := ?_) #[true, true, true, true, true, true, true, true, true, true, true, false, true, false, false, false, false, false, false, false, false, false] rfl rfl (any_of HT_.out (by kernel_rfl)) (fun _ _ _ h => h) (Or.inl ⟨by rfl, ?_⟩) ?_ ?_
              rotate_left
              ·
               intro w'
               go_simp
               with_reducible rfl
              rotate_left
              ·
               simp only [Act.put, List.setIfInBounds_toArray, List.set_cons_zero, List.set_cons_succ, i64_w, i32_w]
               rfl
              refine take_ (i := 11) (N := some 57) (v := ?_) (a' := ?_) #[true, true, true, true, true, true, true, true, true, true, true, true, true, false, false, false, false, false, false, false, false, false] rfl rfl (take_ofW HT_.out HW_.out (by kernel_rfl)) (fun _ _ _ h => h) (Or.inl ⟨by rfl, ?_⟩) hHeld ?_ ?_
              rotate_left
              ·
               rintro w' ⟨s0, s1, s2, s3, s4, s5, s6, s7, s8, s9, s10, s11, s12, s13⟩
               go_simp
               with_reducible rfl
              rotate_left
              ·
               simp only [Act.put, List.setIfInBounds_toArray, List.set_cons_zero, List.set_cons_succ, i64_w, i32_w]
               rfl
              refine pure_ (i := 13) (N := some 59) (v := ?_) (a' := ?_) #[true, true, true, true, true, true, true, true, true, true, true, true, true, true, false, false, false, false, false, false, false, false] rfl rfl (any_of HT_.out (by kernel_rfl)) (fun _ _ _ h => h) (Or.inl ⟨by rfl, ?_⟩) ?_ ?_
              rotate_left
              ·
               intro w'
               go_simp
               with_reducible rfl
              rotate_left
              ·
               simp only [Act.put, List.setIfInBounds_toArray, List.set_cons_zero, List.set_cons_succ, i64_w, i32_w]
               rfl
              refine pure_ (i := 14) (N := some 60) (v := ?_) (a' := ?_) #[true, true, true, true, true, true, true, true, true, true, true, true, true, true, true, false, false, false, false, false, false, false] rfl rfl (any_of HT_.out (by kernel_rfl)) (fun _ _ _ h => h) (Or.inl ⟨by rfl, ?_⟩) ?_ ?_
              rotate_left
              ·
               intro w'
               go_simp
               with_reducible rfl
              rotate_left
              ·
               simp only [Act.put, List.setIfInBounds_toArray, List.set_cons_zero, List.set_cons_succ, i64_w, i32_w]
               rfl
              refine take_ (i := 15) (N := some 61) (v := ?_) (a' := ?_) #[true, true, true, true, true, true, true, true, true, true, true, true, true, true, true, true, false, false, false, false, false, false] rfl rfl (take_ofW HT_.out HW_.out (by kernel_rfl)) (fun _ _ _ h => h) (Or.inl ⟨by rfl, ?_⟩) hHeld ?_ ?_
              rotate_left
              ·
               rintro w' ⟨s0, s1, s2, s3, s4, s5, s6, s7, s8, s9, s10, s11, s12, s13⟩
               go_simp
               with_reducible rfl
              rotate_left
              ·
               simp only [Act.put, List.setIfInBounds_toArray, List.set_cons_zero, List.set_cons_succ, i64_w, i32_w]
               rfl
              refine pure_ (i := 16) (N := some 62) (v := ?_) (a' := ?_) #[true, true, true, true, true, true, true, true, true, true, true, true, true, true, true, true, true, false, false, false, false, false] rfl rfl (any_of HT_.out (by kernel_rfl)) (fun _ _ _ h => h) (Or.inl ⟨by rfl, ?_⟩) ?_ ?_
              rotate_left
              ·
               intro w'
               go_simp
               with_reducible rfl
              rotate_left
              ·
               simp only [Act.put, List.setIfInBounds_toArray, List.set_cons_zero, List.set_cons_succ, i64_w, i32_w]
               rfl
              refine pure_ (i := 17) (N := some 63) (v := ?_) (a' := ?_) #[true, true, true, true, true, true, true, true, true, true, true, true, true, true, true, true, true, true, false, false, false, false] rfl rfl (any_of HT_.out (by kernel_rfl)) (fun _ _ _ h => h) (Or.inl ⟨by rfl, ?_⟩) ?_ ?_
              rotate_left
              ·
               intro w'
               go_simp
               with_reducible rfl
              rotate_left
              ·
               simp only [Act.put, List.setIfInBounds_toArray, List.set_cons_zero, List.set_cons_succ, i64_w, i32_w]
               rfl
              refine one_ (i := 18) (N := some 64) #[true, true, true, true, true, true, true, true, true, true, true, true, true, true, true, true, true, true, true, false, false, false] rfl rfl (one_of HT_.out (by kernel_rfl)) (by decide) (fun K hK => ?_)
              refine Kd.R_lit_step (Kd.int .u8) _ 5 ?hg (N := 64) ?hd (xs := ([((rd_T42 x166007_4 x7_4).f0) % 256, (((rd_T42 x166007_4 x7_4).f0) / 256) % 256] : List Int)) (inner := [.int .u8 (((rd_T42 x166007_4 x7_4).f0) % 256), .int .u8 ((((rd_T42 x166007_4 x7_4).f0) / 256) % 256)]) (ok := fun _ => True) (okp := fun _ => True) ?hr ?hp (fun _ hk => hk) trivial (Below.refl _ _) (Nat.le_refl _) (by simp) ?_; (case hd => rfl); (case hg => rfl); (case hr => (go_simp; rfl)); (case hp => exact (Reps.one (show Kd.M (Kd.int .u8) _ _ _ (((rd_T42 x166007_4 x7_4).f0) % 256) [.int .u8 (((rd_T42 x166007_4 x7_4).f0) % 256)] from rfl) (Reps.one (show Kd.M (Kd.int .u8) _ _ _ ((((rd_T42 x166007_4 x7_4).f0) / 256) % 256) [.int .u8 ((((rd_T42 x166007_4 x7_4).f0) / 256) % 256)] from rfl) (Reps.none _ _))))
              intro v170 w32 ho33 hb hg_ hnew_
              have HS8_ := (hb.cell (World.block_lt_of_cell? _ _ (hHeld.2.2.2.2.2.2.2.2.1))).trans (hHeld.2.2.2.2.2.2.2.2.1)
              have HS9_ := (hb.cell (World.block_lt_of_cell? _ _ (hHeld.2.2.2.2.2.2.2.2.2.1))).trans (hHeld.2.2.2.2.2.2.2.2.2.1)
              have HS10_ := (hb.cell (World.block_lt_of_cell? _ _ (hHeld.2.2.2.2.2.2.2.2.2.2.1))).trans (hHeld.2.2.2.2.2.2.2.2.2.2.1)
              have HS11_ := (hb.cell (World.block_lt_of_cell? _ _ (hHeld.2.2.2.2.2.2.2.2.2.2.2.1))).trans (hHeld.2.2.2.2.2.2.2.2.2.2.2.1)
              have HS12_ := (hb.cell (World.block_lt_of_cell? _ _ (hHeld.2.2.2.2.2.2.2.2.2.2.2.2.1))).trans (hHeld.2.2.2.2.2.2.2.2.2.2.2.2.1)
              have HS13_ := (hb.cell (World.block_lt_of_cell? _ _ (hHeld.2.2.2.2.2.2.2.2.2.2.2.2.2))).trans (hHeld.2.2.2.2.2.2.2.2.2.2.2.2.2)
              clear hg_ hnew_
              (rw [← Ny169.out] at ho33)
              have n0_ := Aside0.mk (Kd.N_elder' (by exact HO_3.out) (Kd.R_base ho33) hb)
              have n1_ := Aside0.mk (Kd.R_below (by exact HO_166006.out) hb)
              have n2_ := Aside0.mk (Kd.N_elder' (by exact HO_166007.out) (Kd.R_base ho33) hb)
              have n3_ := Aside0.mk (Kd.V_elder' (by exact HL167_2.out) (Kd.R_base ho33) hb)
              have n4_ := Aside0.mk (Kd.V_elder' (by exact HL168_2.out) (Kd.R_base ho33) hb)
              have n5_ := Aside0.mk (Kd.R_lower (Kd.R_newM (M := fun k_ => (w.heap.size ≤ k_)) ho33 (below_size (by repeat (with_reducible exact HB.out))) (fun k_ h_ => h_)) (below_size (by repeat (with_reducible exact HB.out))))
              have n6_ := Aside0.mk (blk_below (g := gb165) (o := .cells #[.int .i64 t153, .int .i64 t154, .int .i64 t155, .int .i64 t156, .int .i64 t157, .int .i64 t158, .slice Ao12 t159.length co12, .slice (some ad167) x166007_4.length co30] 33 (0, 0)) (by exact BK165.out) hb)
              have n7_ := Aside0.mk (Kd.C_below (by repeat (with_reducible exact HR167_2.out)) hb)
              have n8_ := Aside0.mk (Kd.C_below (by repeat (with_reducible exact HR168_2.out)) hb)
              have n9_ := Aside0.mk (below_step (by repeat (with_reducible exact HB.out)) hb)
              clear HO_3
              clear HO_166006
              clear HO_166007
              clear HL167_2
              clear HL168_2
              clear BK165
              clear HR167_2
              clear HR168_2
              clear HB
              have HO_3 := n0_
              have HO_166006 := n1_
              have HO_166007 := n2_
              have HL167_2 := n3_
              have HL168_2 := n4_
              have HO171 := n5_
              have BK165 := n6_
              have HR167_2 := n7_
              have HR168_2 := n8_
              have HB := n9_
              clear n0_ n1_ n2_ n3_ n4_ n5_ n6_ n7_ n8_ n9_
              clear hb ho33
              have p28 : 0 ≤ (x7_4 : Int) := of_decide_eq_true (by (with_reducible assumption))
              have q28 : (x7_4 : Int) < ((x166007_4.length : Int) : Int) := of_decide_eq_true (by (with_reducible assumption))
              obtain ⟨go28, co28, eo28, gb28, gl28, cl28, HG28⟩ := Kd.N_form HO_166007.out (by omega)
              (cases eo28)
              have GB28 := Aside0.mk gb28
              have GG28 := Aside0.mk HG28
              clear gb28 gl28 HG28
              (simp only [add_plain] at hx167_0)
              (simp only [add_plain] at hx167_1)
              (simp only [add_plain] at hx167_2)
              (simp only [add_plain] at hx168_0)
              (simp only [add_plain] at hx168_1)
              (simp only [add_plain] at hx168_2)
              obtain ⟨ce28, hcl28, hM28, hcc28, hfr28⟩ := Kd.N_elem HO_166007.out z42 (x7_4 : Int) p28 q28
              obtain ⟨ua28_2, uc28_2, rfl, ul28_2, ge28_2⟩ := k42_openF hM28
              have hx28_0 : World.cell? _ ⟨go28, (x7_4 : Int).toNat * 3, none⟩ = some (.int .i64 ((rd_T42 x166007_4 x7_4).f0)) := hcc28 0 _ rfl
              have hx28_1 : World.cell? _ ⟨go28, (x7_4 : Int).toNat * 3 + 1, none⟩ = some (.int .u32 ((rd_T42 x166007_4 x7_4).f1)) := hcc28 1 _ rfl
              have hx28_2 : World.cell? _ ⟨go28, (x7_4 : Int).toNat * 3 + 2, none⟩ = some (.slice ua28_2 ((rd_T42 x166007_4 x7_4).f2).length uc28_2) := hcc28 2 _ rfl
              have hf28_0 : World.frozen? _ ⟨go28, (x7_4 : Int).toNat * 3, none⟩ = false := hfr28 0
              have hf28_1 : World.frozen? _ ⟨go28, (x7_4 : Int).toNat * 3 + 1, none⟩ = false := hfr28 1
              have hf28_2 : World.frozen? _ ⟨go28, (x7_4 : Int).toNat * 3 + 2, none⟩ = false := hfr28 2
              clear hcl28 hcc28 hfr28 hM28
              replace p28 := eq_true p28
              replace q28 := eq_true q28
              have HX34 := Aside0.mk (show Kd.N k42 42 _ w.heap.size (fun k_ => (w.heap.size ≤ k_) ∧ some k_ ≠ (u3 : Value).ownBlock ∧ some k_ ≠ (.slice Ao12 t159.length co12 : Value).ownBlock ∧ some k_ ≠ (v170 : Value).ownBlock ∧ k_ ≠ gb165) (.slice (some ⟨go28, 0, none⟩) x166007_4.length co30) x166007_4 from (Kd.N_mono (HO_166007.out) (fun k_ hk => ⟨hk.1.1, ⟨hk.1.2.1, ⟨hk.1.2.2.1, ⟨hk.2, hk.1.2.2.2⟩⟩⟩⟩)))
              replace HX34 := Aside0.mk (show Kd.N k42 42 _ w.heap.size (fun k_ => (w.heap.size ≤ k_) ∧ some k_ ≠ (u3 : Value).ownBlock ∧ some k_ ≠ (.slice Ao12 t159.length co12 : Value).ownBlock ∧ k_ ≠ gb165) (.slice (some ⟨go28, 0, none⟩) x166007_4.length co30) x166007_4 from Kd.N_mono HX34.out (fun k_ hk => ⟨hk.1, ⟨hk.2.1, ⟨hk.2.2.1, hk.2.2.2.2⟩⟩⟩))
              obtain ⟨ce34, hcl34, hM34, hcc34, hfr34⟩ := Kd.N_elem HX34.out z42 (x7_4 : Int) (of_decide_eq_true (by (with_reducible assumption))) (by have h_ : (x7_4 : Int) < ((x166007_4.length : Int) : Int) := of_decide_eq_true (by (with_reducible assumption)); exact h_)
              obtain ⟨ua34_2, uc34_2, rfl, ul34_2, ge34_2⟩ := k42_openF hM34
              have hT_ := (Kd.R_types (Kd.R_apart' (Kd.R_apart' (Kd.R_apart' (HO171.out) (Kd.N_typed HO_3.out) (by decide)) (Kd.R_typed HO_166006.out) (by decide)) (Kd.N_typed HO_166007.out) (by decide)) BK165.out (by decide))
              have hM_ := Kd.R_mono (ok' := (fun k_ => ((fun k_ => (w.heap.size ≤ k_) ∧ some k_ ≠ (u3 : Value).ownBlock ∧ some k_ ≠ (.slice Ao12 t159.length co12 : Value).ownBlock ∧ k_ ≠ gb165)) k_ ∧ k_ ≠ go28)) hT_ (fun k_ hk => ⟨⟨hk.1.1.1.1.1, ⟨hk.1.1.1.2, ⟨hk.1.1.2, hk.2⟩⟩⟩, fun e_ => (hk.1.2) (by rw [e_]; rfl)⟩)
              obtain ⟨Av_, cv_, ev_⟩ := Kd.R_slice hM_
              subst ev_
              have HP34 := (Kd.N_seg HX34.out (x7_4 : Int) (of_decide_eq_true (by (with_reducible assumption))) (by have h_ : (x7_4 : Int) < ((x166007_4.length : Int) : Int) := of_decide_eq_true (by (with_reducible assumption)); exact h_) (seg := [(.slice Av_ y169.length cv_)]) (j := 2) hcl34 hcc34 (show 3 ≤ 3 from by decide) (x' := (⟨(rd_T42 x166007_4 x7_4).f0, (rd_T42 x166007_4 x7_4).f1, y169⟩ : S42)) (by have hM2_ := hM_; exact k42_mkF _ _ (⟨(rd_T42 x166007_4 x7_4).f0, (rd_T42 x166007_4 x7_4).f1, y169⟩ : S42) (Kd.R_reads' hM2_).2.1 (Kd.R_F hM2_)) (fun _ hk => hk)).1
              rw [← Ny172.out] at HP34
              have HQ34 := Aside0.mk HP34
              clear hcl34 hcc34 hfr34 hM34 HP34
              refine hK.out _ _ ⟨(blk_cell BK165.out 0).trans rfl, (blk_cell BK165.out 1).trans rfl, (blk_cell BK165.out 2).trans rfl, (blk_cell BK165.out 3).trans rfl, (blk_cell BK165.out 4).trans rfl, (blk_cell BK165.out 5).trans rfl, (blk_cell BK165.out 6).trans rfl, (blk_cell BK165.out 7).trans rfl, HS8_, HS9_, HS10_, HS11_, HS12_, HS13_⟩ (fun hHeld => ?_)
              clear hK K
              refine norm_ (a' := ?_) ?_ ?_
              rotate_left
              ·
               show Act.put _ (some 64) _ = _
               simp only [Act.put, List.setIfInBounds_toArray, List.set_cons_zero, List.set_cons_succ, i64_w, i32_w]
               rfl
              refine pure_ (i := 19) (N := some 65) (v := ?_) (a' := ?_) #[true, true, true, true, true, true, true, true, true, true, true, true, true, true, true, true, true, true, true, true, false, false] rfl rfl (any_of HT_.out (by kernel_rfl)) (fun _ _ _ h => h) (Or.inl ⟨by rfl, ?_⟩) ?_ ?_
              rotate_left
              ·
               intro w'
               go_simp
               with_reducible rfl
              rotate_left
              ·
               simp only [Act.put, List.setIfInBounds_toArray, List.set_cons_zero, List.set_cons_succ, i64_w, i32_w]
               rfl
              refine pure_ (i := 20) (N := some 66) (v := ?_) (a' := ?_) #[true, true, true, true, true, true, true, true, true, true, true, true, true, true, true, true, true, true, true, true, true, false] rfl rfl (any_of HT_.out (by kernel_rfl)) (fun _ _ _ h => h) (Or.inl ⟨by rfl, ?_⟩) ?_ ?_
              rotate_left
              ·
               intro w'
               go_simp
               with_reducible rfl
              rotate_left
              ·
               simp only [Act.put, List.setIfInBounds_toArray, List.set_cons_zero, List.set_cons_succ, i64_w, i32_w]
               rfl
              refine last_ (i := 21) (N := none) #[true, true, true, true, true, true, true, true, true, true, true, true, true, true, true, true, true, true, true, true, true, true] rfl rfl (one_of HT_.out (by kernel_rfl)) (by decide) (fun K hK => ?_)
              refine skip_ (w1 := ?_) (by rfl) rfl ?_ ?_
              rotate_left
              ·
               go_simp
               rfl
              refine hK.out _ _ ?_
              clear hK K
              refine done_ (done_of HT_.out (by kernel_rfl)) ?_
              try go_wp2
              go_roundg k4
              case measure => have := HK1.out; have := HJ1.out; have := HJ7.out; have := HK4.out; omega
              case rel => exact ⟨(wrap64 (x7_4 + 1)), (y172), (.slice (some ⟨go28, 0, none⟩) x166007_4.length co30), (by rfl), H', ⟨by have := HK1.out; have := HJ1.out; have := HJ7.out; have := HK4.out; omega⟩, ⟨by exact Kd.N_mono (Kd.N_far (p := ⟨go28, (x7_4 : Int).toNat * 3 + 2, none⟩) (Kd.N_mono HO_3.out (fun k_ hk => (⟨hk, fun e_ => hk.1.2.2.1 (by rw [e_]; rfl)⟩ : _ ∧ k_ ≠ go28))) (fun _ hk => hk.2) (.slice Av_ y169.length cv_)) (fun _ hk => ⟨hk.1.1.1, ⟨hk.1.1.2.1, ⟨hk.1.1.2.2.1, hk.1.1.2.2.2⟩⟩⟩)⟩, ⟨by exact Kd.R_mono (Kd.R_far (p := ⟨go28, (x7_4 : Int).toNat * 3 + 2, none⟩) (Kd.R_types HO_166006.out GG28.out (by decide)) (fun _ hk => hk.2) (.slice Av_ y169.length cv_)) (fun _ hk => hk.1)⟩, ⟨by exact HQ34.out⟩, ⟨by refine blk_far ?_ (by have h_ := Kd.N_away HO_166007.out (fun _ hk => hk.1.2.2.2); intro e_; exact h_ (by rw [e_]; rfl)) _; exact BK165.out⟩, ⟨by repeat (with_reducible first | exact HB.out | refine below_set ?_ GB28.out)⟩⟩
             rw [if_neg c27] at H
             exact absurd H (by simp)
            rw [if_neg c26] at H
            have c26b0 : decide (x7_4 < (x166007_4.length : Int)) = false := decide_eq_false c26
            clear c26
            by_cases c35 : x3_1.length < 1466015503701
            ·
             rw [if_pos c35] at H
             have LMc35 := Aside0.mk c35
             clear c35
             obtain ⟨y173, hy173⟩ : ∃ y_ : List (S33), y_ = (x3_1 ++ [(⟨t153, t154, t155, t156, t157, t158, t159, x166007_4⟩ : S33)]) := ⟨_, rfl⟩
             replace H : (grapevinelaw15_bodies.l0 k4 l0 y173 (wrap64 (x4_1 + (x166007_4.length : Int))) (wrap64 (x5_1 + 1))) = some r := by (rw [hy173]; with_reducible exact H)
             have Ny173 := Aside0.mk hy173
             clear hy173
             have H' := Aside0.mk H
             clear H
             obtain ⟨hcz36_0, hcz36_1, hcz36_2, hcz36_3, hcz36_4, hcz36_5, hcz36_6, hcz36_7, hfz36_0, hfz36_1, hfz36_2, hfz36_3, hfz36_4, hfz36_5, hfz36_6, hfz36_7⟩ := cz8 BK165.out
             obtain ⟨Ao37, co37, eo37⟩ := Kd.N_slice HO_166007.out
             subst eo37
             go_wp2_with (((with_reducible refine gate_builtin (b := .append) (xs := #[.tmp 72, .tmp 74]) rfl ?_); (try (refine gate_guard (by rfl) ?_; dsimp only)); at_builtin; refine Kd.N_append k33 (w0 := w) w.heap.size rfl (.tmp 72) (.tmp 74) 22 33 (.agg #[(.int .i64 0), (.int .i64 0), (.int .i64 0), (.int .i64 0), (.int .i64 0), (.int .i64 0), (.slice none 0 0), (.slice none 0 0)]) 96 rfl Try.underlying22 info33 rfl (by decide) (by omega) u3 x3_1 (⟨t153, t154, t155, t156, t157, t158, t159, x166007_4⟩ : S33) [.int .i64 t153, .int .i64 t154, .int .i64 t155, .int .i64 t156, .int .i64 t157, .int .i64 t158, .slice Ao12 t159.length co12, .slice Ao37 x166007_4.length co37] (fun k_ => (w.heap.size ≤ k_) ∧ k_ ≠ gb165) (fun k_ => ((fun k_ => (w.heap.size ≤ k_) ∧ k_ ≠ gb165)) k_ ∧ some k_ ≠ (u3 : Value).ownBlock) rfl rfl ?aP (fun _ hk => hk) ?aF ?aO ?aB ?aS ?aL ?_; (case aP => exact (k33_mkF _ _ (⟨t153, t154, t155, t156, t157, t158, t159, x166007_4⟩ : S33) (Kd.R_reads' (Kd.R_mono (ok' := (fun k_ => ((fun k_ => (w.heap.size ≤ k_) ∧ k_ ≠ gb165)) k_ ∧ some k_ ≠ (u3 : Value).ownBlock)) (Kd.R_types (Kd.R_apart' (HO_166006.out) (Kd.N_typed HO_3.out) (by decide)) BK165.out (by decide)) (fun k_ hk => ⟨⟨hk.1.1, hk.2⟩, hk.1.2⟩))).2.1 (Kd.R_F (Kd.R_mono (ok' := (fun k_ => ((fun k_ => (w.heap.size ≤ k_) ∧ k_ ≠ gb165)) k_ ∧ some k_ ≠ (u3 : Value).ownBlock)) (Kd.R_types (Kd.R_apart' (HO_166006.out) (Kd.N_typed HO_3.out) (by decide)) BK165.out (by decide)) (fun k_ hk => ⟨⟨hk.1.1, hk.2⟩, hk.1.2⟩))) (Kd.N_reads' (Kd.N_mono (ok' := (fun k_ => ((fun k_ => (w.heap.size ≤ k_) ∧ k_ ≠ gb165)) k_ ∧ some k_ ≠ (u3 : Value).ownBlock)) (HO_166007.out) (fun k_ hk => ⟨⟨hk.1, hk.2.2.2⟩, hk.2.1⟩))).2.1 (Kd.N_F (Kd.N_mono (ok' := (fun k_ => ((fun k_ => (w.heap.size ≤ k_) ∧ k_ ≠ gb165)) k_ ∧ some k_ ≠ (u3 : Value).ownBlock)) (HO_166007.out) (fun k_ hk => ⟨⟨hk.1, hk.2.2.2⟩, hk.2.1⟩))))); (case aB => exact (by repeat (with_reducible exact HB.out))); (case aF => exact (fun k_ hk => ⟨(Nat.le_trans (below_size (by repeat (with_reducible exact HB.out))) hk), Kd.freshB (g := gb165) (o := .cells #[.int .i64 t153, .int .i64 t154, .int .i64 t155, .int .i64 t156, .int .i64 t157, .int .i64 t158, .slice Ao12 t159.length co12, .slice Ao37 x166007_4.length co37] 33 (0, 0)) (by exact BK165.out) k_ hk⟩)); (case aO => exact (by exact Kd.N_mono HO_3.out (fun _ hk => ⟨hk.1, hk.2.2.2⟩))); (case aS => exact (below_size (by repeat (with_reducible exact HB.out)))); (case aL => have := LMc35.out; omega); intro v174 w38 ho hb hg hat; rw [← Ny173.out] at ho; have n0_ := Aside0.mk (blk_grown (g := gb165) (o := .cells #[.int .i64 t153, .int .i64 t154, .int .i64 t155, .int .i64 t156, .int .i64 t157, .int .i64 t158, .slice Ao12 t159.length co12, .slice Ao37 x166007_4.length co37] 33 (0, 0)) (by exact BK165.out) hg (Kd.N_away HO_3.out (fun _ hk => hk.2.2.2))); have n1_ := Aside0.mk (hb); have n2_ := Aside0.mk (ho); clear BK165; clear HB; clear HO_3; clear HO_166006; clear HO_166007; have BK165 := n0_; have HB := n1_; have HO175 := n2_; clear n0_ n1_ n2_; clear ho hb hg hat))
             go_roundg k4
             case measure => have := HK1.out; have := HJ1.out; have := HJ7.out; have := HK4.out; omega
             case rel => exact ⟨(y173), (wrap64 (x4_1 + (x166007_4.length : Int))), (wrap64 (x5_1 + 1)), (by rfl), (by rfl), H', ⟨by have := HK1.out; have := HJ1.out; have := HJ7.out; have := HK4.out; omega⟩, ⟨by exact Kd.N_mono HO175.out (fun _ hk => hk.1)⟩, ⟨by repeat (with_reducible exact HB.out)⟩⟩
            rw [if_neg c35] at H
            exact absurd H (by simp)
       rw [if_neg c6] at H
       exact absurd H (by simp)
      rw [if_neg c5] at H
      exact absurd H (by simp)
     replace c4 := Bool.eq_false_iff.mpr c4
     subst c4
     have H1 : (some x3_1) = some r := by rw [if_neg (show ¬ (false = true) by decide)] at H; exact H
     clear H
     have H := H1
     clear H1
     obtain rfl := Option.some.inj H
     go_wp2
     go_ret
     exact ⟨_, by rfl, by exact HO_3.out, by repeat (with_reducible exact HB.out)⟩

end Go.Proofs.Ytffefaiaifhokaa.PT
