import Derived.Test.YtoandmnefgimoaaDoorLBPLx0
import Derived.Test.YtoandmnefgimoaaDoorLBPLx23
namespace Go.Proofs.YtoandmnefgimoaaDoor.PL
open Go.RowKit Go.Proofs.YtoandmnefgimoaaDoorW.PrintWords Go.Proofs.YtoandmnefgimoaaDoorW.PrintLast Go.Proofs.YtoandmnefgimoaaDoorW.PrintMore
attribute [local go_sem] max2_int min2_int max_two min_two max_three min_three max_four min_four
set_option linter.unusedVariables false
set_option linter.unusedSimpArgs false
mutual
def grapevineref01_More.l0 : Nat → List Int → Int → Int → Option (Int)
 | 0, _, _, _ => none
 | k + 1, x1, x5, x6 => if x6 < (x1.length : Int) then (if 0 ≤ x6 then (grapevineref01_More.l1 k x1 (Go.bits .xor .u32 x5 ((rd x1 x6) % 4294967296)) x6 0) else (none)) else (some (Go.bits .xor .u32 x5 4294967295))
def grapevineref01_More.l1 : Nat → List Int → Int → Int → Int → Option (Int)
 | 0, _, _, _, _ => none
 | k + 1, x1, x5, x6, x7 => if x7 < 8 then (if (Int.tmod x5 2) = 1 then (grapevineref01_More.l1 k x1 (Go.bits .xor .u32 ((Int.tdiv x5 2) % 4294967296) 2197175160) x6 (wrap64 (x7 + 1))) else (grapevineref01_More.l1 k x1 ((Int.tdiv x5 2) % 4294967296) x6 (wrap64 (x7 + 1)))) else (grapevineref01_More.l0 k x1 x5 (wrap64 (x6 + 1)))
end
def grapevineref01_More.f (k : Nat) (a0 : Int) (l1 : List Int) : Option (Int) := grapevineref01_More.l0 k l1 (Go.bits .xor .u32 a0 4294967295) 0
set_option maxHeartbeats 8000000 in
set_option maxRecDepth 100000 in
theorem grapevineref01_More.calls (k : Nat) (a0 : Int) (A1 : Option Addr) (c1 : Nat) (l1 : List Int) (r : Int) (w : World) (hr1 : Kd.C (Kd.int .u8) w A1 l1.length l1) (hc1 : l1.length ≤ c1) (h : grapevineref01_More.f k a0 l1 = some r) :
 Calls Tryd.prog 61 #[.int .u32 a0, .slice A1 l1.length c1] w fun e w' => e = .returned (.int .u32 r) ∧ Drawn0 w w' := by
 have HR1 := am_ hr1
 have HC1 := am_ hc1
 clear hr1 hc1
 have H : (grapevineref01_More.l0 k l1 (Go.bits .xor .u32 a0 4294967295) 0) = some r := h
 clear h
 have H' := am_ H
 clear H
 go_enter Tryd.func61, Tryd.ntmps61
 go_wp2
 go_loopg [5, 6] k (fun kq v5 v6 w' => ∃ (x5_1 : Int) (x6_1 : Int), v5 = .int .u32 x5_1 ∧ v6 = .int .i64 x6_1 ∧ Aside0 (grapevineref01_More.l0 kq l1 x5_1 x6_1 = some r) ∧ Aside0 (kq ≤ k) ∧ Drawn0 w w')
 case atStart => exact ⟨(Go.bits .xor .u32 a0 4294967295), (0), (by rfl), (by rfl), H', ⟨Nat.le_refl _⟩, by repeat (exact Drawn0.refl _)⟩
 case round =>
 clear H'
 obtain ⟨x5_1, x6_1, rfl, rfl, HA, HK1, ⟨m1, rfl⟩⟩ := hrel
 cases gk with
 | zero => exact absurd HA.out (by simp [grapevineref01_More.l0])
 | succ k1 =>
 have H := HA.out
 clear HA
 simp only [grapevineref01_More.l0] at H
 by_cases c3 : x6_1 < (l1.length : Int)
 ·
  rw [if_pos c3] at H
  have c3b0 : decide (x6_1 < (l1.length : Int)) = true := decide_eq_true c3
  clear c3
  by_cases c4 : 0 ≤ x6_1
  ·
   rw [if_pos c4] at H
   have c4b0 : decide (0 ≤ x6_1) = true := decide_eq_true c4
   clear c4
   have H' := am_ H
   clear H
   have p202 : 0 ≤ (x6_1 : Int) := of_decide_eq_true (by (with_reducible assumption))
   have q202 : x6_1 < (l1.length : Int) := of_decide_eq_true (by (with_reducible assumption))
   obtain ⟨ad202, e202, hx202_0⟩ := Kd.at_int HR1.out x6_1 p202 q202
   cases e202
   replace p202 := eq_true p202
   replace q202 := eq_true q202
   go_wp2
   go_loopg [5, 7] k1 (fun kq v5 v7 w' => ∃ (x5_2 : Int) (x7_2 : Int), v5 = .int .u32 x5_2 ∧ v7 = .int .i64 x7_2 ∧ Aside0 (grapevineref01_More.l1 kq l1 x5_2 x6_1 x7_2 = some r) ∧ Aside0 (kq ≤ k1) ∧ Drawn0 w w')
   case atStart => exact ⟨(Go.bits .xor .u32 x5_1 ((rd l1 x6_1) % 4294967296)), (0), (by rfl), (by rfl), H', ⟨Nat.le_refl _⟩, by repeat (first | exact Drawn0.refl _ | apply Drawn0.step)⟩
   case round =>
   clear H'
   try clear c3b0
   try clear c4b0
   try clear hx202_0
   try clear p202
   try clear q202
   obtain ⟨x5_2, x7_2, rfl, rfl, HA, HK2, ⟨m2, rfl⟩⟩ := hrel
   cases gk with
   | zero => exact absurd HA.out (by simp [grapevineref01_More.l1])
   | succ k2 =>
   have H := HA.out
   clear HA
   simp only [grapevineref01_More.l1] at H
   by_cases c5 : x7_2 < 8
   ·
    rw [if_pos c5] at H
    have c5b0 : decide (x7_2 < 8) = true := decide_eq_true c5
    clear c5
    by_cases c6 : (Int.tmod x5_2 2) = 1
    ·
     rw [if_pos c6] at H
     have c6b0 : ((Int.tmod x5_2 2) == 1) = true := beq_iff_eq.mpr c6
     have c6b1 : ((Int.tmod x5_2 2) != 1) = false := bne_eq_false_iff_eq.mpr c6
     clear c6
     have H' := am_ H
     clear H
     go_wp2
     go_roundg k2
     case measure => have := HK1.out; have := HK2.out; omega
     case rel => exact ⟨(Go.bits .xor .u32 ((Int.tdiv x5_2 2) % 4294967296) 2197175160), (wrap64 (x7_2 + 1)), (by rfl), (by rfl), H', ⟨by have := HK1.out; have := HK2.out; omega⟩, by repeat (first | exact Drawn0.refl _ | apply Drawn0.step)⟩
    rw [if_neg c6] at H
    have c6b0 : ((Int.tmod x5_2 2) == 1) = false := beq_eq_false_iff_ne.mpr c6
    have c6b1 : ((Int.tmod x5_2 2) != 1) = true := bne_iff_ne.mpr c6
    have H' := am_ H
    clear H
    go_wp2
    go_roundg k2
    case measure => have := HK1.out; have := HK2.out; omega
    case rel => exact ⟨((Int.tdiv x5_2 2) % 4294967296), (wrap64 (x7_2 + 1)), (by rfl), (by rfl), H', ⟨by have := HK1.out; have := HK2.out; omega⟩, by repeat (first | exact Drawn0.refl _ | apply Drawn0.step)⟩
   rw [if_neg c5] at H
   have c5b0 : decide (x7_2 < 8) = false := decide_eq_false c5
   clear c5
   have H' := am_ H
   clear H
   go_wp2
   go_roundg k2
   case measure => have := HK1.out; have := HK2.out; omega
   case rel => exact ⟨(x5_2), (wrap64 (x6_1 + 1)), (by rfl), (by rfl), H', ⟨by have := HK1.out; have := HK2.out; omega⟩, by repeat (first | exact Drawn0.refl _ | apply Drawn0.step)⟩
  rw [if_neg c4] at H
  exact absurd H (by simp)
 rw [if_neg c3] at H
 have c3b0 : decide (x6_1 < (l1.length : Int)) = false := decide_eq_false c3
 clear c3
 obtain rfl := Option.some.inj H
 go_wp2
 go_ret
 exact ⟨by first | rfl | (simp; done) | (simp [*]; done), by repeat (first | exact Drawn0.refl _ | apply Drawn0.step)⟩
def grapevineref01_Sum.f (k : Nat) (l0 : List Int) : Option (Int) := (grapevineref01_More.f k 0 l0).bind fun t203 => (some t203)
set_option maxHeartbeats 8000000 in
set_option maxRecDepth 100000 in
theorem grapevineref01_Sum.calls (k : Nat) (A0 : Option Addr) (c0 : Nat) (l0 : List Int) (r : Int) (w : World) (hr0 : Kd.C (Kd.int .u8) w A0 l0.length l0) (hc0 : l0.length ≤ c0) (h : grapevineref01_Sum.f k l0 = some r) :
 Calls Tryd.prog 55 #[.slice A0 l0.length c0] w fun e w' => e = .returned (.int .u32 r) ∧ Drawn0 w w' := by
 have HR0 := am_ hr0
 have HC0 := am_ hc0
 clear hr0 hc0
 have H : ((grapevineref01_More.f k 0 l0).bind fun t203 => (some t203)) = some r := h
 clear h
 replace H := Option.bind_eq_some_iff.mp H
 obtain ⟨t203, A20, H⟩ := H
 try dsimp only at H
 have A2 := am_ A20
 clear A20
 obtain rfl := Option.some.inj H
 go_enter Tryd.func55, Tryd.ntmps55
 go_wp2_with (((with_reducible refine gate_callee (f := 61) rfl ?_); refine gL (some 4) Tryd.func61 #[.int .u32 0, .slice A0 l0.length c0] ?_; (with_reducible refine (grapevineref01_More.calls k 0 _ _ l0 t203 _ ?side1 ?side2 A2.out).mono ?_); (case side1 => repeat (exact HR0.out)); (case side2 => exact HC0.out); rintro e w' ⟨rfl, ⟨nd, rfl⟩⟩; refine ⟨_, rfl, ?_⟩))
 go_ret
 exact ⟨by first | rfl | (simp; done) | (simp [*]; done), by repeat (first | exact Drawn0.refl _ | apply Drawn0.step)⟩
def grapevineref01_Four.f (a0 : Int) : Option (List Int) := some (([(a0) % 256, ((Int.tdiv a0 256) % 4294967296) % 256, ((Int.tdiv a0 65536) % 4294967296) % 256, ((Int.tdiv a0 16777216) % 4294967296) % 256] : List Int))
set_option maxHeartbeats 8000000 in
set_option maxRecDepth 100000 in
theorem grapevineref01_Four.calls (a0 : Int) (r : List Int) (w : World) (h : grapevineref01_Four.f a0 = some r) :
 Calls Tryd.prog 56 #[.int .u32 a0] w fun e w' => ∃ v0_ : Value, e = .returned (v0_) ∧ Kd.R (Kd.int .u8) 5 w' w.heap.size (fun _ => True) v0_ r ∧ Below w.heap.size w w' := by
 have HB := am_ (Below.refl w.heap.size w)
 have H : (some (([(a0) % 256, ((Int.tdiv a0 256) % 4294967296) % 256, ((Int.tdiv a0 65536) % 4294967296) % 256, ((Int.tdiv a0 16777216) % 4294967296) % 256] : List Int))) = some r := h
 clear h
 obtain ⟨y204, hy204⟩ : ∃ y_ : List Int, y_ = (([(a0) % 256, ((Int.tdiv a0 256) % 4294967296) % 256, ((Int.tdiv a0 65536) % 4294967296) % 256, ((Int.tdiv a0 16777216) % 4294967296) % 256] : List Int)) := ⟨_, rfl⟩
 replace H : (some y204) = some r := by (rw [hy204]; with_reducible exact H)
 have Ny204 := am_ hy204
 clear hy204
 obtain rfl := Option.some.inj H
 go_enter Tryd.func56, Tryd.ntmps56
 go_wp2_with (((with_reducible refine gd_ (N := 14) rfl ?_); refine Kd.R_lit (Kd.int .u8) _ 5 ?hg (N := 14) ?hd (xs := ([(a0) % 256, ((Int.tdiv a0 256) % 4294967296) % 256, ((Int.tdiv a0 65536) % 4294967296) % 256, ((Int.tdiv a0 16777216) % 4294967296) % 256] : List Int)) (inner := [.int .u8 ((a0) % 256), .int .u8 (((Int.tdiv a0 256) % 4294967296) % 256), .int .u8 (((Int.tdiv a0 65536) % 4294967296) % 256), .int .u8 (((Int.tdiv a0 16777216) % 4294967296) % 256)]) (ok := fun _ => True) (okp := fun _ => True) ?hr ?hp (fun _ hk => hk) trivial (Below.refl _ _) (Nat.le_refl _) (by simp) ?_; (case hd => rfl); (case hg => rfl); (case hr => (go_simp; done)); (case hp => exact (Reps.one (show Kd.M (Kd.int .u8) _ _ _ ((a0) % 256) [.int .u8 ((a0) % 256)] from rfl) (Reps.one (show Kd.M (Kd.int .u8) _ _ _ (((Int.tdiv a0 256) % 4294967296) % 256) [.int .u8 (((Int.tdiv a0 256) % 4294967296) % 256)] from rfl) (Reps.one (show Kd.M (Kd.int .u8) _ _ _ (((Int.tdiv a0 65536) % 4294967296) % 256) [.int .u8 (((Int.tdiv a0 65536) % 4294967296) % 256)] from rfl) (Reps.one (show Kd.M (Kd.int .u8) _ _ _ (((Int.tdiv a0 16777216) % 4294967296) % 256) [.int .u8 (((Int.tdiv a0 16777216) % 4294967296) % 256)] from rfl) (Reps.none _ _)))))); intro v205 w2 ho3 hb hg_ hnew_; clear hg_ hnew_; (rw [← Ny204.out] at ho3); have n0_ := am_ (Kd.R_lower ho3 (bz_ HB.out)); have n1_ := am_ (below_step HB.out hb); clear HB; have HO206 := n0_; have HB := n1_; clear n0_ n1_; clear hb ho3))
 go_ret
 exact ⟨_, by rfl, by exact HO206.out, by repeat (with_reducible exact HB.out)⟩
def grapevineref01_Seal.f (k : Nat) (a0 : Int) (l1 : List Int) : Option (List Int × Int) := if (l1.length : Int) > 4096 then (some (([] : List Int), 6)) else ((some (([a0, (l1.length : Int) % 256, (wrap64 ((l1.length : Int) / 256)) % 256] : List Int) : List Int)).bind fun y207 => (if y207.length + l1.length < 140737488355328 then ((some (y207 ++ l1 : List Int)).bind fun y210 => ((grapevineref01_Sum.f k y210).bind fun t213 => ((some (([167] : List Int) : List Int)).bind fun y214 => (if y214.length + y210.length < 140737488355328 then ((some (y214 ++ y210 : List Int)).bind fun y217 => ((grapevineref01_Four.f t213).bind fun t220 => (if y217.length + t220.length < 140737488355328 then (some ((y217 ++ t220), 0)) else (none)))) else (none))))) else (none)))
set_option maxHeartbeats 8000000 in
set_option maxRecDepth 100000 in
theorem grapevineref01_Seal.calls (k : Nat) (a0 : Int) (A1 : Option Addr) (c1 : Nat) (l1 : List Int) (r1 : List Int) (r2 : Int) (w : World) (hr1 : Kd.C (Kd.int .u8) w A1 l1.length l1) (hc1 : l1.length ≤ c1) (h : grapevineref01_Seal.f k a0 l1 = some (r1, r2)) :
 Calls Tryd.prog 44 #[.int .u8 a0, .slice A1 l1.length c1] w fun e w' => ∃ v0_ : Value, e = .returned (.tuple #[v0_, .int .i64 r2]) ∧ Kd.R (Kd.int .u8) 5 w' w.heap.size (fun _ => True) v0_ r1 ∧ Below w.heap.size w w' := by
 have HR1 := am_ hr1
 have HC1 := am_ hc1
 clear hr1 hc1
 have HB := am_ (Below.refl w.heap.size w)
 have H : (if (l1.length : Int) > 4096 then (some (([] : List Int), 6)) else ((some (([a0, (l1.length : Int) % 256, (wrap64 ((l1.length : Int) / 256)) % 256] : List Int) : List Int)).bind fun y207 => (if y207.length + l1.length < 140737488355328 then ((some (y207 ++ l1 : List Int)).bind fun y210 => ((grapevineref01_Sum.f k y210).bind fun t213 => ((some (([167] : List Int) : List Int)).bind fun y214 => (if y214.length + y210.length < 140737488355328 then ((some (y214 ++ y210 : List Int)).bind fun y217 => ((grapevineref01_Four.f t213).bind fun t220 => (if y217.length + t220.length < 140737488355328 then (some ((y217 ++ t220), 0)) else (none)))) else (none))))) else (none)))) = some (r1, r2) := h
 clear h
 by_cases c3 : (l1.length : Int) > 4096
 ·
  rw [if_pos c3] at H
  have c3b0 : decide (4096 < (l1.length : Int)) = true := decide_eq_true c3
  have c3b1 : decide (4096 < l1.length) = true := decide_eq_true (by omega)
  clear c3
  simp only [Option.some.injEq, Prod.mk.injEq] at H
  obtain ⟨rfl, rfl⟩ := H
  go_enter Tryd.func44, Tryd.ntmps44
  go_wp2
  go_ret2
  exact ⟨_, by first | rfl | (simp [errW_none, errW_some] <;> rfl) | (simp [*, errW_none, errW_some] <;> rfl), by first | exact Kd.R_nil _ _ _ _ _ | exact Kd.N_nil _ _ _ _ _ | exact Kd.V_nil _ _ _ _ _ | exact Kd.Q_nil _ _ _ _ _ | exact Kd.S_nil _ _ _ _ _, by repeat (first | (with_reducible first | exact HB.out | apply ba_ | apply bn_ | apply bd_) | exact HB.out)⟩
 rw [if_neg c3] at H
 have c3b0 : decide (4096 < (l1.length : Int)) = false := decide_eq_false c3
 have c3b1 : decide (4096 < l1.length) = false := decide_eq_false (by omega)
 clear c3
 obtain ⟨y207, hy207⟩ : ∃ y_ : List Int, y_ = (([a0, (l1.length : Int) % 256, (wrap64 ((l1.length : Int) / 256)) % 256] : List Int)) := ⟨_, rfl⟩
 replace H : (if y207.length + l1.length < 140737488355328 then ((some (y207 ++ l1 : List Int)).bind fun y210 => ((grapevineref01_Sum.f k y210).bind fun t213 => ((some (([167] : List Int) : List Int)).bind fun y214 => (if y214.length + y210.length < 140737488355328 then ((some (y214 ++ y210 : List Int)).bind fun y217 => ((grapevineref01_Four.f t213).bind fun t220 => (if y217.length + t220.length < 140737488355328 then (some ((y217 ++ t220), 0)) else (none)))) else (none))))) else (none)) = some (r1, r2) := by (have H2_ := (Option.bind_some _ _).symm.trans H; rw [hy207]; with_reducible exact H2_)
 have Ny207 := am_ hy207
 clear hy207
 by_cases c4 : y207.length + l1.length < 140737488355328
 ·
  rw [if_pos c4] at H
  have LMc4 := am_ c4
  clear c4
  obtain ⟨y210, hy210⟩ : ∃ y_ : List Int, y_ = (y207 ++ l1) := ⟨_, rfl⟩
  replace H : ((grapevineref01_Sum.f k y210).bind fun t213 => ((some (([167] : List Int) : List Int)).bind fun y214 => (if y214.length + y210.length < 140737488355328 then ((some (y214 ++ y210 : List Int)).bind fun y217 => ((grapevineref01_Four.f t213).bind fun t220 => (if y217.length + t220.length < 140737488355328 then (some ((y217 ++ t220), 0)) else (none)))) else (none)))) = some (r1, r2) := by (have H2_ := (Option.bind_some _ _).symm.trans H; rw [hy210]; with_reducible exact H2_)
  have Ny210 := am_ hy210
  clear hy210
  replace H := Option.bind_eq_some_iff.mp H
  obtain ⟨t213, A50, H⟩ := H
  try dsimp only at H
  have A5 := am_ A50
  clear A50
  obtain ⟨y214, hy214⟩ : ∃ y_ : List Int, y_ = (([167] : List Int)) := ⟨_, rfl⟩
  replace H : (if y214.length + y210.length < 140737488355328 then ((some (y214 ++ y210 : List Int)).bind fun y217 => ((grapevineref01_Four.f t213).bind fun t220 => (if y217.length + t220.length < 140737488355328 then (some ((y217 ++ t220), 0)) else (none)))) else (none)) = some (r1, r2) := by (have H2_ := (Option.bind_some _ _).symm.trans H; rw [hy214]; with_reducible exact H2_)
  have Ny214 := am_ hy214
  clear hy214
  by_cases c6 : y214.length + y210.length < 140737488355328
  ·
   rw [if_pos c6] at H
   have LMc6 := am_ c6
   clear c6
   obtain ⟨y217, hy217⟩ : ∃ y_ : List Int, y_ = (y214 ++ y210) := ⟨_, rfl⟩
   replace H : ((grapevineref01_Four.f t213).bind fun t220 => (if y217.length + t220.length < 140737488355328 then (some ((y217 ++ t220), 0)) else (none))) = some (r1, r2) := by (have H2_ := (Option.bind_some _ _).symm.trans H; rw [hy217]; with_reducible exact H2_)
   have Ny217 := am_ hy217
   clear hy217
   replace H := Option.bind_eq_some_iff.mp H
   obtain ⟨t220, A70, H⟩ := H
   try dsimp only at H
   have A7 := am_ A70
   clear A70
   by_cases c8 : y217.length + t220.length < 140737488355328
   ·
    rw [if_pos c8] at H
    have LMc8 := am_ c8
    clear c8
    obtain ⟨y223, hy223⟩ : ∃ y_ : List Int, y_ = (y217 ++ t220) := ⟨_, rfl⟩
    replace H : (some (y223, 0)) = some (r1, r2) := by (rw [hy223]; with_reducible exact H)
    have Ny223 := am_ hy223
    clear hy223
    simp only [Option.some.injEq, Prod.mk.injEq] at H
    obtain ⟨rfl, rfl⟩ := H
    go_enter Tryd.func44, Tryd.ntmps44
    go_wp2_with (first | ((with_reducible refine gd_ (N := 20) rfl ?_); refine Kd.R_lit (Kd.int .u8) _ 5 ?hg (N := 20) ?hd (xs := ([a0, (l1.length : Int) % 256, (wrap64 ((l1.length : Int) / 256)) % 256] : List Int)) (inner := [.int .u8 a0, .int .u8 ((l1.length : Int) % 256), .int .u8 ((wrap64 ((l1.length : Int) / 256)) % 256)]) (ok := fun _ => True) (okp := fun _ => True) ?hr ?hp (fun _ hk => hk) trivial (Below.refl _ _) (Nat.le_refl _) (by simp) ?_; (case hd => rfl); (case hg => rfl); (case hr => (go_simp; done)); (case hp => exact (Reps.one (show Kd.M (Kd.int .u8) _ _ _ a0 [.int .u8 a0] from rfl) (Reps.one (show Kd.M (Kd.int .u8) _ _ _ ((l1.length : Int) % 256) [.int .u8 ((l1.length : Int) % 256)] from rfl) (Reps.one (show Kd.M (Kd.int .u8) _ _ _ ((wrap64 ((l1.length : Int) / 256)) % 256) [.int .u8 ((wrap64 ((l1.length : Int) / 256)) % 256)] from rfl) (Reps.none _ _))))); intro v208 w9 ho10 hb hg_ hnew_; clear hg_ hnew_; (rw [← Ny207.out] at ho10); have n0_ := am_ (Kd.R_lower ho10 (bz_ HB.out)); have n1_ := am_ (below_step HB.out hb); clear HB; have HO209 := n0_; have HB := n1_; clear n0_ n1_; clear hb ho10) | ((with_reducible refine gate_builtin (b := .append) (xs := #[.tmp 20, .tmp 21]) rfl ?_); at_builtin; refine Kd.R_append_rows (Kd.int .u8) (w0 := w) w.heap.size rfl (.tmp 20) (.tmp 21) 42 5 (.int .u8 0) 1 rfl Tryd.underlying42 info5 rfl (by decide) (by omega) v208 y207 l1 _ _ _ (fun _ => True) (fun _ => False) rfl rfl ?aO ?aR (fun _ _ h => h) (fun _ h => h.elim) ?aF ?aB ?aS ?aL ?_; (case aR => repeat (exact (Kd.C_below HR1.out HB.out))); (case aB => exact HB.out); (case aF => exact (fun _ _ => trivial)); (case aO => exact HO209.out); (case aS => exact (bz_ HB.out)); (case aL => have := LMc4.out; omega); intro v211 w11 ho hb hg hat; rw [← Ny210.out] at ho; have n0_ := am_ (hb); have n1_ := am_ (ho); clear HB; clear HO209; have HB := n0_; have HO212 := n1_; clear n0_ n1_; clear ho hb hg hat; obtain ⟨Ao12, co12, eo12⟩ := Kd.R_slice HO212.out; subst eo12) | ((with_reducible refine gate_callee (f := 55) rfl ?_); refine gL (some 24) Tryd.func55 #[.slice Ao12 y210.length co12] ?_; (with_reducible refine (grapevineref01_Sum.calls k _ _ y210 t213 _ ?side1 ?side2 A5.out).mono ?_); (case side1 => repeat (exact (Kd.R_reads' HO212.out).2.2)); (case side2 => exact (Kd.R_reads' HO212.out).2.1); rintro e w' ⟨rfl, ⟨nd, rfl⟩⟩; refine ⟨_, rfl, ?_⟩) | ((with_reducible refine gd_ (N := 25) rfl ?_); refine Kd.R_lit (Kd.int .u8) _ 5 ?hg (N := 25) ?hd (xs := ([167] : List Int)) (inner := [.int .u8 167]) (ok := fun _ => True) (okp := fun _ => True) ?hr ?hp (fun _ hk => hk) trivial (Below.refl _ _) (Nat.le_refl _) (by simp) ?_; (case hd => rfl); (case hg => rfl); (case hr => (go_simp; done)); (case hp => exact (Reps.one (show Kd.M (Kd.int .u8) _ _ _ 167 [.int .u8 167] from rfl) (Reps.none _ _))); intro v215 w13 ho14 hb hg_ hnew_; clear hg_ hnew_; (rw [← Ny214.out] at ho14); have n0_ := am_ (Kd.R_elder' (by (with_reducible repeat (apply Kd.R_drewN)); exact HO212.out) (Kd.R_base ho14) hb); have n1_ := am_ (Kd.R_lower (Kd.R_new' ho14 (Kd.R_lt (by (with_reducible repeat (apply Kd.R_drewN)); exact HO212.out))) (bz_ (by repeat (with_reducible first | exact HB.out | apply bn_)))); have n2_ := am_ (below_step (by repeat (with_reducible first | exact HB.out | apply bn_)) hb); clear HO212; clear HB; have HO212 := n0_; have HO216 := n1_; have HB := n2_; clear n0_ n1_ n2_; clear hb ho14) | ((with_reducible refine gate_builtin (b := .append) (xs := #[.tmp 25, .tmp 26]) rfl ?_); at_builtin; refine Kd.R_append_rows (Kd.int .u8) (w0 := w) w.heap.size rfl (.tmp 25) (.tmp 26) 42 5 (.int .u8 0) 1 rfl Tryd.underlying42 info5 rfl (by decide) (by omega) v215 y214 y210 _ _ _ (fun k_ => some k_ ≠ (.slice Ao12 y210.length co12 : Value).ownBlock) (fun _ => False) rfl rfl ?aO ?aR (fun _ _ h => h) (fun _ h => h.elim) ?aF ?aB ?aS ?aL ?_; (case aR => repeat (exact (Kd.R_reads' HO212.out).2.2)); (case aB => exact HB.out); (case aF => exact (fun k_ hk => Kd.fresh' (Kd.R_lt HO212.out) k_ hk)); (case aO => exact (by exact Kd.R_mono HO216.out (fun _ hk => hk.2))); (case aS => exact (bz_ HB.out)); (case aL => have := LMc6.out; omega); intro v218 w15 ho hb hg hat; rw [← Ny217.out] at ho; have n0_ := am_ (Kd.R_after (ok := (fun _ => True)) HO212.out hg hat); have n1_ := am_ (hb); have n2_ := am_ (ho); clear HO212; clear HB; clear HO216; have HO212 := n0_; have HB := n1_; have HO219 := n2_; clear n0_ n1_ n2_; clear ho hb hg hat) | ((with_reducible refine gate_callee (f := 56) rfl ?_); refine gL (some 29) Tryd.func56 #[.int .u32 t213] ?_; (with_reducible refine (grapevineref01_Four.calls t213 t220 _ A7.out).mono ?_); rintro e w16 ⟨v221, rfl, ho0, hb⟩; refine ⟨_, rfl, ?_⟩; have n0_ := am_ (Kd.R_elder' HO212.out (Kd.R_base ho0) hb); have n1_ := am_ (Kd.R_elder' HO219.out (Kd.R_base ho0) hb); have n2_ := am_ (Kd.R_lower (Kd.R_new' (Kd.R_new' ho0 (Kd.R_lt HO212.out)) (Kd.R_lt HO219.out)) (bz_ HB.out)); have n3_ := am_ (below_step HB.out hb); clear HO212; clear HO219; clear HB; have HO212 := n0_; have HO219 := n1_; have HO222 := n2_; have HB := n3_; clear n0_ n1_ n2_ n3_; (try clear hb); (try clear ho0); obtain ⟨Ao18, co18, eo18⟩ := Kd.R_slice HO222.out; subst eo18) | ((with_reducible refine gate_builtin (b := .append) (xs := #[.tmp 27, .tmp 29]) rfl ?_); at_builtin; refine Kd.R_append_rows (Kd.int .u8) (w0 := w) w.heap.size rfl (.tmp 27) (.tmp 29) 42 5 (.int .u8 0) 1 rfl Tryd.underlying42 info5 rfl (by decide) (by omega) v218 y217 t220 _ _ _ (fun k_ => some k_ ≠ (.slice Ao12 y210.length co12 : Value).ownBlock ∧ some k_ ≠ (.slice Ao18 t220.length co18 : Value).ownBlock) (fun _ => False) rfl rfl ?aO ?aR (fun _ _ h => h) (fun _ h => h.elim) ?aF ?aB ?aS ?aL ?_; (case aR => repeat (exact (Kd.R_reads' HO222.out).2.2)); (case aB => exact HB.out); (case aF => exact (fun k_ hk => ⟨Kd.fresh' (Kd.R_lt HO212.out) k_ hk, Kd.fresh' (Kd.R_lt HO222.out) k_ hk⟩)); (case aO => exact HO219.out); (case aS => exact (bz_ HB.out)); (case aL => have := LMc8.out; omega); intro v224 w17 ho hb hg hat; rw [← Ny223.out] at ho; have n0_ := am_ (Kd.R_after (ok := (fun k_ => some k_ ≠ (.slice Ao18 t220.length co18 : Value).ownBlock)) (by exact Kd.R_mono HO212.out (fun _ hk => ⟨hk.2, hk.1.2⟩)) hg hat); have n1_ := am_ (Kd.R_after (ok := (fun k_ => some k_ ≠ (.slice Ao12 y210.length co12 : Value).ownBlock)) (by exact Kd.R_mono HO222.out (fun _ hk => ⟨hk.1.2, hk.2⟩)) hg hat); have n2_ := am_ (hb); have n3_ := am_ (ho); clear HO212; clear HO222; clear HB; clear HO219; have HO212 := n0_; have HO222 := n1_; have HB := n2_; have HO225 := n3_; clear n0_ n1_ n2_ n3_; clear ho hb hg hat))
    go_ret2
    exact ⟨_, by rfl, by exact Kd.R_mono HO225.out (fun _ hk => trivial), by repeat (with_reducible exact HB.out)⟩
   rw [if_neg c8] at H
   exact absurd H (by simp)
  rw [if_neg c6] at H
  exact absurd H (by simp)
 rw [if_neg c4] at H
 exact absurd H (by simp)
def grapevineref14_Frame.f (k : Nat) (a0 : Int) (a1 : Int) (a2 : Int) (a3 : Int) (l4 : List Int) : Option (List Int) := (grapevineref02_Uint.f k (IntKind.u64.wrap (a1))).bind fun t226 => ((grapevineref02_Uint.f k (IntKind.u64.wrap (a2))).bind fun t229 => (if t226.length + t229.length < 140737488355328 then ((some (t226 ++ t229 : List Int)).bind fun y232 => ((grapevineref02_Uint.f k (IntKind.u64.wrap (a3))).bind fun t235 => (if y232.length + t235.length < 140737488355328 then ((some (y232 ++ t235 : List Int)).bind fun y238 => (if y238.length + l4.length < 140737488355328 then ((grapevineref01_Seal.f k a0 (y238 ++ l4)).bind fun bt244 => (some bt244.1)) else (none))) else (none)))) else (none)))
set_option maxHeartbeats 8000000 in
set_option maxRecDepth 100000 in
theorem grapevineref14_Frame.calls (k : Nat) (a0 : Int) (a1 : Int) (a2 : Int) (a3 : Int) (A4 : Option Addr) (c4 : Nat) (l4 : List Int) (r : List Int) (w : World) (hr4 : Kd.C (Kd.int .u8) w A4 l4.length l4) (hc4 : l4.length ≤ c4) (h : grapevineref14_Frame.f k a0 a1 a2 a3 l4 = some r) :
 Calls Tryd.prog 32 #[.int .u8 a0, .int .i64 a1, .int .i64 a2, .int .i64 a3, .slice A4 l4.length c4] w fun e w' => ∃ v0_ : Value, e = .returned (v0_) ∧ Kd.R (Kd.int .u8) 5 w' w.heap.size (fun _ => True) v0_ r ∧ Below w.heap.size w w' := by
 have HR4 := am_ hr4
 have HC4 := am_ hc4
 clear hr4 hc4
 have HB := am_ (Below.refl w.heap.size w)
 have H : ((grapevineref02_Uint.f k (IntKind.u64.wrap (a1))).bind fun t226 => ((grapevineref02_Uint.f k (IntKind.u64.wrap (a2))).bind fun t229 => (if t226.length + t229.length < 140737488355328 then ((some (t226 ++ t229 : List Int)).bind fun y232 => ((grapevineref02_Uint.f k (IntKind.u64.wrap (a3))).bind fun t235 => (if y232.length + t235.length < 140737488355328 then ((some (y232 ++ t235 : List Int)).bind fun y238 => (if y238.length + l4.length < 140737488355328 then ((grapevineref01_Seal.f k a0 (y238 ++ l4)).bind fun bt244 => (some bt244.1)) else (none))) else (none)))) else (none)))) = some r := h
 clear h
 replace H := Option.bind_eq_some_iff.mp H
 obtain ⟨t226, A60, H⟩ := H
 try dsimp only at H
 have A6 := am_ A60
 clear A60
 replace H := Option.bind_eq_some_iff.mp H
 obtain ⟨t229, A70, H⟩ := H
 try dsimp only at H
 have A7 := am_ A70
 clear A70
 by_cases c8 : t226.length + t229.length < 140737488355328
 ·
  rw [if_pos c8] at H
  have LMc8 := am_ c8
  clear c8
  obtain ⟨y232, hy232⟩ : ∃ y_ : List Int, y_ = (t226 ++ t229) := ⟨_, rfl⟩
  replace H : ((grapevineref02_Uint.f k (IntKind.u64.wrap (a3))).bind fun t235 => (if y232.length + t235.length < 140737488355328 then ((some (y232 ++ t235 : List Int)).bind fun y238 => (if y238.length + l4.length < 140737488355328 then ((grapevineref01_Seal.f k a0 (y238 ++ l4)).bind fun bt244 => (some bt244.1)) else (none))) else (none))) = some r := by (have H2_ := (Option.bind_some _ _).symm.trans H; rw [hy232]; with_reducible exact H2_)
  have Ny232 := am_ hy232
  clear hy232
  replace H := Option.bind_eq_some_iff.mp H
  obtain ⟨t235, A90, H⟩ := H
  try dsimp only at H
  have A9 := am_ A90
  clear A90
  by_cases c10 : y232.length + t235.length < 140737488355328
  ·
   rw [if_pos c10] at H
   have LMc10 := am_ c10
   clear c10
   obtain ⟨y238, hy238⟩ : ∃ y_ : List Int, y_ = (y232 ++ t235) := ⟨_, rfl⟩
   replace H : (if y238.length + l4.length < 140737488355328 then ((grapevineref01_Seal.f k a0 (y238 ++ l4)).bind fun bt244 => (some bt244.1)) else (none)) = some r := by (have H2_ := (Option.bind_some _ _).symm.trans H; rw [hy238]; with_reducible exact H2_)
   have Ny238 := am_ hy238
   clear hy238
   by_cases c11 : y238.length + l4.length < 140737488355328
   ·
    rw [if_pos c11] at H
    have LMc11 := am_ c11
    clear c11
    obtain ⟨y241, hy241⟩ : ∃ y_ : List Int, y_ = (y238 ++ l4) := ⟨_, rfl⟩
    replace H : ((grapevineref01_Seal.f k a0 y241).bind fun bt244 => (some bt244.1)) = some r := by (rw [hy241]; with_reducible exact H)
    have Ny241 := am_ hy241
    clear hy241
    replace H := Option.bind_eq_some_iff.mp H
    obtain ⟨⟨t244, t245⟩, A120, H⟩ := H
    try dsimp only at H
    have A12 := am_ A120
    clear A120
    obtain rfl := Option.some.inj H
    go_enter Tryd.func32, Tryd.ntmps32
    go_wp2_with (first | ((with_reducible refine gate_callee (f := 43) rfl ?_); refine gL (some 16) Tryd.func43 #[.int .u64 (IntKind.u64.wrap (a1))] ?_; (with_reducible refine (grapevineref02_Uint.calls k (IntKind.u64.wrap (a1)) t226 _ A6.out).mono ?_); rintro e w13 ⟨v227, rfl, ho0, hb⟩; refine ⟨_, rfl, ?_⟩; have n0_ := am_ (Kd.R_lower ho0 (bz_ HB.out)); have n1_ := am_ (below_step HB.out hb); clear HB; have HO228 := n0_; have HB := n1_; clear n0_ n1_; (try clear hb); (try clear ho0)) | ((with_reducible refine gate_callee (f := 43) rfl ?_); refine gL (some 20) Tryd.func43 #[.int .u64 (IntKind.u64.wrap (a2))] ?_; (with_reducible refine (grapevineref02_Uint.calls k (IntKind.u64.wrap (a2)) t229 _ A7.out).mono ?_); rintro e w14 ⟨v230, rfl, ho0, hb⟩; refine ⟨_, rfl, ?_⟩; have n0_ := am_ (Kd.R_elder' HO228.out (Kd.R_base ho0) hb); have n1_ := am_ (Kd.R_lower (Kd.R_new' ho0 (Kd.R_lt HO228.out)) (bz_ HB.out)); have n2_ := am_ (below_step HB.out hb); clear HO228; clear HB; have HO228 := n0_; have HO231 := n1_; have HB := n2_; clear n0_ n1_ n2_; (try clear hb); (try clear ho0); obtain ⟨Ao16, co16, eo16⟩ := Kd.R_slice HO231.out; subst eo16) | ((with_reducible refine gate_builtin (b := .append) (xs := #[.tmp 17, .tmp 20]) rfl ?_); at_builtin; refine Kd.R_append_rows (Kd.int .u8) (w0 := w) w.heap.size rfl (.tmp 17) (.tmp 20) 42 5 (.int .u8 0) 1 rfl Tryd.underlying42 info5 rfl (by decide) (by omega) v227 t226 t229 _ _ _ (fun k_ => some k_ ≠ (.slice Ao16 t229.length co16 : Value).ownBlock) (fun _ => False) rfl rfl ?aO ?aR (fun _ _ h => h) (fun _ h => h.elim) ?aF ?aB ?aS ?aL ?_; (case aR => repeat (exact (Kd.R_reads' HO231.out).2.2)); (case aB => exact HB.out); (case aF => exact (fun k_ hk => Kd.fresh' (Kd.R_lt HO231.out) k_ hk)); (case aO => exact (by exact Kd.R_mono HO228.out (fun _ hk => hk.2))); (case aS => exact (bz_ HB.out)); (case aL => have := LMc8.out; omega); intro v233 w15 ho hb hg hat; rw [← Ny232.out] at ho; have n0_ := am_ (Kd.R_after (ok := (fun _ => True)) HO231.out hg hat); have n1_ := am_ (hb); have n2_ := am_ (ho); clear HO231; clear HB; clear HO228; have HO231 := n0_; have HB := n1_; have HO234 := n2_; clear n0_ n1_ n2_; clear ho hb hg hat) | ((with_reducible refine gate_callee (f := 43) rfl ?_); refine gL (some 25) Tryd.func43 #[.int .u64 (IntKind.u64.wrap (a3))] ?_; (with_reducible refine (grapevineref02_Uint.calls k (IntKind.u64.wrap (a3)) t235 _ A9.out).mono ?_); rintro e w17 ⟨v236, rfl, ho0, hb⟩; refine ⟨_, rfl, ?_⟩; have n0_ := am_ (Kd.R_elder' HO231.out (Kd.R_base ho0) hb); have n1_ := am_ (Kd.R_elder' HO234.out (Kd.R_base ho0) hb); have n2_ := am_ (Kd.R_lower (Kd.R_new' (Kd.R_new' ho0 (Kd.R_lt HO231.out)) (Kd.R_lt HO234.out)) (bz_ HB.out)); have n3_ := am_ (below_step HB.out hb); clear HO231; clear HO234; clear HB; have HO231 := n0_; have HO234 := n1_; have HO237 := n2_; have HB := n3_; clear n0_ n1_ n2_ n3_; (try clear hb); (try clear ho0); obtain ⟨Ao19, co19, eo19⟩ := Kd.R_slice HO237.out; subst eo19) | ((with_reducible refine gate_builtin (b := .append) (xs := #[.tmp 22, .tmp 25]) rfl ?_); at_builtin; refine Kd.R_append_rows (Kd.int .u8) (w0 := w) w.heap.size rfl (.tmp 22) (.tmp 25) 42 5 (.int .u8 0) 1 rfl Tryd.underlying42 info5 rfl (by decide) (by omega) v233 y232 t235 _ _ _ (fun k_ => some k_ ≠ (.slice Ao16 t229.length co16 : Value).ownBlock ∧ some k_ ≠ (.slice Ao19 t235.length co19 : Value).ownBlock) (fun _ => False) rfl rfl ?aO ?aR (fun _ _ h => h) (fun _ h => h.elim) ?aF ?aB ?aS ?aL ?_; (case aR => repeat (exact (Kd.R_reads' HO237.out).2.2)); (case aB => exact HB.out); (case aF => exact (fun k_ hk => ⟨Kd.fresh' (Kd.R_lt HO231.out) k_ hk, Kd.fresh' (Kd.R_lt HO237.out) k_ hk⟩)); (case aO => exact HO234.out); (case aS => exact (bz_ HB.out)); (case aL => have := LMc10.out; omega); intro v239 w18 ho hb hg hat; rw [← Ny238.out] at ho; have n0_ := am_ (Kd.R_after (ok := (fun k_ => some k_ ≠ (.slice Ao19 t235.length co19 : Value).ownBlock)) (by exact Kd.R_mono HO231.out (fun _ hk => ⟨hk.2, hk.1.2⟩)) hg hat); have n1_ := am_ (Kd.R_after (ok := (fun k_ => some k_ ≠ (.slice Ao16 t229.length co16 : Value).ownBlock)) (by exact Kd.R_mono HO237.out (fun _ hk => ⟨hk.1.2, hk.2⟩)) hg hat); have n2_ := am_ (hb); have n3_ := am_ (ho); clear HO231; clear HO237; clear HB; clear HO234; have HO231 := n0_; have HO237 := n1_; have HB := n2_; have HO240 := n3_; clear n0_ n1_ n2_ n3_; clear ho hb hg hat) | ((with_reducible refine gate_builtin (b := .append) (xs := #[.tmp 29, .tmp 30]) rfl ?_); at_builtin; refine Kd.R_append_rows (Kd.int .u8) (w0 := w) w.heap.size rfl (.tmp 29) (.tmp 30) 42 5 (.int .u8 0) 1 rfl Tryd.underlying42 info5 rfl (by decide) (by omega) v239 y238 l4 _ _ _ (fun k_ => some k_ ≠ (.slice Ao16 t229.length co16 : Value).ownBlock ∧ some k_ ≠ (.slice Ao19 t235.length co19 : Value).ownBlock) (fun _ => False) rfl rfl ?aO ?aR (fun _ _ h => h) (fun _ h => h.elim) ?aF ?aB ?aS ?aL ?_; (case aR => repeat (exact (Kd.C_below HR4.out HB.out))); (case aB => exact HB.out); (case aF => exact (fun k_ hk => ⟨Kd.fresh' (Kd.R_lt HO231.out) k_ hk, Kd.fresh' (Kd.R_lt HO237.out) k_ hk⟩)); (case aO => exact HO240.out); (case aS => exact (bz_ HB.out)); (case aL => have := LMc11.out; omega); intro v242 w20 ho hb hg hat; rw [← Ny241.out] at ho; have n0_ := am_ (Kd.R_after (ok := (fun k_ => some k_ ≠ (.slice Ao19 t235.length co19 : Value).ownBlock)) HO231.out hg hat); have n1_ := am_ (Kd.R_after (ok := (fun k_ => some k_ ≠ (.slice Ao16 t229.length co16 : Value).ownBlock)) HO237.out hg hat); have n2_ := am_ (hb); have n3_ := am_ (ho); clear HO231; clear HO237; clear HB; clear HO240; have HO231 := n0_; have HO237 := n1_; have HB := n2_; have HO243 := n3_; clear n0_ n1_ n2_ n3_; clear ho hb hg hat; obtain ⟨Ao21, co21, eo21⟩ := Kd.R_slice HO243.out; subst eo21) | ((with_reducible refine gate_callee (f := 44) rfl ?_); refine gL (some 32) Tryd.func44 #[.int .u8 a0, .slice Ao21 y241.length co21] ?_; (with_reducible refine (grapevineref01_Seal.calls k a0 _ _ y241 t244 t245 _ ?side1 ?side2 A12.out).mono ?_); (case side1 => repeat (exact (Kd.R_reads' HO243.out).2.2)); (case side2 => exact (Kd.R_reads' HO243.out).2.1); rintro e w22 ⟨v246, rfl, ho0, hb⟩; refine ⟨_, rfl, ?_⟩; have n0_ := am_ (Kd.R_elder' HO231.out (Kd.R_base ho0) hb); have n1_ := am_ (Kd.R_elder' HO237.out (Kd.R_base ho0) hb); have n2_ := am_ (Kd.R_elder' HO243.out (Kd.R_base ho0) hb); have n3_ := am_ (Kd.R_lower (Kd.R_new' (Kd.R_new' (Kd.R_new' ho0 (Kd.R_lt HO231.out)) (Kd.R_lt HO237.out)) (Kd.R_lt HO243.out)) (bz_ HB.out)); have n4_ := am_ (below_step HB.out hb); clear HO231; clear HO237; clear HO243; clear HB; have HO231 := n0_; have HO237 := n1_; have HO243 := n2_; have HO247 := n3_; have HB := n4_; clear n0_ n1_ n2_ n3_ n4_; (try clear hb); (try clear ho0)))
    go_ret
    exact ⟨_, by rfl, by exact Kd.R_mono HO247.out (fun _ hk => trivial), by repeat (with_reducible exact HB.out)⟩
   rw [if_neg c11] at H
   exact absurd H (by simp)
  rw [if_neg c10] at H
  exact absurd H (by simp)
 rw [if_neg c8] at H
 exact absurd H (by simp)
end Go.Proofs.YtoandmnefgimoaaDoor.PL
