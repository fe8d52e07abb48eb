import Derived.Test.YtoandmnefgimoaaDoorLBPLx0
import Derived.Test.YtoandmnefgimoaaDoorLBPLx1
namespace Go.Proofs.YtoandmnefgimoaaDoor.PL
open Go.RowKit Go.Proofs.YtoandmnefgimoaaDoorW.PrintWords Go.Proofs.YtoandmnefgimoaaDoorW.PrintLast Go.Proofs.YtoandmnefgimoaaDoorW.PrintMore
attribute [local go_sem] max2_int min2_int max_two min_two max_three min_three max_four min_four
set_option linter.unusedVariables false
set_option linter.unusedSimpArgs false
attribute [local go_sem high] eqA110
def grapevineref02_Uint.l0 : Nat → Int → List Int → Option (List Int)
 | 0, _, _ => none
 | k + 1, x0, x3 => if x0 > 127 then (if x3.length < 140737488355328 then (grapevineref02_Uint.l0 k (IntKind.u64.wrap (Int.tdiv x0 128)) (x3 ++ [(IntKind.u64.wrap (128 + (Int.tmod x0 128))) % 256])) else (none)) else (if x3.length < 140737488355328 then (some (x3 ++ [(x0) % 256])) else (none))
def grapevineref02_Uint.f (k : Nat) (a0 : Int) : Option (List Int) := grapevineref02_Uint.l0 k a0 (([] : List Int))
set_option maxHeartbeats 8000000 in
set_option maxRecDepth 100000 in
theorem grapevineref02_Uint.calls (k : Nat) (a0 : Int) (r : List Int) (w : World) (h : grapevineref02_Uint.f k a0 = some r) :
 Calls Tryd.prog 43 #[.int .u64 a0] w fun e w' => ∃ v0_ : Value, e = .returned (v0_) ∧ Kd.R (Kd.int .u8) 5 w' w.heap.size (fun _ => True) v0_ r ∧ Below w.heap.size w w' := by
 have HB := am_ (Below.refl w.heap.size w)
 have H : (grapevineref02_Uint.l0 k a0 (([] : List Int))) = some r := h
 clear h
 obtain ⟨y193, hy193⟩ : ∃ y_ : List Int, y_ = (([] : List Int)) := ⟨_, rfl⟩
 replace H : (grapevineref02_Uint.l0 k a0 y193) = some r := by (rw [hy193]; with_reducible exact H)
 have Ny193 := am_ hy193
 clear hy193
 have H' := am_ H
 clear H
 go_enter Tryd.func43, Tryd.ntmps43
 go_wp2_with (((with_reducible refine gd_ (N := 4) rfl ?_); refine Kd.R_lit (Kd.int .u8) _ 5 ?hg (N := 4) ?hd (xs := ([] : List Int)) (inner := []) (ok := fun _ => True) (okp := fun _ => True) ?hr ?hp (fun _ hk => hk) trivial (Below.refl _ _) (Nat.le_refl _) (by simp) ?_; (case hd => rfl); (case hg => rfl); (case hr => (go_simp; done)); (case hp => exact (Reps.none _ _)); intro v194 w2 ho3 hb hg_ hnew_; clear hg_ hnew_; (rw [← Ny193.out] at ho3); have n0_ := am_ (Kd.R_lower ho3 (bz_ HB.out)); have n1_ := am_ (below_step HB.out hb); clear HB; have HO195 := n0_; have HB := n1_; clear n0_ n1_; clear hb ho3))
 go_loopg [0, 3] k (fun kq v0 v3 w' => ∃ (x0_1 : Int) (x3_1 : List Int), v0 = .int .u64 x0_1 ∧ Aside0 (grapevineref02_Uint.l0 kq x0_1 x3_1 = some r) ∧ Aside0 (kq ≤ k) ∧ Aside0 (Kd.R (Kd.int .u8) 5 w' w.heap.size (fun _ => True) v3 x3_1) ∧ Aside0 (Below w.heap.size w w'))
 case atStart => exact ⟨(a0), (y193), (by rfl), H', ⟨Nat.le_refl _⟩, ⟨by exact HO195.out⟩, ⟨by repeat (with_reducible exact HB.out)⟩⟩
 case round =>
 clear H'
 obtain ⟨x0_1, x3_1, rfl, HA, HK1, HO_3, HB⟩ := hrel
 cases gk with
 | zero => exact absurd HA.out (by simp [grapevineref02_Uint.l0])
 | succ k1 =>
 have H := HA.out
 clear HA
 simp only [grapevineref02_Uint.l0] at H
 by_cases c4 : x0_1 > 127
 ·
  rw [if_pos c4] at H
  have c4b0 : decide (127 < x0_1) = true := decide_eq_true c4
  clear c4
  by_cases c5 : x3_1.length < 140737488355328
  ·
   rw [if_pos c5] at H
   have LMc5 := am_ c5
   clear c5
   obtain ⟨y196, hy196⟩ : ∃ y_ : List Int, y_ = (x3_1 ++ [(IntKind.u64.wrap (128 + (Int.tmod x0_1 128))) % 256]) := ⟨_, rfl⟩
   replace H : (grapevineref02_Uint.l0 k1 (IntKind.u64.wrap (Int.tdiv x0_1 128)) y196) = some r := by (rw [hy196]; with_reducible exact H)
   have Ny196 := am_ hy196
   clear hy196
   have H' := am_ H
   clear H
   go_wp2_with (((with_reducible refine gate_builtin (b := .append) (xs := #[.tmp 7, .tmp 12]) rfl ?_); at_builtin; refine Kd.R_append (Kd.int .u8) (w0 := w) w.heap.size rfl (.tmp 7) (.tmp 12) 42 5 (.int .u8 0) 1 rfl Tryd.underlying42 info5 rfl (by decide) (by omega) u3 x3_1 ((IntKind.u64.wrap (128 + (Int.tmod x0_1 128))) % 256) [.int .u8 ((IntKind.u64.wrap (128 + (Int.tmod x0_1 128))) % 256)] (fun _ => True) (fun _ => False) rfl rfl ?aP (fun _ hk => hk.elim) ?aF ?aO ?aB ?aS ?aL ?_; (case aP => exact rfl); (case aB => exact HB.out); (case aF => exact (fun _ _ => trivial)); (case aO => exact HO_3.out); (case aS => exact (bz_ HB.out)); (case aL => have := LMc5.out; omega); intro v197 w6 ho hb hg hat; rw [← Ny196.out] at ho; have n0_ := am_ (hb); have n1_ := am_ (ho); clear HB; clear HO_3; have HB := n0_; have HO198 := n1_; clear n0_ n1_; clear ho hb hg hat))
   go_roundg k1
   case measure => have := HK1.out; omega
   case rel => exact ⟨(IntKind.u64.wrap (Int.tdiv x0_1 128)), (y196), (by rfl), H', ⟨by have := HK1.out; omega⟩, ⟨by exact HO198.out⟩, ⟨by repeat (with_reducible exact HB.out)⟩⟩
  rw [if_neg c5] at H
  exact absurd H (by simp)
 rw [if_neg c4] at H
 have c4b0 : decide (127 < x0_1) = false := decide_eq_false c4
 clear c4
 by_cases c7 : x3_1.length < 140737488355328
 ·
  rw [if_pos c7] at H
  have LMc7 := am_ c7
  clear c7
  obtain ⟨y199, hy199⟩ : ∃ y_ : List Int, y_ = (x3_1 ++ [(x0_1) % 256]) := ⟨_, rfl⟩
  replace H : (some y199) = some r := by (rw [hy199]; with_reducible exact H)
  have Ny199 := am_ hy199
  clear hy199
  obtain rfl := Option.some.inj H
  go_wp2_with (((with_reducible refine gate_builtin (b := .append) (xs := #[.tmp 16, .tmp 19]) rfl ?_); at_builtin; refine Kd.R_append (Kd.int .u8) (w0 := w) w.heap.size rfl (.tmp 16) (.tmp 19) 42 5 (.int .u8 0) 1 rfl Tryd.underlying42 info5 rfl (by decide) (by omega) u3 x3_1 ((x0_1) % 256) [.int .u8 ((x0_1) % 256)] (fun _ => True) (fun _ => False) rfl rfl ?aP (fun _ hk => hk.elim) ?aF ?aO ?aB ?aS ?aL ?_; (case aP => exact rfl); (case aB => exact HB.out); (case aF => exact (fun _ _ => trivial)); (case aO => exact HO_3.out); (case aS => exact (bz_ HB.out)); (case aL => have := LMc7.out; omega); intro v200 w8 ho hb hg hat; rw [← Ny199.out] at ho; have n0_ := am_ (hb); have n1_ := am_ (ho); clear HB; clear HO_3; have HB := n0_; have HO201 := n1_; clear n0_ n1_; clear ho hb hg hat))
  go_ret
  exact ⟨_, by rfl, by exact HO201.out, by repeat (with_reducible exact HB.out)⟩
 rw [if_neg c7] at H
 exact absurd H (by simp)
end Go.Proofs.YtoandmnefgimoaaDoor.PL
