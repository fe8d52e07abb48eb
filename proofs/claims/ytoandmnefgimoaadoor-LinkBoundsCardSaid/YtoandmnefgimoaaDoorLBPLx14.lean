import Derived.Test.YtoandmnefgimoaaDoorLBPLx0
import Derived.Test.YtoandmnefgimoaaDoorLBPLx12
namespace Go.Proofs.YtoandmnefgimoaaDoor.PL
open Go.RowKit Go.Proofs.YtoandmnefgimoaaDoorW.PrintWords Go.Proofs.YtoandmnefgimoaaDoorW.PrintLast Go.Proofs.YtoandmnefgimoaaDoorW.PrintMore
attribute [local go_sem] max2_int min2_int max_two min_two max_three min_three max_four min_four
set_option linter.unusedVariables false
set_option linter.unusedSimpArgs false
def seal_Open.n (t : List Int) : Int := Go.bits .or .i64 (wrap64 (rd t 2)) (wrap64 (wrap64 (rd t 3) * 256))
def seal_Open.t (k : Nat) (t : List Int) (a1 n : Int) : Option (Int × Int × List Int × Int × Int) :=
 (seal_Sum.f k ((t.take (4 + n).toNat).drop 1)).bind fun s =>
 if rd t (4 + n) = s % 256 then (if rd t (5 + n) = s / 256 % 256 then (if rd t (6 + n) = s / 65536 % 256 then (if rd t (7 + n) = s / 16777216 % 256 then
  some (rd t 1, a1, (t.drop 4).take n.toNat, wrap64 (wrap64 (a1 + n) + 8), 0)
 else some (0, 0, [], 0, 5)) else some (0, 0, [], 0, 5)) else some (0, 0, [], 0, 5)) else some (0, 0, [], 0, 5)
def seal_Open.f (k : Nat) (l0 : List Int) (a1 : Int) : Option (Int × Int × List Int × Int × Int) :=
 if a1 < 0 then some (0, 0, [], 0, 2) else
 if a1 > (l0.length : Int) then some (0, 0, [], 0, 2) else
 if (((l0.drop a1.toNat).length : Nat) : Int) = 0 then some (0, 0, [], 0, 3) else
 if rd (l0.drop a1.toNat) 0 = 167 then
  if (((l0.drop a1.toNat).length : Nat) : Int) < 4 then some (0, 0, [], 0, 3) else
  if seal_Open.n (l0.drop a1.toNat) > 4096 then some (0, 0, [], 0, 6) else
  if 0 ≤ seal_Open.n (l0.drop a1.toNat) then
   if (((l0.drop a1.toNat).length : Nat) : Int) < seal_Open.n (l0.drop a1.toNat) + 8 then some (0, 0, [], 0, 3) else
   seal_Open.t k (l0.drop a1.toNat) a1 (seal_Open.n (l0.drop a1.toNat))
  else none
 else some (0, 0, [], 0, 4)
set_option maxHeartbeats 16000000 in
set_option maxRecDepth 100000 in
theorem seal_Open.calls (k : Nat) (A0 : Option Addr) (c0 : Nat) (l0 : List Int) (a1 : Int) (r1 : Int) (r2 : Int) (r3 : List Int) (r4 : Int) (r5 : Int) (w : World) (hr0 : Kd.C (Kd.int .u8) w A0 l0.length l0) (hc0 : l0.length ≤ c0) (ht : TabW w) (h : seal_Open.f k l0 a1 = some (r1, r2, r3, r4, r5)) :
 Calls Tryd.prog 40 #[.slice A0 l0.length c0, .int .i64 a1] w fun e w' => ∃ v2_ : Value, e = .returned (.tuple #[.agg #[.int .u8 r1, .int .i64 r2, v2_], .int .i64 r4, .int .i64 r5]) ∧ Kd.R (Kd.int .u8) 5 w' w.heap.size (fun _ => True) v2_ r3 ∧ Below w.heap.size w w' := by
 have hu39 := Tryd.underlying101
 have HR0 := am_ hr0
 have HC0 := am_ hc0
 have HT := am_ ht
 clear hr0 hc0 ht
 unfold seal_Open.f at h
 obtain ⟨i0, hi0, hz0⟩ := Option.map_eq_some_iff.1 info5
 have hsz0 : i0.size = 1 := by simp only [Prod.mk.injEq] at hz0; exact hz0.2.1
 have hi1 : (Tryd.prog.info? 5).map (·.size) = some 1 := by rw [hi0]; simp [hsz0]
 clear hz0
 by_cases c1 : a1 < 0
 ·
  rw [if_pos c1] at h
  have c1b : decide (a1 < 0) = true := decide_eq_true c1
  clear c1
  simp only [Option.some.injEq, Prod.mk.injEq] at h
  obtain ⟨rfl, rfl, rfl, rfl, rfl⟩ := h
  go_enter Tryd.func40, Tryd.ntmps40
  go_wp2_with (((with_reducible refine gd_ (N := 4) rfl ?_); refine bE 4 #[.int .u8 0, .int .i64 0, .slice none 0 0] 101 ?_; intro gb hgb w1 hbox hb; have GE := am_ (show w.heap.size ≤ gb by (rw [hgb]; exact Nat.le_refl _)); have BK := am_ hbox; have HB := am_ hb; have hcz0 : w1.cell? ⟨gb, 0, none⟩ = some (.int .u8 0) := (kc_ hbox 0).trans rfl; have hcz1 : w1.cell? ⟨gb, 1, none⟩ = some (.int .i64 0) := (kc_ hbox 1).trans rfl; have hcz2 : w1.cell? ⟨gb, 2, none⟩ = some (.slice none 0 0) := (kc_ hbox 2).trans rfl; have hfz0 := kf_ hbox 0; have hfz1 := kf_ hbox 1; have hfz2 := kf_ hbox 2; clear hgb hbox hb))
  refine bodyPost_ret (results_ctt rfl _ _ gb 101 #[.int .u8 0, .int .i64 0, .slice none 0 0] (0, 0) _ rfl (by refine blk_put (cs := #[.int .u8 0, .int .i64 0, .slice none 0 0]) ?_ 2 _ rfl; refine blk_put (cs := #[.int .u8 0, .int .i64 0, .slice none 0 0]) ?_ 1 _ rfl; refine blk_put (cs := #[.int .u8 0, .int .i64 0, .slice none 0 0]) ?_ 0 _ rfl; (with_reducible repeat (refine kn_ ?_ _)); exact BK.out) Tryd.underlying101 rfl (by kernel_rfl)) rfl ?_
  exact ⟨_, rfl, Kd.R_nil _ _ _ _ _, by repeat (with_reducible first | exact HB.out | apply bn_ | refine bs_ ?_ GE.out)⟩
 rw [if_neg c1] at h
 have c1b : decide (a1 < 0) = false := decide_eq_false c1
 by_cases c2 : a1 > (l0.length : Int)
 ·
  rw [if_pos c2] at h
  have c2b : decide ((l0.length : Int) < a1) = true := decide_eq_true c2
  clear c1 c2
  simp only [Option.some.injEq, Prod.mk.injEq] at h
  obtain ⟨rfl, rfl, rfl, rfl, rfl⟩ := h
  go_enter Tryd.func40, Tryd.ntmps40
  go_wp2_with (((with_reducible refine gd_ (N := 4) rfl ?_); refine bE 4 #[.int .u8 0, .int .i64 0, .slice none 0 0] 101 ?_; intro gb hgb w1 hbox hb; have GE := am_ (show w.heap.size ≤ gb by (rw [hgb]; exact Nat.le_refl _)); have BK := am_ hbox; have HB := am_ hb; have hcz0 : w1.cell? ⟨gb, 0, none⟩ = some (.int .u8 0) := (kc_ hbox 0).trans rfl; have hcz1 : w1.cell? ⟨gb, 1, none⟩ = some (.int .i64 0) := (kc_ hbox 1).trans rfl; have hcz2 : w1.cell? ⟨gb, 2, none⟩ = some (.slice none 0 0) := (kc_ hbox 2).trans rfl; have hfz0 := kf_ hbox 0; have hfz1 := kf_ hbox 1; have hfz2 := kf_ hbox 2; clear hgb hbox hb))
  refine bodyPost_ret (results_ctt rfl _ _ gb 101 #[.int .u8 0, .int .i64 0, .slice none 0 0] (0, 0) _ rfl (by refine blk_put (cs := #[.int .u8 0, .int .i64 0, .slice none 0 0]) ?_ 2 _ rfl; refine blk_put (cs := #[.int .u8 0, .int .i64 0, .slice none 0 0]) ?_ 1 _ rfl; refine blk_put (cs := #[.int .u8 0, .int .i64 0, .slice none 0 0]) ?_ 0 _ rfl; (with_reducible repeat (refine kn_ ?_ _)); exact BK.out) Tryd.underlying101 rfl (by kernel_rfl)) rfl ?_
  exact ⟨_, rfl, Kd.R_nil _ _ _ _ _, by repeat (with_reducible first | exact HB.out | apply bn_ | refine bs_ ?_ GE.out)⟩
 rw [if_neg c2] at h
 have c2b : decide ((l0.length : Int) < a1) = false := decide_eq_false c2
 obtain ⟨t, htt⟩ : ∃ t : List Int, t = l0.drop a1.toNat := ⟨_, rfl⟩
 rw [← htt] at h
 have htl : t.length = l0.length - a1.toNat := by rw [htt, List.length_drop]
 obtain ⟨A2, hA2⟩ : ∃ A2, A2 = (if c0 = a1.toNat then A0 else A0.map (·.add (a1.toNat * 1))) := ⟨_, rfl⟩
 obtain ⟨c2', hc2'⟩ : ∃ c : Nat, c = c0 - a1.toNat := ⟨_, rfl⟩
 have hsl : ∀ W : World, (Instr.slice 42 (.slice A0 l0.length c0) (some (.int .i64 a1)) none none).run Tryd.prog W = .ok (.slice A2 t.length c2') W := by
  intro W
  have hq := cut_from (P := Tryd.prog) 42 5 .i64 Tryd.underlying42 hi0 1 hsz0 A0 l0.length c0 a1 (by omega) (by omega) W
  rw [hA2, hc2', htl]
  exact hq
 have hct : Kd.C (Kd.int .u8) w A2 t.length t := by
  rw [hA2, htt]
  exact Kd.C_drop (m := a1.toNat) (c := c0) HR0.out (by omega) HC0.out
 have HCT := am_ hct
 have HTL := am_ (show t.length ≤ c2' by have := HC0.out; omega)
 have HTT := am_ htt
 have HTN := am_ (show t.length ≤ 9223372036854775807 from hct.2.1)
 have htle := HTL.out
 clear hct htt hA2 hc2' c1 c2 htl
 by_cases c3 : ((t.length : Nat) : Int) = 0
 ·
  rw [if_pos c3] at h
  have c3b : ((t.length : Int) == 0) = true := beq_iff_eq.mpr c3
  have c3n : (t.length == 0) = true := beq_iff_eq.mpr (by omega)
  have c3e : t.length = 0 := by omega
  clear c3
  simp only [Option.some.injEq, Prod.mk.injEq] at h
  obtain ⟨rfl, rfl, rfl, rfl, rfl⟩ := h
  go_enter Tryd.func40, Tryd.ntmps40
  go_wp2_with (((with_reducible refine gd_ (N := 4) rfl ?_); refine bE 4 #[.int .u8 0, .int .i64 0, .slice none 0 0] 101 ?_; intro gb hgb w1 hbox hb; have GE := am_ (show w.heap.size ≤ gb by (rw [hgb]; exact Nat.le_refl _)); have BK := am_ hbox; have HB := am_ hb; have hcz0 : w1.cell? ⟨gb, 0, none⟩ = some (.int .u8 0) := (kc_ hbox 0).trans rfl; have hcz1 : w1.cell? ⟨gb, 1, none⟩ = some (.int .i64 0) := (kc_ hbox 1).trans rfl; have hcz2 : w1.cell? ⟨gb, 2, none⟩ = some (.slice none 0 0) := (kc_ hbox 2).trans rfl; have hfz0 := kf_ hbox 0; have hfz1 := kf_ hbox 1; have hfz2 := kf_ hbox 2; clear hgb hbox hb))
  refine bodyPost_ret (results_ctt rfl _ _ gb 101 #[.int .u8 0, .int .i64 0, .slice none 0 0] (0, 0) _ rfl (by refine blk_put (cs := #[.int .u8 0, .int .i64 0, .slice none 0 0]) ?_ 2 _ rfl; refine blk_put (cs := #[.int .u8 0, .int .i64 0, .slice none 0 0]) ?_ 1 _ rfl; refine blk_put (cs := #[.int .u8 0, .int .i64 0, .slice none 0 0]) ?_ 0 _ rfl; (with_reducible repeat (refine kn_ ?_ _)); exact BK.out) Tryd.underlying101 rfl (by kernel_rfl)) rfl ?_
  exact ⟨_, rfl, Kd.R_nil _ _ _ _ _, by repeat (with_reducible first | exact HB.out | apply bn_ | refine bs_ ?_ GE.out)⟩
 rw [if_neg c3] at h
 have c3b : ((t.length : Int) == 0) = false := beq_eq_false_iff_ne.mpr c3
 have c3n : (t.length == 0) = false := beq_eq_false_iff_ne.mpr (by omega)
 have c3d := eq_false (show ¬ t.length = 0 by omega)
 obtain ⟨ad, eA, hx0_⟩ := Kd.at_int HCT.out 0 (by omega) (by omega)
 subst eA
 have HX0 := am_ (show w.cell? ad = some (.int .u8 (rd t 0)) from (by have e0_ : ad.add (0 : Int).toNat = ad := (by simp [Addr.add]); rw [e0_] at hx0_; exact hx0_))
 have p0 := eq_true (show (0 : Int) < (t.length : Int) by omega)
 have p0n := eq_true (show 0 < t.length by omega)
 clear hx0_
 by_cases c4 : rd t 0 = 167
 case neg =>
  rw [if_neg c4] at h
  have c4b : (rd t 0 != 167) = true := by simpa using c4
  have c4c : (rd t 0 == 167) = false := beq_eq_false_iff_ne.mpr c4
  clear c3 c4
  simp only [Option.some.injEq, Prod.mk.injEq] at h
  obtain ⟨rfl, rfl, rfl, rfl, rfl⟩ := h
  go_enter Tryd.func40, Tryd.ntmps40
  go_wp2_with (((with_reducible refine gd_ (N := 4) rfl ?_); refine bE 4 #[.int .u8 0, .int .i64 0, .slice none 0 0] 101 ?_; intro gb hgb w1 hbox hb; have GE := am_ (show w.heap.size ≤ gb by (rw [hgb]; exact Nat.le_refl _)); have BK := am_ hbox; have HB := am_ hb; have hcz0 : w1.cell? ⟨gb, 0, none⟩ = some (.int .u8 0) := (kc_ hbox 0).trans rfl; have hcz1 : w1.cell? ⟨gb, 1, none⟩ = some (.int .i64 0) := (kc_ hbox 1).trans rfl; have hcz2 : w1.cell? ⟨gb, 2, none⟩ = some (.slice none 0 0) := (kc_ hbox 2).trans rfl; have hfz0 := kf_ hbox 0; have hfz1 := kf_ hbox 1; have hfz2 := kf_ hbox 2; clear hgb hbox hb; have hx0 := (HB.out.cell (World.block_lt_of_cell? w _ HX0.out)).trans HX0.out))
  refine bodyPost_ret (results_ctt rfl _ _ gb 101 #[.int .u8 0, .int .i64 0, .slice none 0 0] (0, 0) _ rfl (by refine blk_put (cs := #[.int .u8 0, .int .i64 0, .slice none 0 0]) ?_ 2 _ rfl; refine blk_put (cs := #[.int .u8 0, .int .i64 0, .slice none 0 0]) ?_ 1 _ rfl; refine blk_put (cs := #[.int .u8 0, .int .i64 0, .slice none 0 0]) ?_ 0 _ rfl; (with_reducible repeat (refine kn_ ?_ _)); exact BK.out) Tryd.underlying101 rfl (by kernel_rfl)) rfl ?_
  exact ⟨_, rfl, Kd.R_nil _ _ _ _ _, by repeat (with_reducible first | exact HB.out | apply bn_ | refine bs_ ?_ GE.out)⟩
 rw [if_pos c4] at h
 have c4b : (rd t 0 != 167) = false := by simpa using c4
 have c4c : (rd t 0 == 167) = true := beq_iff_eq.mpr c4
 by_cases c5 : ((t.length : Nat) : Int) < 4
 ·
  rw [if_pos c5] at h
  have c5b : decide ((t.length : Int) < 4) = true := decide_eq_true c5
  have c5n : decide (t.length < 4) = true := decide_eq_true (by omega)
  clear c3 c4 c5
  simp only [Option.some.injEq, Prod.mk.injEq] at h
  obtain ⟨rfl, rfl, rfl, rfl, rfl⟩ := h
  go_enter Tryd.func40, Tryd.ntmps40
  go_wp2_with (((with_reducible refine gd_ (N := 4) rfl ?_); refine bE 4 #[.int .u8 0, .int .i64 0, .slice none 0 0] 101 ?_; intro gb hgb w1 hbox hb; have GE := am_ (show w.heap.size ≤ gb by (rw [hgb]; exact Nat.le_refl _)); have BK := am_ hbox; have HB := am_ hb; have hcz0 : w1.cell? ⟨gb, 0, none⟩ = some (.int .u8 0) := (kc_ hbox 0).trans rfl; have hcz1 : w1.cell? ⟨gb, 1, none⟩ = some (.int .i64 0) := (kc_ hbox 1).trans rfl; have hcz2 : w1.cell? ⟨gb, 2, none⟩ = some (.slice none 0 0) := (kc_ hbox 2).trans rfl; have hfz0 := kf_ hbox 0; have hfz1 := kf_ hbox 1; have hfz2 := kf_ hbox 2; clear hgb hbox hb; have hx0 := (HB.out.cell (World.block_lt_of_cell? w _ HX0.out)).trans HX0.out))
  refine bodyPost_ret (results_ctt rfl _ _ gb 101 #[.int .u8 0, .int .i64 0, .slice none 0 0] (0, 0) _ rfl (by refine blk_put (cs := #[.int .u8 0, .int .i64 0, .slice none 0 0]) ?_ 2 _ rfl; refine blk_put (cs := #[.int .u8 0, .int .i64 0, .slice none 0 0]) ?_ 1 _ rfl; refine blk_put (cs := #[.int .u8 0, .int .i64 0, .slice none 0 0]) ?_ 0 _ rfl; (with_reducible repeat (refine kn_ ?_ _)); exact BK.out) Tryd.underlying101 rfl (by kernel_rfl)) rfl ?_
  exact ⟨_, rfl, Kd.R_nil _ _ _ _ _, by repeat (with_reducible first | exact HB.out | apply bn_ | refine bs_ ?_ GE.out)⟩
 rw [if_neg c5] at h
 have c5b : decide ((t.length : Int) < 4) = false := decide_eq_false c5
 have c5n : decide (t.length < 4) = false := decide_eq_false (by omega)
 obtain ⟨ad1, eA1, hx1_⟩ := Kd.at_int HCT.out 1 (by omega) (by omega)
 cases eA1
 have HX1 := am_ (show w.cell? ⟨ad.block, ad.off + 1, none⟩ = some (.int .u8 (rd t 1)) from hx1_)
 have p1 := eq_true (show (1 : Int) < (t.length : Int) by omega)
 have p1n := eq_true (show 1 < t.length by omega)
 clear hx1_
 obtain ⟨ad2, eA2, hx2_⟩ := Kd.at_int HCT.out 2 (by omega) (by omega)
 cases eA2
 have HX2 := am_ (show w.cell? ⟨ad.block, ad.off + 2, none⟩ = some (.int .u8 (rd t 2)) from hx2_)
 have p2 := eq_true (show (2 : Int) < (t.length : Int) by omega)
 have p2n := eq_true (show 2 < t.length by omega)
 clear hx2_
 obtain ⟨ad3, eA3, hx3_⟩ := Kd.at_int HCT.out 3 (by omega) (by omega)
 cases eA3
 have HX3 := am_ (show w.cell? ⟨ad.block, ad.off + 3, none⟩ = some (.int .u8 (rd t 3)) from hx3_)
 have p3 := eq_true (show (3 : Int) < (t.length : Int) by omega)
 have p3n := eq_true (show 3 < t.length by omega)
 clear hx3_
 obtain ⟨m, hm⟩ : ∃ m : Int, m = seal_Open.n t := ⟨_, rfl⟩
 rw [← hm] at h
 have hme : Go.bits .or .i64 (wrap64 (rd t 2)) (wrap64 (wrap64 (rd t 3) * 256)) = m := hm.symm
 clear hm
 by_cases c6 : m > 4096
 ·
  rw [if_pos c6] at h
  have c6b : decide (4096 < m) = true := decide_eq_true c6
  clear c3 c4 c5 c6
  simp only [Option.some.injEq, Prod.mk.injEq] at h
  obtain ⟨rfl, rfl, rfl, rfl, rfl⟩ := h
  go_enter Tryd.func40, Tryd.ntmps40
  go_wp2_with (((with_reducible refine gd_ (N := 4) rfl ?_); refine bE 4 #[.int .u8 0, .int .i64 0, .slice none 0 0] 101 ?_; intro gb hgb w1 hbox hb; have GE := am_ (show w.heap.size ≤ gb by (rw [hgb]; exact Nat.le_refl _)); have BK := am_ hbox; have HB := am_ hb; have hcz0 : w1.cell? ⟨gb, 0, none⟩ = some (.int .u8 0) := (kc_ hbox 0).trans rfl; have hcz1 : w1.cell? ⟨gb, 1, none⟩ = some (.int .i64 0) := (kc_ hbox 1).trans rfl; have hcz2 : w1.cell? ⟨gb, 2, none⟩ = some (.slice none 0 0) := (kc_ hbox 2).trans rfl; have hfz0 := kf_ hbox 0; have hfz1 := kf_ hbox 1; have hfz2 := kf_ hbox 2; clear hgb hbox hb; have hx0 := (HB.out.cell (World.block_lt_of_cell? w _ HX0.out)).trans HX0.out; have hx1 := (HB.out.cell (World.block_lt_of_cell? w _ HX1.out)).trans HX1.out; have hx2 := (HB.out.cell (World.block_lt_of_cell? w _ HX2.out)).trans HX2.out; have hx3 := (HB.out.cell (World.block_lt_of_cell? w _ HX3.out)).trans HX3.out))
  go_quiet (fail)
  go_wp2
  refine bodyPost_ret (results_ctt rfl _ _ gb 101 #[.int .u8 0, .int .i64 0, .slice none 0 0] (0, 0) _ rfl (by refine blk_put (cs := #[.int .u8 0, .int .i64 0, .slice none 0 0]) ?_ 2 _ rfl; refine blk_put (cs := #[.int .u8 0, .int .i64 0, .slice none 0 0]) ?_ 1 _ rfl; refine blk_put (cs := #[.int .u8 0, .int .i64 0, .slice none 0 0]) ?_ 0 _ rfl; (with_reducible repeat (refine kn_ ?_ _)); exact BK.out) Tryd.underlying101 rfl (by kernel_rfl)) rfl ?_
  exact ⟨_, rfl, Kd.R_nil _ _ _ _ _, by repeat (with_reducible first | exact HB.out | apply bn_ | refine bs_ ?_ GE.out)⟩
 rw [if_neg c6] at h
 have c6b : decide (4096 < m) = false := decide_eq_false c6
 by_cases c7 : 0 ≤ m
 case neg => rw [if_neg c7] at h; exact absurd h (by simp)
 rw [if_pos c7] at h
 have w8 : wrap64 (m + 8) = m + 8 := by unfold wrap64; omega
 by_cases c8 : ((t.length : Nat) : Int) < m + 8
 ·
  rw [if_pos c8] at h
  have c8b : decide ((t.length : Int) < m + 8) = true := decide_eq_true c8
  clear c3 c4 c5 c6 c7 c8
  simp only [Option.some.injEq, Prod.mk.injEq] at h
  obtain ⟨rfl, rfl, rfl, rfl, rfl⟩ := h
  go_enter Tryd.func40, Tryd.ntmps40
  go_wp2_with (((with_reducible refine gd_ (N := 4) rfl ?_); refine bE 4 #[.int .u8 0, .int .i64 0, .slice none 0 0] 101 ?_; intro gb hgb w1 hbox hb; have GE := am_ (show w.heap.size ≤ gb by (rw [hgb]; exact Nat.le_refl _)); have BK := am_ hbox; have HB := am_ hb; have hcz0 : w1.cell? ⟨gb, 0, none⟩ = some (.int .u8 0) := (kc_ hbox 0).trans rfl; have hcz1 : w1.cell? ⟨gb, 1, none⟩ = some (.int .i64 0) := (kc_ hbox 1).trans rfl; have hcz2 : w1.cell? ⟨gb, 2, none⟩ = some (.slice none 0 0) := (kc_ hbox 2).trans rfl; have hfz0 := kf_ hbox 0; have hfz1 := kf_ hbox 1; have hfz2 := kf_ hbox 2; clear hgb hbox hb; have hx0 := (HB.out.cell (World.block_lt_of_cell? w _ HX0.out)).trans HX0.out; have hx1 := (HB.out.cell (World.block_lt_of_cell? w _ HX1.out)).trans HX1.out; have hx2 := (HB.out.cell (World.block_lt_of_cell? w _ HX2.out)).trans HX2.out; have hx3 := (HB.out.cell (World.block_lt_of_cell? w _ HX3.out)).trans HX3.out))
  go_quiet (fail)
  go_wp2
  refine bodyPost_ret (results_ctt rfl _ _ gb 101 #[.int .u8 0, .int .i64 0, .slice none 0 0] (0, 0) _ rfl (by refine blk_put (cs := #[.int .u8 0, .int .i64 0, .slice none 0 0]) ?_ 2 _ rfl; refine blk_put (cs := #[.int .u8 0, .int .i64 0, .slice none 0 0]) ?_ 1 _ rfl; refine blk_put (cs := #[.int .u8 0, .int .i64 0, .slice none 0 0]) ?_ 0 _ rfl; (with_reducible repeat (refine kn_ ?_ _)); exact BK.out) Tryd.underlying101 rfl (by kernel_rfl)) rfl ?_
  exact ⟨_, rfl, Kd.R_nil _ _ _ _ _, by repeat (with_reducible first | exact HB.out | apply bn_ | refine bs_ ?_ GE.out)⟩
 rw [if_neg c8] at h
 have c8b : decide ((t.length : Int) < m + 8) = false := decide_eq_false c8
 unfold seal_Open.t at h
 obtain ⟨s, hs, h⟩ := Option.bind_eq_some_iff.mp h
 have HS := am_ hs
 clear hs
 obtain ⟨j4, hj4⟩ : ∃ j : Int, j = 4 + m := ⟨_, rfl⟩
 have w4j : wrap64 (4 + m) = j4 := by unfold wrap64; omega
 rw [← hj4] at h
 obtain ⟨j5, hj5⟩ : ∃ j : Int, j = 5 + m := ⟨_, rfl⟩
 have w5j : wrap64 (5 + m) = j5 := by unfold wrap64; omega
 rw [← hj5] at h
 obtain ⟨j6, hj6⟩ : ∃ j : Int, j = 6 + m := ⟨_, rfl⟩
 have w6j : wrap64 (6 + m) = j6 := by unfold wrap64; omega
 rw [← hj6] at h
 obtain ⟨j7, hj7⟩ : ∃ j : Int, j = 7 + m := ⟨_, rfl⟩
 have w7j : wrap64 (7 + m) = j7 := by unfold wrap64; omega
 rw [← hj7] at h
 rw [← hj4] at HS
 obtain ⟨y, hy⟩ : ∃ y : List Int, y = (t.take j4.toNat).drop 1 := ⟨_, rfl⟩
 rw [← hy] at HS
 have hyl : y.length = j4.toNat - 1 := by rw [hy, List.length_drop, List.length_take]; omega
 have hcy : Kd.C (Kd.int .u8) w (some (ad.add (1 * 1))) y.length y := by
  have hq := Kd.C_mid (lo := 1) (hi := j4.toNat) (c := c2') HCT.out (by omega) (by omega) HTL.out
  rw [if_neg (by omega)] at hq
  rw [hy]
  exact hq
 have hsy : ∀ W : World, (Instr.slice 42 (.slice (some ad) t.length c2') (some (.int .i64 1)) (some (.int .i64 j4)) none).run Tryd.prog W = .ok (.slice (some (ad.add (1 * 1))) y.length (c2' - 1)) W := by
  intro W
  have hq := cut_mid (P := Tryd.prog) 42 5 .i64 .i64 Tryd.underlying42 hi0 1 hsz0 (some ad) t.length c2' 1 j4 (by omega) (by omega) (by omega) HTL.out W
  rw [if_neg (by omega)] at hq
  rw [hyl]
  exact hq
 have HYL := am_ (show y.length ≤ c2' - 1 by omega)
 have HCY := am_ hcy
 clear hcy hyl hy
 obtain ⟨adj4, eA4, hx4_⟩ := Kd.at_int HCT.out j4 (by omega) (by omega)
 cases eA4
 have HX4 := am_ (show w.cell? (ad.add j4.toNat) = some (.int .u8 (rd t j4)) from hx4_)
 have p4 := eq_true (show 0 ≤ j4 by omega)
 have q4 := eq_true (show j4 < (t.length : Int) by omega)
 clear hx4_
 obtain ⟨adj5, eA5, hx5_⟩ := Kd.at_int HCT.out j5 (by omega) (by omega)
 cases eA5
 have HX5 := am_ (show w.cell? (ad.add j5.toNat) = some (.int .u8 (rd t j5)) from hx5_)
 have p5 := eq_true (show 0 ≤ j5 by omega)
 have q5 := eq_true (show j5 < (t.length : Int) by omega)
 clear hx5_
 obtain ⟨adj6, eA6, hx6_⟩ := Kd.at_int HCT.out j6 (by omega) (by omega)
 cases eA6
 have HX6 := am_ (show w.cell? (ad.add j6.toNat) = some (.int .u8 (rd t j6)) from hx6_)
 have p6 := eq_true (show 0 ≤ j6 by omega)
 have q6 := eq_true (show j6 < (t.length : Int) by omega)
 clear hx6_
 obtain ⟨adj7, eA7, hx7_⟩ := Kd.at_int HCT.out j7 (by omega) (by omega)
 cases eA7
 have HX7 := am_ (show w.cell? (ad.add j7.toNat) = some (.int .u8 (rd t j7)) from hx7_)
 have p7 := eq_true (show 0 ≤ j7 by omega)
 have q7 := eq_true (show j7 < (t.length : Int) by omega)
 clear hx7_
 have HM := am_ (show 0 ≤ m ∧ m ≤ 4096 ∧ m + 8 ≤ (t.length : Int) from ⟨c7, by omega, by omega⟩)
 clear hj4 hj5 hj6 hj7 c3 c4 c5 c6 c7 c8
 by_cases e4 : rd t j4 = s % 256
 case neg =>
  rw [if_neg e4] at h
  have e4b : (rd t j4 != s % 256) = true := by simpa using e4
  clear e4
  simp only [Option.some.injEq, Prod.mk.injEq] at h
  obtain ⟨rfl, rfl, rfl, rfl, rfl⟩ := h
  go_enter Tryd.func40, Tryd.ntmps40
  go_wp2_with (((with_reducible refine gd_ (N := 4) rfl ?_); refine bE 4 #[.int .u8 0, .int .i64 0, .slice none 0 0] 101 ?_; intro gb hgb w1 hbox hb; have GE := am_ (show w.heap.size ≤ gb by (rw [hgb]; exact Nat.le_refl _)); have BK := am_ hbox; have HB := am_ hb; have hcz0 : w1.cell? ⟨gb, 0, none⟩ = some (.int .u8 0) := (kc_ hbox 0).trans rfl; have hcz1 : w1.cell? ⟨gb, 1, none⟩ = some (.int .i64 0) := (kc_ hbox 1).trans rfl; have hcz2 : w1.cell? ⟨gb, 2, none⟩ = some (.slice none 0 0) := (kc_ hbox 2).trans rfl; have hfz0 := kf_ hbox 0; have hfz1 := kf_ hbox 1; have hfz2 := kf_ hbox 2; clear hgb hbox hb; have hx0 := (HB.out.cell (World.block_lt_of_cell? w _ HX0.out)).trans HX0.out; have hx1 := (HB.out.cell (World.block_lt_of_cell? w _ HX1.out)).trans HX1.out; have hx2 := (HB.out.cell (World.block_lt_of_cell? w _ HX2.out)).trans HX2.out; have hx3 := (HB.out.cell (World.block_lt_of_cell? w _ HX3.out)).trans HX3.out; have hx4 := (HB.out.cell (World.block_lt_of_cell? w _ HX4.out)).trans HX4.out; have hx5 := (HB.out.cell (World.block_lt_of_cell? w _ HX5.out)).trans HX5.out; have hx6 := (HB.out.cell (World.block_lt_of_cell? w _ HX6.out)).trans HX6.out; have hx7 := (HB.out.cell (World.block_lt_of_cell? w _ HX7.out)).trans HX7.out))
  go_quiet (fail)
  go_wp2_with (((with_reducible refine gate_callee (f := 39) rfl ?_); refine gL (some 59) Tryd.func39 #[.slice (some (ad.add (1 * 1))) y.length (c2' - 1)] ?_; refine (seal_Sum.calls k _ (c2' - 1) y s _ ?hC HYL.out ?hT HS.out).mono ?_; (case hC => with_reducible repeat (first | exact Kd.C_below HCY.out HB.out | refine Kd.C_drewN ?_ _)); (case hT => with_reducible repeat (first | exact TabW.below HT.out HB.out | refine TabW.drewN ?_ _)); rintro e w' ⟨rfl, ⟨nd, rfl⟩⟩; refine ⟨_, rfl, ?_⟩))
  refine bodyPost_ret (results_ctt rfl _ _ gb 101 #[.int .u8 0, .int .i64 0, .slice none 0 0] (0, 0) _ rfl (by refine blk_put (cs := #[.int .u8 0, .int .i64 0, .slice none 0 0]) ?_ 2 _ rfl; refine blk_put (cs := #[.int .u8 0, .int .i64 0, .slice none 0 0]) ?_ 1 _ rfl; refine blk_put (cs := #[.int .u8 0, .int .i64 0, .slice none 0 0]) ?_ 0 _ rfl; (with_reducible repeat (refine kn_ ?_ _)); exact BK.out) Tryd.underlying101 rfl (by kernel_rfl)) rfl ?_
  exact ⟨_, rfl, Kd.R_nil _ _ _ _ _, by repeat (with_reducible first | exact HB.out | apply bn_ | refine bs_ ?_ GE.out)⟩
 rw [if_pos e4] at h
 have e4b : (rd t j4 != s % 256) = false := by simpa using e4
 clear e4
 by_cases e5 : rd t j5 = s / 256 % 256
 case neg =>
  rw [if_neg e5] at h
  have e5b : (rd t j5 != s / 256 % 256) = true := by simpa using e5
  clear e5
  simp only [Option.some.injEq, Prod.mk.injEq] at h
  obtain ⟨rfl, rfl, rfl, rfl, rfl⟩ := h
  go_enter Tryd.func40, Tryd.ntmps40
  go_wp2_with (((with_reducible refine gd_ (N := 4) rfl ?_); refine bE 4 #[.int .u8 0, .int .i64 0, .slice none 0 0] 101 ?_; intro gb hgb w1 hbox hb; have GE := am_ (show w.heap.size ≤ gb by (rw [hgb]; exact Nat.le_refl _)); have BK := am_ hbox; have HB := am_ hb; have hcz0 : w1.cell? ⟨gb, 0, none⟩ = some (.int .u8 0) := (kc_ hbox 0).trans rfl; have hcz1 : w1.cell? ⟨gb, 1, none⟩ = some (.int .i64 0) := (kc_ hbox 1).trans rfl; have hcz2 : w1.cell? ⟨gb, 2, none⟩ = some (.slice none 0 0) := (kc_ hbox 2).trans rfl; have hfz0 := kf_ hbox 0; have hfz1 := kf_ hbox 1; have hfz2 := kf_ hbox 2; clear hgb hbox hb; have hx0 := (HB.out.cell (World.block_lt_of_cell? w _ HX0.out)).trans HX0.out; have hx1 := (HB.out.cell (World.block_lt_of_cell? w _ HX1.out)).trans HX1.out; have hx2 := (HB.out.cell (World.block_lt_of_cell? w _ HX2.out)).trans HX2.out; have hx3 := (HB.out.cell (World.block_lt_of_cell? w _ HX3.out)).trans HX3.out; have hx4 := (HB.out.cell (World.block_lt_of_cell? w _ HX4.out)).trans HX4.out; have hx5 := (HB.out.cell (World.block_lt_of_cell? w _ HX5.out)).trans HX5.out; have hx6 := (HB.out.cell (World.block_lt_of_cell? w _ HX6.out)).trans HX6.out; have hx7 := (HB.out.cell (World.block_lt_of_cell? w _ HX7.out)).trans HX7.out))
  go_quiet (fail)
  go_wp2_with (((with_reducible refine gate_callee (f := 39) rfl ?_); refine gL (some 59) Tryd.func39 #[.slice (some (ad.add (1 * 1))) y.length (c2' - 1)] ?_; refine (seal_Sum.calls k _ (c2' - 1) y s _ ?hC HYL.out ?hT HS.out).mono ?_; (case hC => with_reducible repeat (first | exact Kd.C_below HCY.out HB.out | refine Kd.C_drewN ?_ _)); (case hT => with_reducible repeat (first | exact TabW.below HT.out HB.out | refine TabW.drewN ?_ _)); rintro e w' ⟨rfl, ⟨nd, rfl⟩⟩; refine ⟨_, rfl, ?_⟩))
  refine bodyPost_ret (results_ctt rfl _ _ gb 101 #[.int .u8 0, .int .i64 0, .slice none 0 0] (0, 0) _ rfl (by refine blk_put (cs := #[.int .u8 0, .int .i64 0, .slice none 0 0]) ?_ 2 _ rfl; refine blk_put (cs := #[.int .u8 0, .int .i64 0, .slice none 0 0]) ?_ 1 _ rfl; refine blk_put (cs := #[.int .u8 0, .int .i64 0, .slice none 0 0]) ?_ 0 _ rfl; (with_reducible repeat (refine kn_ ?_ _)); exact BK.out) Tryd.underlying101 rfl (by kernel_rfl)) rfl ?_
  exact ⟨_, rfl, Kd.R_nil _ _ _ _ _, by repeat (with_reducible first | exact HB.out | apply bn_ | refine bs_ ?_ GE.out)⟩
 rw [if_pos e5] at h
 have e5b : (rd t j5 != s / 256 % 256) = false := by simpa using e5
 clear e5
 by_cases e6 : rd t j6 = s / 65536 % 256
 case neg =>
  rw [if_neg e6] at h
  have e6b : (rd t j6 != s / 65536 % 256) = true := by simpa using e6
  clear e6
  simp only [Option.some.injEq, Prod.mk.injEq] at h
  obtain ⟨rfl, rfl, rfl, rfl, rfl⟩ := h
  go_enter Tryd.func40, Tryd.ntmps40
  go_wp2_with (((with_reducible refine gd_ (N := 4) rfl ?_); refine bE 4 #[.int .u8 0, .int .i64 0, .slice none 0 0] 101 ?_; intro gb hgb w1 hbox hb; have GE := am_ (show w.heap.size ≤ gb by (rw [hgb]; exact Nat.le_refl _)); have BK := am_ hbox; have HB := am_ hb; have hcz0 : w1.cell? ⟨gb, 0, none⟩ = some (.int .u8 0) := (kc_ hbox 0).trans rfl; have hcz1 : w1.cell? ⟨gb, 1, none⟩ = some (.int .i64 0) := (kc_ hbox 1).trans rfl; have hcz2 : w1.cell? ⟨gb, 2, none⟩ = some (.slice none 0 0) := (kc_ hbox 2).trans rfl; have hfz0 := kf_ hbox 0; have hfz1 := kf_ hbox 1; have hfz2 := kf_ hbox 2; clear hgb hbox hb; have hx0 := (HB.out.cell (World.block_lt_of_cell? w _ HX0.out)).trans HX0.out; have hx1 := (HB.out.cell (World.block_lt_of_cell? w _ HX1.out)).trans HX1.out; have hx2 := (HB.out.cell (World.block_lt_of_cell? w _ HX2.out)).trans HX2.out; have hx3 := (HB.out.cell (World.block_lt_of_cell? w _ HX3.out)).trans HX3.out; have hx4 := (HB.out.cell (World.block_lt_of_cell? w _ HX4.out)).trans HX4.out; have hx5 := (HB.out.cell (World.block_lt_of_cell? w _ HX5.out)).trans HX5.out; have hx6 := (HB.out.cell (World.block_lt_of_cell? w _ HX6.out)).trans HX6.out; have hx7 := (HB.out.cell (World.block_lt_of_cell? w _ HX7.out)).trans HX7.out))
  go_quiet (fail)
  go_wp2_with (((with_reducible refine gate_callee (f := 39) rfl ?_); refine gL (some 59) Tryd.func39 #[.slice (some (ad.add (1 * 1))) y.length (c2' - 1)] ?_; refine (seal_Sum.calls k _ (c2' - 1) y s _ ?hC HYL.out ?hT HS.out).mono ?_; (case hC => with_reducible repeat (first | exact Kd.C_below HCY.out HB.out | refine Kd.C_drewN ?_ _)); (case hT => with_reducible repeat (first | exact TabW.below HT.out HB.out | refine TabW.drewN ?_ _)); rintro e w' ⟨rfl, ⟨nd, rfl⟩⟩; refine ⟨_, rfl, ?_⟩))
  refine bodyPost_ret (results_ctt rfl _ _ gb 101 #[.int .u8 0, .int .i64 0, .slice none 0 0] (0, 0) _ rfl (by refine blk_put (cs := #[.int .u8 0, .int .i64 0, .slice none 0 0]) ?_ 2 _ rfl; refine blk_put (cs := #[.int .u8 0, .int .i64 0, .slice none 0 0]) ?_ 1 _ rfl; refine blk_put (cs := #[.int .u8 0, .int .i64 0, .slice none 0 0]) ?_ 0 _ rfl; (with_reducible repeat (refine kn_ ?_ _)); exact BK.out) Tryd.underlying101 rfl (by kernel_rfl)) rfl ?_
  exact ⟨_, rfl, Kd.R_nil _ _ _ _ _, by repeat (with_reducible first | exact HB.out | apply bn_ | refine bs_ ?_ GE.out)⟩
 rw [if_pos e6] at h
 have e6b : (rd t j6 != s / 65536 % 256) = false := by simpa using e6
 clear e6
 by_cases e7 : rd t j7 = s / 16777216 % 256
 case neg =>
  rw [if_neg e7] at h
  have e7b : (rd t j7 != s / 16777216 % 256) = true := by simpa using e7
  clear e7
  simp only [Option.some.injEq, Prod.mk.injEq] at h
  obtain ⟨rfl, rfl, rfl, rfl, rfl⟩ := h
  go_enter Tryd.func40, Tryd.ntmps40
  go_wp2_with (((with_reducible refine gd_ (N := 4) rfl ?_); refine bE 4 #[.int .u8 0, .int .i64 0, .slice none 0 0] 101 ?_; intro gb hgb w1 hbox hb; have GE := am_ (show w.heap.size ≤ gb by (rw [hgb]; exact Nat.le_refl _)); have BK := am_ hbox; have HB := am_ hb; have hcz0 : w1.cell? ⟨gb, 0, none⟩ = some (.int .u8 0) := (kc_ hbox 0).trans rfl; have hcz1 : w1.cell? ⟨gb, 1, none⟩ = some (.int .i64 0) := (kc_ hbox 1).trans rfl; have hcz2 : w1.cell? ⟨gb, 2, none⟩ = some (.slice none 0 0) := (kc_ hbox 2).trans rfl; have hfz0 := kf_ hbox 0; have hfz1 := kf_ hbox 1; have hfz2 := kf_ hbox 2; clear hgb hbox hb; have hx0 := (HB.out.cell (World.block_lt_of_cell? w _ HX0.out)).trans HX0.out; have hx1 := (HB.out.cell (World.block_lt_of_cell? w _ HX1.out)).trans HX1.out; have hx2 := (HB.out.cell (World.block_lt_of_cell? w _ HX2.out)).trans HX2.out; have hx3 := (HB.out.cell (World.block_lt_of_cell? w _ HX3.out)).trans HX3.out; have hx4 := (HB.out.cell (World.block_lt_of_cell? w _ HX4.out)).trans HX4.out; have hx5 := (HB.out.cell (World.block_lt_of_cell? w _ HX5.out)).trans HX5.out; have hx6 := (HB.out.cell (World.block_lt_of_cell? w _ HX6.out)).trans HX6.out; have hx7 := (HB.out.cell (World.block_lt_of_cell? w _ HX7.out)).trans HX7.out))
  go_quiet (fail)
  go_wp2_with (((with_reducible refine gate_callee (f := 39) rfl ?_); refine gL (some 59) Tryd.func39 #[.slice (some (ad.add (1 * 1))) y.length (c2' - 1)] ?_; refine (seal_Sum.calls k _ (c2' - 1) y s _ ?hC HYL.out ?hT HS.out).mono ?_; (case hC => with_reducible repeat (first | exact Kd.C_below HCY.out HB.out | refine Kd.C_drewN ?_ _)); (case hT => with_reducible repeat (first | exact TabW.below HT.out HB.out | refine TabW.drewN ?_ _)); rintro e w' ⟨rfl, ⟨nd, rfl⟩⟩; refine ⟨_, rfl, ?_⟩))
  refine bodyPost_ret (results_ctt rfl _ _ gb 101 #[.int .u8 0, .int .i64 0, .slice none 0 0] (0, 0) _ rfl (by refine blk_put (cs := #[.int .u8 0, .int .i64 0, .slice none 0 0]) ?_ 2 _ rfl; refine blk_put (cs := #[.int .u8 0, .int .i64 0, .slice none 0 0]) ?_ 1 _ rfl; refine blk_put (cs := #[.int .u8 0, .int .i64 0, .slice none 0 0]) ?_ 0 _ rfl; (with_reducible repeat (refine kn_ ?_ _)); exact BK.out) Tryd.underlying101 rfl (by kernel_rfl)) rfl ?_
  exact ⟨_, rfl, Kd.R_nil _ _ _ _ _, by repeat (with_reducible first | exact HB.out | apply bn_ | refine bs_ ?_ GE.out)⟩
 rw [if_pos e7] at h
 have e7b : (rd t j7 != s / 16777216 % 256) = false := by simpa using e7
 clear e7
 simp only [Option.some.injEq, Prod.mk.injEq] at h
 obtain ⟨rfl, rfl, rfl, rfl, rfl⟩ := h
 obtain ⟨ys, hys⟩ : ∃ ys : List Int, ys = t.drop 4 := ⟨_, rfl⟩
 have hysl : ys.length = t.length - 4 := by rw [hys, List.length_drop]
 have hcs : Kd.C (Kd.int .u8) w (some (ad.add (4 * 1))) ys.length ys := by
  have hq := Kd.C_drop (m := 4) (c := c2') HCT.out (by have := HM.out; omega) HTL.out
  rw [if_neg (by have := HM.out; have := HTL.out; omega)] at hq
  rw [hys]
  exact hq
 have hss : ∀ W : World, (Instr.slice 42 (.slice (some ad) t.length c2') (some (.int .i64 4)) none none).run Tryd.prog W = .ok (.slice (some (ad.add (4 * 1))) ys.length (c2' - 4)) W := by
  intro W
  have hq := cut_from (P := Tryd.prog) 42 5 .i64 Tryd.underlying42 hi0 1 hsz0 (some ad) t.length c2' 4 (by omega) (by have := HM.out; omega) W
  rw [if_neg (by have := HM.out; have := HTL.out; omega)] at hq
  rw [hysl]
  exact hq
 obtain ⟨zs, hzs⟩ : ∃ zs : List Int, zs = List.replicate m.toNat (0 : Int) := ⟨_, rfl⟩
 have HZS := am_ hzs
 have HCS := am_ hcs
 have HYS := am_ hys
 have HYSL := am_ hysl
 clear hcs hys hysl hzs
 go_enter Tryd.func40, Tryd.ntmps40
 go_wp2_with (((with_reducible refine gd_ (N := 4) rfl ?_); refine bE 4 #[.int .u8 0, .int .i64 0, .slice none 0 0] 101 ?_; intro gb hgb w1 hbox hb; have GE := am_ (show w.heap.size ≤ gb by (rw [hgb]; exact Nat.le_refl _)); have BK := am_ hbox; have HB := am_ hb; have hcz0 : w1.cell? ⟨gb, 0, none⟩ = some (.int .u8 0) := (kc_ hbox 0).trans rfl; have hcz1 : w1.cell? ⟨gb, 1, none⟩ = some (.int .i64 0) := (kc_ hbox 1).trans rfl; have hcz2 : w1.cell? ⟨gb, 2, none⟩ = some (.slice none 0 0) := (kc_ hbox 2).trans rfl; have hfz0 := kf_ hbox 0; have hfz1 := kf_ hbox 1; have hfz2 := kf_ hbox 2; clear hgb hbox hb; have hx0 := (HB.out.cell (World.block_lt_of_cell? w _ HX0.out)).trans HX0.out; have hx1 := (HB.out.cell (World.block_lt_of_cell? w _ HX1.out)).trans HX1.out; have hx2 := (HB.out.cell (World.block_lt_of_cell? w _ HX2.out)).trans HX2.out; have hx3 := (HB.out.cell (World.block_lt_of_cell? w _ HX3.out)).trans HX3.out; have hx4 := (HB.out.cell (World.block_lt_of_cell? w _ HX4.out)).trans HX4.out; have hx5 := (HB.out.cell (World.block_lt_of_cell? w _ HX5.out)).trans HX5.out; have hx6 := (HB.out.cell (World.block_lt_of_cell? w _ HX6.out)).trans HX6.out; have hx7 := (HB.out.cell (World.block_lt_of_cell? w _ HX7.out)).trans HX7.out))
 go_quiet (fail)
 go_wp2_with (first | ((with_reducible refine gate_callee (f := 39) rfl ?_); refine gL (some 59) Tryd.func39 #[.slice (some (ad.add (1 * 1))) y.length (c2' - 1)] ?_; refine (seal_Sum.calls k _ (c2' - 1) y s _ ?hC HYL.out ?hT HS.out).mono ?_; (case hC => with_reducible repeat (first | exact Kd.C_below HCY.out HB.out | refine Kd.C_drewN ?_ _)); (case hT => with_reducible repeat (first | exact TabW.below HT.out HB.out | refine TabW.drewN ?_ _)); rintro e w' ⟨rfl, ⟨nd, rfl⟩⟩; refine ⟨_, rfl, ?_⟩) | ((with_reducible refine gd_ (N := 103) rfl ?_); go_loud (refine Kd.R_make (Kd.int .u8) (w0 := w) w.heap.size 5 rfl (N := 103) rfl 42 (.tmp 102) (.tmp 102) rfl m rfl rfl Tryd.underlying42 (.int .u8 0) 1 info5 rfl (by decide) (by omega) 0 (ok := fun k_ => k_ ≠ gb) (okp := fun _ => False) rfl (fun _ hk => hk.elim) ?hF (by have := HM.out; omega) (by have := HM.out; omega) ?hBB (bz_ ?hB2) ?_); go_loud ((case hF => (have hlt : gb < w1.heap.size := blk_lt BK.out; show w1.heap.size ≠ gb; omega)); (case hBB => exact (by repeat (with_reducible first | exact HB.out | apply bn_))); (try (case hB2 => exact (by repeat (with_reducible first | exact HB.out | apply bn_))))); intro v5 w5 ho hb hg hnew; rw [← HZS.out] at ho; have BK2 := am_ (blk_grown (by exact BK.out) hg (by simp)); have n1_ := am_ hb; have HO := am_ ho; clear BK HB; have BK := BK2; have HB := n1_; clear BK2 n1_ ho hb hg hnew; obtain ⟨Ao, co, eo⟩ := Kd.R_slice HO.out; subst eo; clear hcz0 hcz1 hcz2 hfz0 hfz1 hfz2) | ((with_reducible refine gate_builtin (b := .copy) (xs := #[.tmp 104, .tmp 106]) rfl ?_); go_loud (refine Kd.R_copy (enc := Value.int .u8) (h1 := fun _ => rfl) (0 : Int) (w0 := w) w.heap.size rfl (.tmp 104) (.tmp 106) 42 42 5 rfl Tryd.underlying42 hi1 (.slice Ao zs.length co) zs ys (some (ad.add (4 * 1))) ys.length (c2' - 4) (fun k_ => k_ ≠ gb) rfl rfl HO.out (Kd.C_below HCS.out HB.out) HB.out (bz_ HB.out) ?_); intro w6 ho hb hg; have hne : some gb ≠ (Value.slice Ao zs.length co).ownBlock := fun e_ => HO.out.1 gb e_.symm rfl; have BK2 := am_ (blk_grown BK.out hg hne); have eo : ys.take (min ys.length zs.length) ++ zs.drop (min ys.length zs.length) = (t.drop 4).take m.toNat := (by have h1 := HM.out; have h2 := HYSL.out; have h3 : zs.length = m.toNat := (by rw [HZS.out, List.length_replicate]); rw [h3, Nat.min_eq_right (by omega), List.drop_of_length_le (by omega), List.append_nil, HYS.out]); rw [eo] at ho; clear HO; have HO := am_ ho; have n1_ := am_ hb; clear BK HB; have BK := BK2; have HB := n1_; have hx1b := (HB.out.cell (World.block_lt_of_cell? w _ HX1.out)).trans HX1.out; have hcy0 : w6.cell? ⟨gb, 0, none⟩ = some (.int .u8 0) := (kc_ BK.out 0).trans rfl; have hcy1 : w6.cell? ⟨gb, 1, none⟩ = some (.int .i64 0) := (kc_ BK.out 1).trans rfl; have hcy2 : w6.cell? ⟨gb, 2, none⟩ = some (.slice none 0 0) := (kc_ BK.out 2).trans rfl; have hfy0 := kf_ BK.out 0; have hfy1 := kf_ BK.out 1; have hfy2 := kf_ BK.out 2; clear BK2 n1_ ho hb hg hne eo))
 refine bodyPost_ret (results_ctt rfl _ _ gb 101 #[.int .u8 (rd t 1), .int .i64 a1, .slice Ao zs.length co] (0, 0) _ rfl (by refine blk_put (cs := #[.int .u8 (rd t 1), .int .i64 a1, .slice none 0 0]) ?_ 2 _ rfl; refine blk_put (cs := #[.int .u8 (rd t 1), .int .i64 0, .slice none 0 0]) ?_ 1 _ rfl; refine blk_put (cs := #[.int .u8 0, .int .i64 0, .slice none 0 0]) ?_ 0 _ rfl; exact BK.out) Tryd.underlying101 rfl (by kernel_rfl)) rfl ?_
 refine ⟨_, rfl, ?_, by repeat (with_reducible first | exact HB.out | refine bs_ ?_ GE.out)⟩
 refine Kd.R_mono (ok := fun k_ => k_ ≠ gb) ?_ (fun _ _ => trivial)
 repeat (first | exact HO.out | (with_reducible refine Kd.R_far ?_ (fun _ hk => hk) _))
def octet_TakeUint.acc (n x : Int) (i : Nat) : Int := Go.bits .or .u64 n (IntKind.u64.wrap (IntKind.u64.wrap (Go.bits .and .u8 x 127) * 2 ^ (7 * i)))
def octet_TakeUint.l0 : Nat → List Int → Int → Int → Nat → Option (Int × Int × Int)
 | 0, _, _, _, _ => none
 | k + 1, b, t, n, i => if t + (i : Int) ≥ (b.length : Int) then some (0, 0, 3) else if i = 9 ∧ rd b (t + (i : Int)) > 1 then some (0, 0, 6) else
  if rd b (t + (i : Int)) ≥ 128 then octet_TakeUint.l0 k b t (octet_TakeUint.acc n (rd b (t + (i : Int))) i) (i + 1) else if rd b (t + (i : Int)) = 0 ∧ i > 0 then some (0, 0, 4) else some (octet_TakeUint.acc n (rd b (t + (i : Int))) i, t + (i : Int) + 1, 0)
def octet_TakeUint.f (k : Nat) (l0 : List Int) (a1 : Int) : Option (Int × Int × Int) := if a1 < 0 then some (0, 0, 2) else if a1 > (l0.length : Int) then some (0, 0, 2) else octet_TakeUint.l0 k l0 a1 0 0
def octet_TakeUint.J (w : World) (A : Option Addr) (l : List Int) (c : Nat) (t : Int) (r : Int × Int × Int) (k : Nat) (a' : Act) (w' : World) : Prop :=
 ∃ (k1 : Nat) (n : Int) (i : Nat) (u9 u10 u11 u12 u13 u14 u15 u16 u17 u18 u19 u20 u21 u22 u23 u24 u25 u26 u27 u28 u29 u30 u31 u32 u33 u34 u35 u36 u37 u38 u39 u40 u41 u42 u43 u44 u45 u46 u47 : Value), a' = { tmps := #[.slice A l.length c, .int .i64 t, undef, undef, .int .u64 0, .int .i64 0, .int .i64 0, .int .u64 n, .int .i64 (i : Int), u9, u10, u11, u12, u13, u14, u15, u16, u17, u18, u19, u20, u21, u22, u23, u24, u25, u26, u27, u28, u29, u30, u31, u32, u33, u34, u35, u36, u37, u38, u39, u40, u41, u42, u43, u44, u45, u46, u47, undef, undef, undef, undef, undef, undef, undef, undef, undef, undef, undef], defers := [] } ∧ octet_TakeUint.l0 k1 l t n i = some r ∧ k1 ≤ k ∧ i ≤ 9 ∧ t + (i : Int) ≤ (l.length : Int) ∧ Drawn0 w w'
set_option maxHeartbeats 8000000 in
set_option maxRecDepth 100000 in
theorem octet_TakeUint.calls (k : Nat) (A0 : Option Addr) (c0 : Nat) (l0 : List Int) (a1 : Int) (r1 r2 r3 : Int) (w : World) (hr0 : Kd.C (Kd.int .u8) w A0 l0.length l0) (hc0 : l0.length ≤ c0) (h : octet_TakeUint.f k l0 a1 = some (r1, r2, r3)) :
 Calls Tryd.prog 41 #[.slice A0 l0.length c0, .int .i64 a1] w fun e w' => e = .returned (.tuple #[.int .u64 r1, .int .i64 r2, .int .i64 r3]) ∧ Drawn0 w w' := by
 have HR := am_ hr0
 have HC := am_ hc0
 clear hr0 hc0
 have hlen : l0.length ≤ 9223372036854775807 := HR.out.2.1
 unfold octet_TakeUint.f at h
 by_cases c1 : a1 < 0
 ·
  rw [if_pos c1] at h
  obtain ⟨rfl, rfl, rfl⟩ : r1 = 0 ∧ r2 = 0 ∧ r3 = 2 := by simpa [eq_comm] using h
  clear h
  go_enter Tryd.func41, Tryd.ntmps41
  go_wp2
  refine wp_scope_jumps 0 (fun _ _ => False) (fun _ _ => 0) rfl ?_ (fun _ _ h_ => h_.elim)
  go_wp2
  simp only [Exit.jump]
  go_ret3
  exact ⟨rfl, by repeat (first | exact Drawn0.refl _ | apply Drawn0.step)⟩
 rw [if_neg c1] at h
 by_cases c2 : a1 > (l0.length : Int)
 ·
  rw [if_pos c2] at h
  obtain ⟨rfl, rfl, rfl⟩ : r1 = 0 ∧ r2 = 0 ∧ r3 = 2 := by simpa [eq_comm] using h
  clear h
  go_enter Tryd.func41, Tryd.ntmps41
  go_wp2
  refine wp_scope_jumps 0 (fun _ _ => False) (fun _ _ => 0) rfl ?_ (fun _ _ h_ => h_.elim)
  go_wp2
  simp only [Exit.jump]
  go_ret3
  exact ⟨rfl, by repeat (first | exact Drawn0.refl _ | apply Drawn0.step)⟩
 rw [if_neg c2] at h
 have H := am_ h
 clear h
 go_enter Tryd.func41, Tryd.ntmps41
 go_wp2
 refine wp_scope_jumps 0 (octet_TakeUint.J w A0 l0 c0 a1 (r1, r2, r3) k) (fun a' _ => 100 - (RowKit.intOf (a'.tmps.getD 8 undef)).toNat) rfl ?_ ?_
 ·
  go_wp2
  go_step3
  have hl : octet_TakeUint.l0 k l0 a1 0 0 = some (r1, r2, r3) := H.out
  clear H
  cases k with
  | zero => exact absurd hl (by simp [octet_TakeUint.l0])
  | succ k1 =>
  simp only [octet_TakeUint.l0] at hl
  by_cases c3 : a1 + ((0 : Nat) : Int) ≥ (l0.length : Int)
  ·
   rw [if_pos c3] at hl
   obtain ⟨rfl, rfl, rfl⟩ : r1 = 0 ∧ r2 = 0 ∧ r3 = 3 := by simpa [eq_comm] using hl
   have c3' : (l0.length : Int) ≤ a1 := by omega
   go_wp2
   simp only [Exit.jump]
   go_ret3
   exact ⟨rfl, by repeat (first | exact Drawn0.refl _ | apply Drawn0.step)⟩
  rw [if_neg c3] at hl
  have c3' : a1 < (l0.length : Int) := by omega
  obtain ⟨ad, rfl, hx⟩ := Kd.at_int HR.out a1 (by omega) (by omega)
  simp only [Int.natCast_zero, Int.add_zero] at hl
  generalize hxx : (rd l0 a1) = x at hl hx
  clear hxx
  by_cases c4 : (0 : Nat) = 9 ∧ x > 1
  ·
   rw [if_pos c4] at hl
   omega
  rw [if_neg c4] at hl
  by_cases c5 : x ≥ 128
  ·
   rw [if_pos c5] at hl
   have H' := am_ hl
   clear hl
   go_wp2
   go_step3
   refine ⟨rfl, k1, _, 1, _, _, _, _, _, _, _, _, _, _, _, _, _, _, _, _, _, _, _, _, _, _, _, _, _, _, _, _, _, _, _, _, _, _, _, _, _, _, _, rfl, ?_, by omega, by omega, by omega, by repeat (exact Drawn0.refl _)⟩
   have h_ := H'.out
   simpa [octet_TakeUint.acc] using h_
  rw [if_neg c5] at hl
  by_cases c6 : x = 0 ∧ (0 : Nat) > 0
  ·
   rw [if_pos c6] at hl
   omega
  rw [if_neg c6] at hl
  simp only [Option.some.injEq, Prod.mk.injEq] at hl
  obtain ⟨rfl, rfl, rfl⟩ := hl
  by_cases c7 : x = 0
  ·
   subst c7
   go_wp2
   simp only [Exit.jump]
   go_ret3
   exact ⟨by simp [octet_TakeUint.acc], by repeat (exact Drawn0.refl _)⟩
  go_wp2
  simp only [Exit.jump]
  go_ret3
  exact ⟨by simp [octet_TakeUint.acc], by repeat (exact Drawn0.refl _)⟩
 rintro a' w' ⟨k1, n, i, u9, u10, u11, u12, u13, u14, u15, u16, u17, u18, u19, u20, u21, u22, u23, u24, u25, u26, u27, u28, u29, u30, u31, u32, u33, u34, u35, u36, u37, u38, u39, u40, u41, u42, u43, u44, u45, u46, u47, rfl, hl, hk, hi, hti, ⟨m, rfl⟩⟩
 clear H
 cases k1 with
 | zero => exact absurd hl (by simp [octet_TakeUint.l0])
 | succ k1 =>
 simp only [octet_TakeUint.l0] at hl
 by_cases c3 : a1 + (i : Int) ≥ (l0.length : Int)
 ·
  rw [if_pos c3] at hl
  obtain ⟨rfl, rfl, rfl⟩ : r1 = 0 ∧ r2 = 0 ∧ r3 = 3 := by simpa [eq_comm] using hl
  go_wp2
  simp only [Exit.jump]
  go_ret3
  exact ⟨rfl, by repeat (first | exact Drawn0.refl _ | apply Drawn0.step)⟩
 rw [if_neg c3] at hl
 obtain ⟨ad, rfl, hx⟩ := Kd.at_int HR.out (a1 + (i : Int)) (by omega) (by omega)
 generalize hxx : (rd l0 (a1 + (i : Int))) = x at hl hx
 clear hxx
 by_cases c4 : i = 9 ∧ x > 1
 ·
  rw [if_pos c4] at hl
  obtain ⟨rfl, rfl, rfl⟩ : r1 = 0 ∧ r2 = 0 ∧ r3 = 6 := by simpa [eq_comm] using hl
  obtain ⟨c4a, c4b⟩ := c4
  have c4c : 9 ≤ i := by omega
  clear c4a
  go_wp2
  simp only [Exit.jump]
  go_ret3
  exact ⟨rfl, by repeat (first | exact Drawn0.refl _ | apply Drawn0.step)⟩
 rw [if_neg c4] at hl
 by_cases c8 : 9 ≤ i
 ·
  have c9 : x ≤ 1 := by omega
  clear c4
  by_cases c5 : x ≥ 128
  ·
   rw [if_pos c5] at hl
   omega
  rw [if_neg c5] at hl
  by_cases c6 : x = 0 ∧ i > 0
  ·
   rw [if_pos c6] at hl
   obtain ⟨rfl, rfl, rfl⟩ : r1 = 0 ∧ r2 = 0 ∧ r3 = 4 := by simpa [eq_comm] using hl
   obtain ⟨c6a, c6b⟩ := c6
   subst c6a
   go_wp2
   simp only [Exit.jump]
   go_ret3
   exact ⟨rfl, by repeat (first | exact Drawn0.refl _ | apply Drawn0.step)⟩
  rw [if_neg c6] at hl
  simp only [Option.some.injEq, Prod.mk.injEq] at hl
  obtain ⟨rfl, rfl, rfl⟩ := hl
  by_cases c7 : x = 0
  ·
   omega
  go_wp2
  simp only [Exit.jump]
  go_ret3
  exact ⟨(by obtain rfl : i = 9 := (by omega); simp [octet_TakeUint.acc]), by repeat (first | exact Drawn0.refl _ | apply Drawn0.step)⟩
 clear c4
 have c9 : i < 9 := by omega
 by_cases c5 : x ≥ 128
 ·
  rw [if_pos c5] at hl
  have H' := am_ hl
  clear hl
  go_wp2
  go_step3
  refine ⟨rfl, ⟨k1, _, i + 1, _, _, _, _, _, _, _, _, _, _, _, _, _, _, _, _, _, _, _, _, _, _, _, _, _, _, _, _, _, _, _, _, _, _, _, _, _, _, _, rfl, ?_, by omega, by omega, by omega, by repeat (first | exact Drawn0.refl _ | apply Drawn0.step)⟩, ?_⟩
  ·
   exact H'.out
  simp [RowKit.intOf]; omega
 rw [if_neg c5] at hl
 by_cases c6 : x = 0 ∧ i > 0
 ·
  rw [if_pos c6] at hl
  obtain ⟨rfl, rfl, rfl⟩ : r1 = 0 ∧ r2 = 0 ∧ r3 = 4 := by simpa [eq_comm] using hl
  obtain ⟨c6a, c6b⟩ := c6
  subst c6a
  go_wp2
  simp only [Exit.jump]
  go_ret3
  exact ⟨rfl, by repeat (first | exact Drawn0.refl _ | apply Drawn0.step)⟩
 rw [if_neg c6] at hl
 simp only [Option.some.injEq, Prod.mk.injEq] at hl
 obtain ⟨rfl, rfl, rfl⟩ := hl
 by_cases c7 : x = 0
 ·
  have c7b : i ≤ 0 := by omega
  subst c7
  go_wp2
  simp only [Exit.jump]
  go_ret3
  exact ⟨rfl, by repeat (first | exact Drawn0.refl _ | apply Drawn0.step)⟩
 go_wp2
 simp only [Exit.jump]
 go_ret3
 exact ⟨rfl, by repeat (first | exact Drawn0.refl _ | apply Drawn0.step)⟩
end Go.Proofs.YtoandmnefgimoaaDoor.PL
