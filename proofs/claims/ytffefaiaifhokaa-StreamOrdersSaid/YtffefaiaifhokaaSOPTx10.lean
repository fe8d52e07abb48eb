-- PRINTED by gprint.py (a session's own driver over the kit's print): not trusted; Lean checks it.
import Derived.Test.YtffefaiaifhokaaSOPTx0
namespace Go.Proofs.Ytffefaiaifhokaa.PT
open Go.RowKit Go.Proofs.YtffefaiaifhokaaW.PrintWords Go.Proofs.YtffefaiaifhokaaW.PrintLast Go.Proofs.YtffefaiaifhokaaW.PrintMore
attribute [local go_sem] max2_int min2_int max_two min_two max_three min_three max_four min_four   -- for this text's walks alone
set_option linter.unusedVariables false
set_option linter.unusedSimpArgs false

-- NOT PRINTED: function 67 (maps_clone)

-- NOT PRINTED: function 33 (api_Item_33)

-- NOT PRINTED: function 84 (span_row_next)

/-! ### span_add: function 85 -/
def span_add.j0 : Nat → List (S38) → Bool → Int → Int → Int → Option ((List (S38)))
 | 0, _, _, _, _, _ => none
 | k + 1, x0, x15, x192000, x192001, x192002 => if x15 = true then (some x0) else (if (x0.length : Int) > 0 then (if 0 ≤ (wrap64 ((x0.length : Int) - 1)) then (if (wrap64 ((x0.length : Int) - 1)) < (x0.length : Int) then (if (wrap64 (((rd_T38 x0 (wrap64 ((x0.length : Int) - 1))).f1) + 1)) = x192000 then (if ((rd_T38 x0 (wrap64 ((x0.length : Int) - 1))).f2) = x192002 then (some (x0.set ((wrap64 ((x0.length : Int) - 1)) : Int).toNat (⟨(rd_T38 x0 (wrap64 ((x0.length : Int) - 1))).f0, x192001, (rd_T38 x0 (wrap64 ((x0.length : Int) - 1))).f2⟩ : S38))) else (if x0.length < 5864062014805 then (some (x0 ++ [(⟨x192000, x192001, x192002⟩ : S38)])) else (none))) else (if x0.length < 5864062014805 then (some (x0 ++ [(⟨x192000, x192001, x192002⟩ : S38)])) else (none))) else (none)) else (none)) else (if x0.length < 5864062014805 then (some (x0 ++ [(⟨x192000, x192001, x192002⟩ : S38)])) else (none)))
def span_add.f (k : Nat) (l0 : List (S38)) (a1_0 : Int) (a1_1 : Int) (a1_2 : Int) : Option ((List (S38))) := if a1_0 > a1_1 then (span_add.j0 k l0 true a1_0 a1_1 a1_2) else (span_add.j0 k l0 (a1_2 == 0) a1_0 a1_1 a1_2)
theorem span_add.mono_l : ∀ k, (∀ y0 y1 y2 y3 y4, LeO (span_add.j0 k y0 y1 y2 y3 y4) (span_add.j0 (k + 1) y0 y1 y2 y3 y4))
 | 0 => fun _ _ _ _ _ r h => by simp [span_add.j0] at h
 | k + 1 => by
  have ih0 := span_add.mono_l k
  intro y0 y1 y2 y3 y4
  unfold span_add.j0
  repeat' first
  | (with_reducible exact ih0 _ _ _ _ _)
  | (with_reducible exact LeO.refl _)
  | (with_reducible exact LeO.none _)
  | (with_reducible refine LeO.ite ?_ ?_)
  | (with_reducible refine LeO.bind ?_ (fun _ => ?_))
  | exact ih0 _ _ _ _ _
  | exact LeO.none _
  | refine LeO.ite ?_ ?_
  | refine LeO.bind ?_ (fun _ => ?_)
theorem span_add.mono : ∀ a0 a1 a2 a3 k, LeO (span_add.f k a0 a1 a2 a3) (span_add.f (k + 1) a0 a1 a2 a3) := by
 intro a0 a1 a2 a3 k
 have ih0 := span_add.mono_l k
 unfold span_add.f
 repeat' first
  | (with_reducible exact ih0 _ _ _ _ _)
  | (with_reducible exact LeO.refl _)
  | (with_reducible exact LeO.none _)
  | (with_reducible refine LeO.ite ?_ ?_)
  | (with_reducible refine LeO.bind ?_ (fun _ => ?_))
  | exact ih0 _ _ _ _ _
  | exact LeO.none _
  | refine LeO.ite ?_ ?_
  | refine LeO.bind ?_ (fun _ => ?_)
set_option maxHeartbeats 8000000 in
set_option maxRecDepth 100000 in
theorem span_add.calls (k : Nat) (P0_ : Nat → Prop) (u9000_ : Value) (l0 : List (S38)) (a1_0 : Int) (a1_1 : Int) (a1_2 : Int) (r : List (S38)) (w0 w : World) (hB : Below w0.heap.size w0 w) (ho0 : Kd.R k38 38 w w0.heap.size P0_ u9000_ l0) (h : span_add.f k l0 a1_0 a1_1 a1_2 = some r) :
 Calls Try.prog 85 #[u9000_, .agg #[.int .i64 a1_0, .int .i64 a1_1, .int .i64 a1_2]] w fun e w' => ∃ v0_ : Value, e = .returned (v0_) ∧ Kd.R k38 38 w' w0.heap.size (fun k_ => (P0_ k_ ∨ w.heap.size ≤ k_)) v0_ r ∧ Below w0.heap.size w0 w' ∧ Kept w w' (fun k_ => P0_ k_) := by
 have hu38 := Try.underlying38
 have HO0 := Aside0.mk (show Kd.R k38 38 w w0.heap.size (fun k_ => (P0_ k_ ∨ w.heap.size ≤ k_)) u9000_ l0 from Kd.R_mono ho0 (fun k_ hk => (.inl hk)))
 have HK := Aside0.mk (Kept.refl w (fun k_ => P0_ k_))
 have HW0 := Aside0.mk hB.size
 have HB := Aside0.mk hB
 clear hB
 have H : (if a1_0 > a1_1 then (span_add.j0 k l0 true a1_0 a1_1 a1_2) else (span_add.j0 k l0 (a1_2 == 0) a1_0 a1_1 a1_2)) = some r := h
 clear h
 have HC3 := Aside0.mk H
 clear H
 go_enter Try.func85, Try.ntmps85
 go_upto_region 1 with (((with_reducible refine gate_dst (N := 3) rfl ?_); refine box_event ?hg (N := 3) ?hd (cs := #[.int .i64 a1_0, .int .i64 a1_1, .int .i64 a1_2]) (t := 38) ?hr ?_; (case hd => rfl); (case hg => rfl); (case hr => (go_simp; done)); intro gb191 hg w4 hbox hb; have n0_ := Aside0.mk (Kd.R_below (Kd.R_elderB (by exact HO0.out) gb191 (Nat.le_of_eq hg.symm)) hb); have n1_ := Aside0.mk (Kept.below (S := (fun k_ => P0_ k_)) (by repeat (with_reducible exact HK.out)) hb); have n2_ := Aside0.mk (below_step (by repeat (with_reducible exact HB.out)) hb); have n3_ := Aside0.mk (hbox); have n4_ := Aside0.mk ((by rw [hg]; exact (by exact HK.out.1) : w.heap.size ≤ gb191)); have n5_ := Aside0.mk ((by rw [hg]; exact (below_size (by repeat (with_reducible exact HB.out))) : w0.heap.size ≤ gb191)); clear HO0; clear HK; clear HB; have HO0 := n0_; have HK := n1_; have HB := n2_; have BK191 := n3_; have GW191 := n4_; have GE191 := n5_; clear n0_ n1_ n2_ n3_ n4_ n5_; clear hb hbox hg))
 repeat (go_quiet (fail); go_upto_region 1 with (fail))
 (skip)
 go_cut [15] (fun v15 wc => ∃ (kq : Nat) (x15_2 : Bool), v15 = .bool x15_2 ∧ Aside0 (span_add.j0 kq l0 x15_2 a1_0 a1_1 a1_2 = some r) ∧ Aside0 (kq ≤ k) ∧ Aside0 (Kd.R k38 38 wc w0.heap.size (fun k_ => (P0_ k_ ∨ w.heap.size ≤ k_) ∧ k_ ≠ gb191) u9000_ l0) ∧ Aside0 (wc.heap[gb191]? = some (.cells #[.int .i64 a1_0, .int .i64 a1_1, .int .i64 a1_2] 38 (0, 0))) ∧ Aside0 (Kept w wc (fun k_ => P0_ k_)) ∧ Aside0 (Below w0.heap.size w0 wc))
 case first =>
  have H := HC3.out
  clear HC3
  by_cases c5 : a1_0 > a1_1
  ·
   rw [if_pos c5] at H
   have c5b0 : decide (a1_1 < a1_0) = true := decide_eq_true c5
   clear c5
   (skip)
   have H' := Aside0.mk H
   clear H
   obtain ⟨hcz6_0, hcz6_1, hcz6_2, hfz6_0, hfz6_1, hfz6_2⟩ := cz3 BK191.out
   go_wp2
   repeat (go_quiet (fail); try go_wp2)
   go_meet
   case rel => exact ⟨_, (true), (by rfl), H', ⟨by omega⟩, ⟨by exact HO0.out⟩, ⟨by exact BK191.out⟩, ⟨by repeat (with_reducible exact HK.out)⟩, ⟨by repeat (with_reducible exact HB.out)⟩⟩
  rw [if_neg c5] at H
  have c5b0 : decide (a1_1 < a1_0) = false := decide_eq_false c5
  clear c5
  (skip)
  have H' := Aside0.mk H
  clear H
  obtain ⟨hcz7_0, hcz7_1, hcz7_2, hfz7_0, hfz7_1, hfz7_2⟩ := cz3 BK191.out
  go_wp2
  repeat (go_quiet (fail); try go_wp2)
  go_meet
  case rel => exact ⟨_, (a1_2 == 0), (by rfl), H', ⟨by omega⟩, ⟨by exact HO0.out⟩, ⟨by exact BK191.out⟩, ⟨by repeat (with_reducible exact HK.out)⟩, ⟨by repeat (with_reducible exact HB.out)⟩⟩
 case rest =>
  clear HC3
  try clear c5b0
  try clear hcz6_0
  try clear hcz6_1
  try clear hcz6_2
  try clear hfz6_0
  try clear hfz6_1
  try clear hfz6_2
  obtain ⟨kq, x15_2, rfl, HA, HJ2, HO_0, BK191, HK, HB⟩ := hcut
  cases kq with
  | zero => exact absurd HA.out (by simp [span_add.j0])
  | succ kj2 =>
   have H := HA.out
   clear HA
   simp only [span_add.j0] at H
   by_cases c8 : x15_2 = true
   ·
    subst c8
    have H1 : (some l0) = some r := by rw [if_pos rfl] at H; exact H
    clear H
    have H := H1
    clear H1
    obtain rfl := Option.some.inj H
    go_wp2
    repeat (go_quiet (fail); try go_wp2)
    go_ret
    exact ⟨_, by rfl, by exact Kd.R_mono HO_0.out (fun _ hk => hk.1), by repeat (with_reducible exact HB.out), by repeat (with_reducible exact HK.out)⟩
   replace c8 := Bool.eq_false_iff.mpr c8
   subst c8
   have H1 : (if (l0.length : Int) > 0 then (if 0 ≤ (wrap64 ((l0.length : Int) - 1)) then (if (wrap64 ((l0.length : Int) - 1)) < (l0.length : Int) then (if (wrap64 (((rd_T38 l0 (wrap64 ((l0.length : Int) - 1))).f1) + 1)) = a1_0 then (if ((rd_T38 l0 (wrap64 ((l0.length : Int) - 1))).f2) = a1_2 then (some (l0.set ((wrap64 ((l0.length : Int) - 1)) : Int).toNat (⟨(rd_T38 l0 (wrap64 ((l0.length : Int) - 1))).f0, a1_1, (rd_T38 l0 (wrap64 ((l0.length : Int) - 1))).f2⟩ : S38))) else (if l0.length < 5864062014805 then (some (l0 ++ [(⟨a1_0, a1_1, a1_2⟩ : S38)])) else (none))) else (if l0.length < 5864062014805 then (some (l0 ++ [(⟨a1_0, a1_1, a1_2⟩ : S38)])) else (none))) else (none)) else (none)) else (if l0.length < 5864062014805 then (some (l0 ++ [(⟨a1_0, a1_1, a1_2⟩ : S38)])) else (none))) = some r := by rw [if_neg (show ¬ (false = true) by decide)] at H; exact H
   clear H
   have H := H1
   clear H1
   by_cases c9 : (l0.length : Int) > 0
   ·
    rw [if_pos c9] at H
    have c9b0 : decide (0 < (l0.length : Int)) = true := decide_eq_true c9
    have c9b1 : decide (0 < l0.length) = true := decide_eq_true (by omega)
    clear c9
    obtain ⟨ji10, hji10⟩ : ∃ j_ : Int, (wrap64 ((l0.length : Int) - 1)) = j_ := ⟨_, rfl⟩
    replace H : (if 0 ≤ (ji10) then (if (ji10) < (l0.length : Int) then (if (wrap64 (((rd_T38 l0 (ji10)).f1) + 1)) = a1_0 then (if ((rd_T38 l0 (ji10)).f2) = a1_2 then (some (l0.set ((ji10) : Int).toNat (⟨(rd_T38 l0 (ji10)).f0, a1_1, (rd_T38 l0 (ji10)).f2⟩ : S38))) else (if l0.length < 5864062014805 then (some (l0 ++ [(⟨a1_0, a1_1, a1_2⟩ : S38)])) else (none))) else (if l0.length < 5864062014805 then (some (l0 ++ [(⟨a1_0, a1_1, a1_2⟩ : S38)])) else (none))) else (none)) else (none)) = some r := by (rw [hji10] at H; exact H)
    have hji10w : (IntKind.i64.wrap ((l0.length : Int) - 1)) = ji10 := (i64_w _).trans hji10
    by_cases c11 : 0 ≤ (ji10)
    ·
     rw [if_pos c11] at H
     have c11b0 : decide (0 ≤ (ji10)) = true := decide_eq_true c11
     clear c11
     by_cases c12 : (ji10) < (l0.length : Int)
     ·
      rw [if_pos c12] at H
      have c12b0 : decide ((ji10) < (l0.length : Int)) = true := decide_eq_true c12
      clear c12
      by_cases c13 : (wrap64 (((rd_T38 l0 (ji10)).f1) + 1)) = a1_0
      ·
       rw [if_pos c13] at H
       have c13b0 : ((wrap64 (((rd_T38 l0 (ji10)).f1) + 1)) == a1_0) = true := beq_iff_eq.mpr c13
       have c13b1 : ((wrap64 (((rd_T38 l0 (ji10)).f1) + 1)) != a1_0) = false := bne_eq_false_iff_eq.mpr c13
       clear c13
       by_cases c14 : ((rd_T38 l0 (ji10)).f2) = a1_2
       ·
        rw [if_pos c14] at H
        have c14b0 : (((rd_T38 l0 (ji10)).f2) == a1_2) = true := beq_iff_eq.mpr c14
        have c14b1 : (((rd_T38 l0 (ji10)).f2) != a1_2) = false := bne_eq_false_iff_eq.mpr c14
        clear c14
        obtain ⟨y194, hy194⟩ : ∃ y_ : List (S38), y_ = (l0.set ((ji10) : Int).toNat (⟨(rd_T38 l0 (ji10)).f0, a1_1, (rd_T38 l0 (ji10)).f2⟩ : S38)) := ⟨_, rfl⟩
        replace H : (some y194) = some r := by (rw [hy194]; with_reducible exact H)
        have Ny194 := Aside0.mk hy194
        clear hy194
        obtain rfl := Option.some.inj H
        obtain ⟨Ao16, co16, eo16⟩ := Kd.R_slice HO_0.out
        subst eo16
        have p192 : 0 ≤ ((ji10) : Int) := of_decide_eq_true (by (with_reducible assumption))
        have q192 : (ji10) < (l0.length : Int) := of_decide_eq_true (by (with_reducible assumption))
        obtain ⟨ad192, e192, hx192_0, hx192_1, hx192_2⟩ := at_T38 (Kd.R_reads' HO_0.out).2.2 (ji10) p192 q192
        cases e192
        replace p192 := eq_true p192
        replace q192 := eq_true q192
        obtain ⟨hcz17_0, hcz17_1, hcz17_2, hfz17_0, hfz17_1, hfz17_2⟩ := cz3 BK191.out
        have p193 : 0 ≤ ((ji10) : Int) := of_decide_eq_true (by (with_reducible assumption))
        have q193 : (ji10) < (l0.length : Int) := of_decide_eq_true (by (with_reducible assumption))
        obtain ⟨ad193, e193, hx193_0, hx193_1, hx193_2⟩ := at_T38 (Kd.R_reads' HO_0.out).2.2 (ji10) p193 q193
        obtain rfl : ad192 = ad193 := (by injection e193)
        replace p193 := eq_true p193
        replace q193 := eq_true q193
        have p15 : 0 ≤ ((ji10) : Int) := of_decide_eq_true (by (with_reducible assumption))
        have q15 : ((ji10) : Int) < ((l0.length : Int) : Int) := of_decide_eq_true (by (with_reducible assumption))
        obtain ⟨go15, co15, eo15, gb15, gl15, cl15, HG15⟩ := Kd.R_form HO_0.out (by omega)
        (cases eo15)
        have GB15 := Aside0.mk gb15
        have GG15 := Aside0.mk HG15
        clear gb15 gl15 HG15
        have HMgo15 := Aside0.mk (show (P0_ go15 ∨ w.heap.size ≤ go15) from (HO_0.out.1 _ rfl).1)
        (simp only [add_plain] at hx192_0)
        (simp only [add_plain] at hx192_1)
        (simp only [add_plain] at hx192_2)
        (simp only [add_plain] at hx193_0)
        (simp only [add_plain] at hx193_1)
        (simp only [add_plain] at hx193_2)
        obtain ⟨ce15, hcl15, hM15, hcc15, hfr15⟩ := Kd.R_elem HO_0.out z38 ((ji10) : Int) p15 q15
        obtain rfl := k38_openM hM15
        have hx15_0 : wc.cell? ⟨go15, ((ji10) : Int).toNat * 3, none⟩ = some (.int .i64 ((rd_T38 l0 (ji10)).f0)) := hcc15 0 _ rfl
        have hx15_1 : wc.cell? ⟨go15, ((ji10) : Int).toNat * 3 + 1, none⟩ = some (.int .i64 ((rd_T38 l0 (ji10)).f1)) := hcc15 1 _ rfl
        have hx15_2 : wc.cell? ⟨go15, ((ji10) : Int).toNat * 3 + 2, none⟩ = some (.int .i64 ((rd_T38 l0 (ji10)).f2)) := hcc15 2 _ rfl
        have hf15_0 : wc.frozen? ⟨go15, ((ji10) : Int).toNat * 3, none⟩ = false := hfr15 0
        have hf15_1 : wc.frozen? ⟨go15, ((ji10) : Int).toNat * 3 + 1, none⟩ = false := hfr15 1
        have hf15_2 : wc.frozen? ⟨go15, ((ji10) : Int).toNat * 3 + 2, none⟩ = false := hfr15 2
        clear hcl15 hcc15 hfr15 hM15
        replace p15 := eq_true p15
        replace q15 := eq_true q15
        have HX18 := Aside0.mk (show Kd.R k38 38 wc w0.heap.size (fun k_ => (P0_ k_ ∨ w.heap.size ≤ k_) ∧ k_ ≠ gb191) (.slice (some ⟨go15, 0, none⟩) l0.length co16) l0 from (by exact HO_0.out))
        obtain ⟨ce18, hcl18, hM18, hcc18, hfr18⟩ := Kd.R_elem HX18.out z38 ((ji10) : Int) (of_decide_eq_true (by (with_reducible assumption))) (by have h_ : ((ji10) : Int) < ((l0.length : Int) : Int) := of_decide_eq_true (by (with_reducible assumption)); exact h_)
        obtain rfl := k38_openM hM18
        have HP18 := Kd.R_seg HX18.out ((ji10) : Int) (of_decide_eq_true (by (with_reducible assumption))) (by have h_ : ((ji10) : Int) < ((l0.length : Int) : Int) := of_decide_eq_true (by (with_reducible assumption)); exact h_) (seg := [.int .i64 a1_1]) (j := 1) hcl18 hcc18 (show 2 ≤ 3 from by decide) (x' := (⟨(rd_T38 l0 (ji10)).f0, a1_1, (rd_T38 l0 (ji10)).f2⟩ : S38)) (k38_mkM _ _ _ (⟨(rd_T38 l0 (ji10)).f0, a1_1, (rd_T38 l0 (ji10)).f2⟩ : S38) ) (fun _ hk => hk)
        have hx18_1 := hcc18 1 _ rfl
        (try simp only [show (k38).sz = 3 from rfl, Nat.mul_one, Nat.add_zero] at hx18_1)
        have hf18_1 := hfr18 1
        (try simp only [show (k38).sz = 3 from rfl, Nat.mul_one, Nat.add_zero] at hf18_1)
        clear hcl18 hcc18 hfr18 hM18
        go_wp2_with (fail)
        repeat (go_quiet (fail); try go_wp2_with (((with_reducible refine gate_store (t := 3) (p := 50) rfl ?_); (try (rw [drewN_self wc]; generalize hq_ : World.drewN wc _ = wc; have n0_ := Aside0.mk (Kd.R_at hq_ HO_0.out); have n1_ := Aside0.mk (blk_at hq_ BK191.out); have n2_ := Aside0.mk (kept_at hq_ HK.out); have n3_ := Aside0.mk (below_at hq_ HB.out); clear hq_ HO_0 BK191 HK HB; have HO_0 := n0_; have BK191 := n1_; have HK := n2_; have HB := n3_; clear n0_ n1_ n2_ n3_; (try (have HX18 := Aside0.mk (show Kd.R k38 38 wc w0.heap.size (fun k_ => (P0_ k_ ∨ w.heap.size ≤ k_) ∧ k_ ≠ gb191) (.slice (some ⟨go15, 0, none⟩) l0.length co16) l0 from (by exact HO_0.out)))); (try (obtain ⟨ce18, hcl18, hM18, hcc18, hfr18⟩ := Kd.R_elem HX18.out z38 ((ji10) : Int) (of_decide_eq_true (by (with_reducible assumption))) (by have h_ : ((ji10) : Int) < ((l0.length : Int) : Int) := of_decide_eq_true (by (with_reducible assumption)); exact h_))); (try (obtain rfl := k38_openM hM18)); (try (have HP18 := Kd.R_seg HX18.out ((ji10) : Int) (of_decide_eq_true (by (with_reducible assumption))) (by have h_ : ((ji10) : Int) < ((l0.length : Int) : Int) := of_decide_eq_true (by (with_reducible assumption)); exact h_) (seg := [.int .i64 a1_1]) (j := 1) hcl18 hcc18 (show 2 ≤ 3 from by decide) (x' := (⟨(rd_T38 l0 (ji10)).f0, a1_1, (rd_T38 l0 (ji10)).f2⟩ : S38)) (k38_mkM _ _ _ (⟨(rd_T38 l0 (ji10)).f0, a1_1, (rd_T38 l0 (ji10)).f2⟩ : S38) ) (fun _ hk => hk))); (try (have hx18_1 := hcc18 1 _ rfl)); (try (try simp only [show (k38).sz = 3 from rfl, Nat.mul_one, Nat.add_zero] at hx18_1)); (try (have hf18_1 := hfr18 1)); (try (try simp only [show (k38).sz = 3 from rfl, Nat.mul_one, Nat.add_zero] at hf18_1)); (try (clear hcl18 hcc18 hfr18 hM18)))); refine store_event (t := 3) (p := 50) (v := ?vo_w19) (w1 := (wc.setCell ⟨go15, ((ji10) : Int).toNat * 3 + 1, none⟩ (.int .i64 a1_1))) ?hg ?ho ?hn ?hr ?_; (case ho => rfl); (case hg => rfl); (case hn => rfl); (case hr => (go_simp; done)); intro w19 hw; have hg : wc.grownBy w19 (some go15) := (by rw [hw]; exact HP18.2); have hp_ : Kd.R k38 38 w19 w0.heap.size (fun k_ => (P0_ k_ ∨ w.heap.size ≤ k_) ∧ k_ ≠ gb191) (.slice (some ⟨go15, 0, none⟩) l0.length co16) y194 := (by rw [hw, Ny194.out]; exact HP18.1); clear HP18; have n0_ := Aside0.mk (hp_); have n1_ := Aside0.mk (blk_grown (g := gb191) (o := .cells #[.int .i64 a1_0, .int .i64 a1_1, .int .i64 a1_2] 38 (0, 0)) (by exact BK191.out) hg (Kd.R_away HO_0.out (fun _ hk => hk.2))); have n2_ := Aside0.mk ((by rw [hw]; exact below_set (HB.out) GB15.out : Below w0.heap.size w0 w19)); have n3_ := Aside0.mk (Kept.of_grown (S := (fun k_ => P0_ k_)) hg (by repeat (with_reducible exact HK.out)) (fun k_ e_ => (HO_0.out.1 k_ e_).1)); clear HO_0; clear BK191; clear HB; clear HK; have HO_0 := n0_; have BK191 := n1_; have HB := n2_; have HK := n3_; clear n0_ n1_ n2_ n3_; clear hg hw hp_)))
        go_ret
        exact ⟨_, by rfl, by exact Kd.R_mono HO_0.out (fun _ hk => hk.1), by repeat (with_reducible exact HB.out), by repeat (with_reducible exact HK.out)⟩
       rw [if_neg c14] at H
       have c14b0 : (((rd_T38 l0 (ji10)).f2) == a1_2) = false := beq_eq_false_iff_ne.mpr c14
       have c14b1 : (((rd_T38 l0 (ji10)).f2) != a1_2) = true := bne_iff_ne.mpr c14
       by_cases c20 : l0.length < 5864062014805
       ·
        rw [if_pos c20] at H
        have LMc20 := Aside0.mk c20
        clear c20
        obtain ⟨y195, hy195⟩ : ∃ y_ : List (S38), y_ = (l0 ++ [(⟨a1_0, a1_1, a1_2⟩ : S38)]) := ⟨_, rfl⟩
        replace H : (some y195) = some r := by (rw [hy195]; with_reducible exact H)
        have Ny195 := Aside0.mk hy195
        clear hy195
        obtain rfl := Option.some.inj H
        obtain ⟨Ao21, co21, eo21⟩ := Kd.R_slice HO_0.out
        subst eo21
        have p192 : 0 ≤ ((ji10) : Int) := of_decide_eq_true (by (with_reducible assumption))
        have q192 : (ji10) < (l0.length : Int) := of_decide_eq_true (by (with_reducible assumption))
        obtain ⟨ad192, e192, hx192_0, hx192_1, hx192_2⟩ := at_T38 (Kd.R_reads' HO_0.out).2.2 (ji10) p192 q192
        cases e192
        replace p192 := eq_true p192
        replace q192 := eq_true q192
        obtain ⟨hcz22_0, hcz22_1, hcz22_2, hfz22_0, hfz22_1, hfz22_2⟩ := cz3 BK191.out
        have p193 : 0 ≤ ((ji10) : Int) := of_decide_eq_true (by (with_reducible assumption))
        have q193 : (ji10) < (l0.length : Int) := of_decide_eq_true (by (with_reducible assumption))
        obtain ⟨ad193, e193, hx193_0, hx193_1, hx193_2⟩ := at_T38 (Kd.R_reads' HO_0.out).2.2 (ji10) p193 q193
        obtain rfl : ad192 = ad193 := (by injection e193)
        replace p193 := eq_true p193
        replace q193 := eq_true q193
        go_wp2_with (fail)
        repeat (go_quiet (fail); try go_wp2_with (((with_reducible refine gate_builtin (b := .append) (xs := #[.tmp 52, .tmp 54]) rfl ?_); at_builtin; refine Kd.R_append k38 (w0 := w0) w0.heap.size rfl (.tmp 52) (.tmp 54) 30 38 (.agg #[(.int .i64 0), (.int .i64 0), (.int .i64 0)]) 24 rfl Try.underlying30 info38 rfl (by decide) (by omega) (.slice (some ad192) l0.length co21) l0 (⟨a1_0, a1_1, a1_2⟩ : S38) [.int .i64 a1_0, .int .i64 a1_1, .int .i64 a1_2] (fun k_ => (P0_ k_ ∨ w.heap.size ≤ k_) ∧ k_ ≠ gb191) (fun _ => False) rfl rfl ?aP (fun _ hk => hk.elim) ?aF ?aO ?aB ?aS ?aL ?_; (case aP => exact k38_mkM _ _ _ (⟨a1_0, a1_1, a1_2⟩ : S38)); (case aB => exact (by repeat (with_reducible first | exact HB.out | apply pw_below_drewN))); (case aF => exact (fun k_ hk => ⟨(.inr (Nat.le_trans (by exact HK.out.1) hk)), Kd.freshB (g := gb191) (o := .cells #[.int .i64 a1_0, .int .i64 a1_1, .int .i64 a1_2] 38 (0, 0)) (by (with_reducible repeat (refine blk_drewN ?_ _)); exact BK191.out) k_ hk⟩)); (case aO => exact (by (with_reducible repeat (apply Kd.R_drewN)); exact HO_0.out)); (case aS => exact (below_size (by repeat (with_reducible first | exact HB.out | apply pw_below_drewN)))); (case aL => have := LMc20.out; omega); intro v196 w23 ho hb hg hat; rw [← Ny195.out] at ho; have n0_ := Aside0.mk (blk_grown (g := gb191) (o := .cells #[.int .i64 a1_0, .int .i64 a1_1, .int .i64 a1_2] 38 (0, 0)) (by (with_reducible repeat (refine blk_drewN ?_ _)); exact BK191.out) hg (Kd.R_away HO_0.out (fun _ hk => hk.2))); have n1_ := Aside0.mk (hb); have n2_ := Aside0.mk (Kept.of_grown (S := (fun k_ => P0_ k_)) hg (by repeat (with_reducible first | exact HK.out | apply Kept.drewN)) (fun k_ e_ => (HO_0.out.1 k_ e_).1)); have n3_ := Aside0.mk (ho); clear BK191; clear HB; clear HK; clear HO_0; have BK191 := n0_; have HB := n1_; have HK := n2_; have HO197 := n3_; clear n0_ n1_ n2_ n3_; clear ho hb hg hat)))
        go_ret
        exact ⟨_, by rfl, by exact Kd.R_mono HO197.out (fun _ hk => hk.1), by repeat (with_reducible exact HB.out), by repeat (with_reducible exact HK.out)⟩
       rw [if_neg c20] at H
       exact absurd H (by simp)
      rw [if_neg c13] at H
      have c13b0 : ((wrap64 (((rd_T38 l0 (ji10)).f1) + 1)) == a1_0) = false := beq_eq_false_iff_ne.mpr c13
      have c13b1 : ((wrap64 (((rd_T38 l0 (ji10)).f1) + 1)) != a1_0) = true := bne_iff_ne.mpr c13
      by_cases c24 : l0.length < 5864062014805
      ·
       rw [if_pos c24] at H
       have LMc24 := Aside0.mk c24
       clear c24
       obtain ⟨y198, hy198⟩ : ∃ y_ : List (S38), y_ = (l0 ++ [(⟨a1_0, a1_1, a1_2⟩ : S38)]) := ⟨_, rfl⟩
       replace H : (some y198) = some r := by (rw [hy198]; with_reducible exact H)
       have Ny198 := Aside0.mk hy198
       clear hy198
       obtain rfl := Option.some.inj H
       obtain ⟨Ao25, co25, eo25⟩ := Kd.R_slice HO_0.out
       subst eo25
       have p192 : 0 ≤ ((ji10) : Int) := of_decide_eq_true (by (with_reducible assumption))
       have q192 : (ji10) < (l0.length : Int) := of_decide_eq_true (by (with_reducible assumption))
       obtain ⟨ad192, e192, hx192_0, hx192_1, hx192_2⟩ := at_T38 (Kd.R_reads' HO_0.out).2.2 (ji10) p192 q192
       cases e192
       replace p192 := eq_true p192
       replace q192 := eq_true q192
       obtain ⟨hcz26_0, hcz26_1, hcz26_2, hfz26_0, hfz26_1, hfz26_2⟩ := cz3 BK191.out
       go_wp2_with (fail)
       repeat (go_quiet (fail); try go_wp2_with (((with_reducible refine gate_builtin (b := .append) (xs := #[.tmp 52, .tmp 54]) rfl ?_); at_builtin; refine Kd.R_append k38 (w0 := w0) w0.heap.size rfl (.tmp 52) (.tmp 54) 30 38 (.agg #[(.int .i64 0), (.int .i64 0), (.int .i64 0)]) 24 rfl Try.underlying30 info38 rfl (by decide) (by omega) (.slice (some ad192) l0.length co25) l0 (⟨a1_0, a1_1, a1_2⟩ : S38) [.int .i64 a1_0, .int .i64 a1_1, .int .i64 a1_2] (fun k_ => (P0_ k_ ∨ w.heap.size ≤ k_) ∧ k_ ≠ gb191) (fun _ => False) rfl rfl ?aP (fun _ hk => hk.elim) ?aF ?aO ?aB ?aS ?aL ?_; (case aP => exact k38_mkM _ _ _ (⟨a1_0, a1_1, a1_2⟩ : S38)); (case aB => exact (by repeat (with_reducible first | exact HB.out | apply pw_below_drewN))); (case aF => exact (fun k_ hk => ⟨(.inr (Nat.le_trans (by exact HK.out.1) hk)), Kd.freshB (g := gb191) (o := .cells #[.int .i64 a1_0, .int .i64 a1_1, .int .i64 a1_2] 38 (0, 0)) (by (with_reducible repeat (refine blk_drewN ?_ _)); exact BK191.out) k_ hk⟩)); (case aO => exact (by (with_reducible repeat (apply Kd.R_drewN)); exact HO_0.out)); (case aS => exact (below_size (by repeat (with_reducible first | exact HB.out | apply pw_below_drewN)))); (case aL => have := LMc24.out; omega); intro v199 w27 ho hb hg hat; rw [← Ny198.out] at ho; have n0_ := Aside0.mk (blk_grown (g := gb191) (o := .cells #[.int .i64 a1_0, .int .i64 a1_1, .int .i64 a1_2] 38 (0, 0)) (by (with_reducible repeat (refine blk_drewN ?_ _)); exact BK191.out) hg (Kd.R_away HO_0.out (fun _ hk => hk.2))); have n1_ := Aside0.mk (hb); have n2_ := Aside0.mk (Kept.of_grown (S := (fun k_ => P0_ k_)) hg (by repeat (with_reducible first | exact HK.out | apply Kept.drewN)) (fun k_ e_ => (HO_0.out.1 k_ e_).1)); have n3_ := Aside0.mk (ho); clear BK191; clear HB; clear HK; clear HO_0; have BK191 := n0_; have HB := n1_; have HK := n2_; have HO200 := n3_; clear n0_ n1_ n2_ n3_; clear ho hb hg hat)))
       go_ret
       exact ⟨_, by rfl, by exact Kd.R_mono HO200.out (fun _ hk => hk.1), by repeat (with_reducible exact HB.out), by repeat (with_reducible exact HK.out)⟩
      rw [if_neg c24] at H
      exact absurd H (by simp)
     rw [if_neg c12] at H
     exact absurd H (by simp)
    rw [if_neg c11] at H
    exact absurd H (by simp)
   rw [if_neg c9] at H
   have c9b0 : decide (0 < (l0.length : Int)) = false := decide_eq_false c9
   have c9b1 : decide (0 < l0.length) = false := decide_eq_false (by omega)
   clear c9
   by_cases c28 : l0.length < 5864062014805
   ·
    rw [if_pos c28] at H
    have LMc28 := Aside0.mk c28
    clear c28
    obtain ⟨y201, hy201⟩ : ∃ y_ : List (S38), y_ = (l0 ++ [(⟨a1_0, a1_1, a1_2⟩ : S38)]) := ⟨_, rfl⟩
    replace H : (some y201) = some r := by (rw [hy201]; with_reducible exact H)
    have Ny201 := Aside0.mk hy201
    clear hy201
    obtain rfl := Option.some.inj H
    obtain ⟨Ao29, co29, eo29⟩ := Kd.R_slice HO_0.out
    subst eo29
    obtain ⟨hcz30_0, hcz30_1, hcz30_2, hfz30_0, hfz30_1, hfz30_2⟩ := cz3 BK191.out
    go_wp2_with (fail)
    repeat (go_quiet (fail); try go_wp2_with (((with_reducible refine gate_builtin (b := .append) (xs := #[.tmp 52, .tmp 54]) rfl ?_); at_builtin; refine Kd.R_append k38 (w0 := w0) w0.heap.size rfl (.tmp 52) (.tmp 54) 30 38 (.agg #[(.int .i64 0), (.int .i64 0), (.int .i64 0)]) 24 rfl Try.underlying30 info38 rfl (by decide) (by omega) (.slice Ao29 l0.length co29) l0 (⟨a1_0, a1_1, a1_2⟩ : S38) [.int .i64 a1_0, .int .i64 a1_1, .int .i64 a1_2] (fun k_ => (P0_ k_ ∨ w.heap.size ≤ k_) ∧ k_ ≠ gb191) (fun _ => False) rfl rfl ?aP (fun _ hk => hk.elim) ?aF ?aO ?aB ?aS ?aL ?_; (case aP => exact k38_mkM _ _ _ (⟨a1_0, a1_1, a1_2⟩ : S38)); (case aB => exact (by repeat (with_reducible first | exact HB.out | apply pw_below_drewN))); (case aF => exact (fun k_ hk => ⟨(.inr (Nat.le_trans (by exact HK.out.1) hk)), Kd.freshB (g := gb191) (o := .cells #[.int .i64 a1_0, .int .i64 a1_1, .int .i64 a1_2] 38 (0, 0)) (by (with_reducible repeat (refine blk_drewN ?_ _)); exact BK191.out) k_ hk⟩)); (case aO => exact (by (with_reducible repeat (apply Kd.R_drewN)); exact HO_0.out)); (case aS => exact (below_size (by repeat (with_reducible first | exact HB.out | apply pw_below_drewN)))); (case aL => have := LMc28.out; omega); intro v202 w31 ho hb hg hat; rw [← Ny201.out] at ho; have n0_ := Aside0.mk (blk_grown (g := gb191) (o := .cells #[.int .i64 a1_0, .int .i64 a1_1, .int .i64 a1_2] 38 (0, 0)) (by (with_reducible repeat (refine blk_drewN ?_ _)); exact BK191.out) hg (Kd.R_away HO_0.out (fun _ hk => hk.2))); have n1_ := Aside0.mk (hb); have n2_ := Aside0.mk (Kept.of_grown (S := (fun k_ => P0_ k_)) hg (by repeat (with_reducible first | exact HK.out | apply Kept.drewN)) (fun k_ e_ => (HO_0.out.1 k_ e_).1)); have n3_ := Aside0.mk (ho); clear BK191; clear HB; clear HK; clear HO_0; have BK191 := n0_; have HB := n1_; have HK := n2_; have HO203 := n3_; clear n0_ n1_ n2_ n3_; clear ho hb hg hat)))
    go_ret
    exact ⟨_, by rfl, by exact Kd.R_mono HO203.out (fun _ hk => hk.1), by repeat (with_reducible exact HB.out), by repeat (with_reducible exact HK.out)⟩
   rw [if_neg c28] at H
   exact absurd H (by simp)

end Go.Proofs.Ytffefaiaifhokaa.PT
