-- PRINTED by gprint.py (a session's own driver over the kit's print): not trusted; Lean checks it.
import Derived.Test.YtnbhlaoblnalpaaDoorFPEx0
import Derived.Test.YtnbhlaoblnalpaaDoorFPEx1
import Derived.Test.YtnbhlaoblnalpaaDoorFPEx2
import Derived.Test.YtnbhlaoblnalpaaDoorFPEx3
import Derived.Test.YtnbhlaoblnalpaaDoorFPEx4
namespace Go.Proofs.YtnbhlaoblnalpaaDoor.PE
open Go.RowKit Go.Proofs.YtnbhlaoblnalpaaDoorW.PrintWords Go.Proofs.YtnbhlaoblnalpaaDoorW.PrintLast Go.Proofs.YtnbhlaoblnalpaaDoorW.PrintMore
attribute [local go_sem] max2_int min2_int max_two min_two max_three min_three max_four min_four   -- for this text's walks alone
set_option linter.unusedVariables false
set_option linter.unusedSimpArgs false

/-! ### grapevineref01_Same: function 26 -/
/-! ### grapevinelaw01_SealOpens: function 8 -/
/-! ### grapevinelaw01_SealBack: function 9 -/
-- typed by mk_back.py: the true path alone
/-! ### grapevinelaw01_SealCuts: function 10 -/
-- typed by hand: the true path alone
/-! ### grapevinelaw01_SealTurned: function 11 -/
-- typed by mk_turned.py: the true path alone
def grapevinelaw01_SealTurned.f (k : Nat) (a0 : Int) (l1 : List Int) (a2 : Int) (b0 b1 b2 b3 : Int) : Option Bool :=
  (seal_Seal.f k a0 l1).bind fun p =>
    if p.2 = 0 then
      (if p.1.length = 8 + l1.length ∧ l1.length ≤ 4096 then
        (grapevinelaw01_SealApart.l0 k ([b0, b1, b2, b3] : List Int) (wrap64 (4 + Int.tmod (wrap64 a2) (((l1.length + 4 : Nat) : Int)))) p.1 false 0).bind fun xt => (seal_Open.f k xt.1 0).bind fun q => (grapevinelaw01_lives.f k).bind fun t =>
          if t = true ∧ ((q.2.2.2.2 == 5) == xt.2) = true ∧ ((q.2.2.2.2 == 0) == !xt.2) = true then some true else none
      else none)
    else (grapevinelaw01_lives.f k).bind fun t => if t = true ∧ p.2 = 6 then some true else none
set_option maxHeartbeats 16000000 in
set_option maxRecDepth 100000 in
theorem grapevinelaw01_SealTurned.calls (k : Nat) (a0 : Int) (A1 : Option Addr) (c1 : Nat) (l1 : List Int) (a2 : Int) (b0 b1 b2 b3 : Int) (r : Bool) (w : World) (hr1 : Kd.C (Kd.int .u8) w A1 l1.length l1) (hc1 : l1.length ≤ c1) (ht : TabW w) (h : grapevinelaw01_SealTurned.f k a0 l1 a2 b0 b1 b2 b3 = some r) :
    Calls Tryd.prog 11 #[.int .u8 a0, .slice A1 l1.length c1, .agg #[.int .u16 a2, .int .u8 b0, .int .u8 b1, .int .u8 b2, .int .u8 b3]] w fun e w' => e = .returned (.bool r) ∧ Below w.heap.size w w' := by
  have hu32 := Tryd.underlying32
  have hu39 := Tryd.underlying39
  have hu49 := Tryd.underlying49
  have HR1 := Aside0.mk hr1
  have HC1 := Aside0.mk hc1
  have HT := Aside0.mk ht
  clear hr1 hc1 ht
  unfold grapevinelaw01_SealTurned.f at h
  obtain ⟨⟨b, p2⟩, hs, h1⟩ := Option.bind_eq_some_iff.mp h
  have HS := Aside0.mk hs
  clear h hs
  go_enter Tryd.func11, Tryd.ntmps11
  go_wp2_with (((with_reducible refine gate_dst (N := 5) rfl ?_); refine box_event ?hg (N := 5) ?hd (cs := #[.int .u16 a2, .int .u8 b0, .int .u8 b1, .int .u8 b2, .int .u8 b3]) (t := 49) ?hr ?_; (case hd => rfl); (case hg => rfl); (case hr => first | (go_simp; done) | (go_simp; rfl)); intro gp hgp w1 hbox hb; have HB1 := Aside0.mk hb; have hc0 : w1.drew.cell? ⟨gp, 0, none⟩ = some (.int .u16 a2) := (blk_cell hbox 0).trans rfl; have hc1 : w1.drew.cell? ⟨gp, 1, none⟩ = some (.int .u8 b0) := (blk_cell hbox 1).trans rfl; have hc2 : w1.drew.cell? ⟨gp, 2, none⟩ = some (.int .u8 b1) := (blk_cell hbox 2).trans rfl; have hc3 : w1.drew.cell? ⟨gp, 3, none⟩ = some (.int .u8 b2) := (blk_cell hbox 3).trans rfl; have hc4 : w1.drew.cell? ⟨gp, 4, none⟩ = some (.int .u8 b3) := (blk_cell hbox 4).trans rfl; clear hgp hbox hb))
  refine start_ (n := 7) (S := fun w' => w'.cell? ⟨gp, 0, none⟩ = some (.int .u16 a2) ∧ w'.cell? ⟨gp, 1, none⟩ = some (.int .u8 b0) ∧ w'.cell? ⟨gp, 2, none⟩ = some (.int .u8 b1) ∧ w'.cell? ⟨gp, 3, none⟩ = some (.int .u8 b2) ∧ w'.cell? ⟨gp, 4, none⟩ = some (.int .u8 b3)) (ds := [6]) #[false, false, false, false, false, false, false] (by kernel_rfl) rfl rfl ⟨hc0, hc1, hc2, hc3, hc4⟩ (fun hHeld => ?_)
  refine pure_ (i := 0) (N := some 17) (v := ?_) (a' := ?_) #[true, false, false, false, false, false, false] rfl rfl (by kernel_rfl) (fun _ _ _ h => h) (Or.inl ⟨by rfl, ?_⟩) ?_ ?_
  rotate_left
  · intro w'
    go_simp
    with_reducible rfl
  rotate_left
  · simp only [Act.put, List.setIfInBounds_toArray, List.set_cons_zero, List.set_cons_succ, i64_w, i32_w]
    rfl
  refine take_ (i := 1) (N := some 18) (v := ?_) (a' := ?_) #[true, true, false, false, false, false, false] rfl rfl (by kernel_rfl) (fun _ _ _ h => h) (Or.inl ⟨by rfl, ?_⟩) hHeld ?_ ?_
  rotate_left
  · rintro w' ⟨s0, s1, s2, s3, s4⟩
    go_simp
    with_reducible rfl
  rotate_left
  · simp only [Act.put, List.setIfInBounds_toArray, List.set_cons_zero, List.set_cons_succ, i64_w, i32_w]
    rfl
  refine pure_ (i := 2) (N := some 19) (v := ?_) (a' := ?_) #[true, true, true, false, false, false, false] rfl rfl (by kernel_rfl) (fun _ _ _ h => h) (Or.inl ⟨by rfl, ?_⟩) ?_ ?_
  rotate_left
  · intro w'
    go_simp
    with_reducible rfl
  rotate_left
  · simp only [Act.put, List.setIfInBounds_toArray, List.set_cons_zero, List.set_cons_succ, i64_w, i32_w]
    rfl
  refine take_ (i := 3) (N := some 20) (v := ?_) (a' := ?_) #[true, true, true, true, false, false, false] rfl rfl (by kernel_rfl) (fun _ _ _ h => h) (Or.inl ⟨by rfl, ?_⟩) hHeld ?_ ?_
  rotate_left
  · rintro w' ⟨s0, s1, s2, s3, s4⟩
    go_simp
    with_reducible rfl
  rotate_left
  · simp only [Act.put, List.setIfInBounds_toArray, List.set_cons_zero, List.set_cons_succ, i64_w, i32_w]
    rfl
  refine one_ (i := 4) (N := some 8) #[true, true, true, true, true, false, false] rfl rfl (by kernel_rfl) (by decide) (fun K hK => ?_)
  refine value_ (w1 := w1.drew.alloc (.cells #[.int .u8 0, .int .u8 0, .int .u8 0, .int .u8 0] 32 (0, 0))) (v := .pointer (some ⟨w1.drew.heap.size, 0, none⟩)) (by rfl) rfl ?_ ?_
  · go_simp
  have hbz := blk_new w1.drew (.cells #[.int .u8 0, .int .u8 0, .int .u8 0, .int .u8 0] 32 (0, 0))
  have hbb := below_alloc (Below.refl w1.drew.heap.size w1.drew) (.cells #[.int .u8 0, .int .u8 0, .int .u8 0, .int .u8 0] 32 (0, 0))
  refine hK.out _ _ ⟨(hbb.cell (World.block_lt_of_cell? _ _ hc0)).trans hc0, (hbb.cell (World.block_lt_of_cell? _ _ hc1)).trans hc1, (hbb.cell (World.block_lt_of_cell? _ _ hc2)).trans hc2, (hbb.cell (World.block_lt_of_cell? _ _ hc3)).trans hc3, (hbb.cell (World.block_lt_of_cell? _ _ hc4)).trans hc4⟩ (fun hHeld => ?_)
  clear hK K
  refine norm_ (a' := ?_) ?_ ?_
  rotate_left
  · show Act.put _ (some 8) _ = _
    simp only [Act.put, List.setIfInBounds_toArray, List.set_cons_zero, List.set_cons_succ, i64_w, i32_w]
    rfl
  obtain ⟨gb, hgb⟩ : ∃ g : Nat, g = w1.drew.heap.size := ⟨_, rfl⟩
  have hsz : w1.heap.size = gb := hgb.symm
  have HBB := Aside0.mk (show Below w.heap.size w (w1.drew.alloc (.cells #[.int .u8 0, .int .u8 0, .int .u8 0, .int .u8 0] 32 (0, 0))) from below_alloc (below_drew1 HB1.out) _)
  have HGB := Aside0.mk (show w.heap.size ≤ gb by (rw [← hsz]; exact below_size HB1.out))
  rw [← hgb] at hbz hbb ⊢
  clear hHeld hbb hc0 hc1 hc2 hc3 hc4
  generalize w1.drew.alloc (.cells #[.int .u8 0, .int .u8 0, .int .u8 0, .int .u8 0] 32 (0, 0)) = w2 at hbz HBB ⊢
  have BK2 := Aside0.mk hbz
  have hz0 : w2.cell? ⟨gb, 0, none⟩ = some (.int .u8 0) := (blk_cell hbz 0).trans rfl
  have fz0 := blk_frozen hbz 0
  have hz1 : w2.cell? ⟨gb, 1, none⟩ = some (.int .u8 0) := (blk_cell hbz 1).trans rfl
  have fz1 := blk_frozen hbz 1
  have hz2 : w2.cell? ⟨gb, 2, none⟩ = some (.int .u8 0) := (blk_cell hbz 2).trans rfl
  have fz2 := blk_frozen hbz 2
  have hz3 : w2.cell? ⟨gb, 3, none⟩ = some (.int .u8 0) := (blk_cell hbz 3).trans rfl
  have fz3 := blk_frozen hbz 3
  clear hbz hgb hsz
  refine pure_ (i := 5) (N := some 7) (v := ?_) (a' := ?_) #[true, true, true, true, true, true, false] rfl rfl (by kernel_rfl) (fun _ _ _ h => h) (Or.inl ⟨by rfl, ?_⟩) ?_ ?_
  rotate_left
  · intro w'
    go_simp
    with_reducible rfl
  rotate_left
  · simp only [Act.put, List.setIfInBounds_toArray, List.set_cons_zero, List.set_cons_succ, i64_w, i32_w]
    rfl
  refine last_ (i := 6) (N := none) #[true, true, true, true, true, true, true] rfl rfl (by kernel_rfl) (by decide) (fun K hK => ?_)
  refine skip_ (w1 := ?_) (by rfl) rfl ?_ ?_
  rotate_left
  · go_simp
    rfl
  refine hK.out _ _ ?_
  clear hK K
  refine done_ (by kernel_rfl) ?_
  have BK3 := Aside0.mk (blk_put (blk_put (blk_put (blk_put (cs := #[.int .u8 0, .int .u8 0, .int .u8 0, .int .u8 0]) BK2.out 0 (.int .u8 b0) rfl) 1 (.int .u8 b1) rfl) 2 (.int .u8 b2) rfl) 3 (.int .u8 b3) rfl)
  have HB3 := Aside0.mk (below_set (j := 3) (v := .int .u8 b3) (below_set (j := 2) (v := .int .u8 b2) (below_set (j := 1) (v := .int .u8 b1) (below_set (j := 0) (v := .int .u8 b0) HBB.out HGB.out) HGB.out) HGB.out) HGB.out)
  by_cases hp : p2 = 0
  case neg =>
    have h2 : ((grapevinelaw01_lives.f k).bind fun t => if t = true ∧ p2 = 6 then some true else none) = some r := by simpa only [if_neg hp] using h1
    obtain ⟨t, hl, h3⟩ := Option.bind_eq_some_iff.mp h2
    by_cases ht : t = true ∧ p2 = 6
    case neg => rw [if_neg ht] at h3; exact absurd h3 (by simp)
    rw [if_pos ht] at h3
    obtain ⟨rfl, rfl⟩ := ht
    obtain rfl := Option.some.inj h3
    have HL := Aside0.mk hl
    clear h1 h2 h3 hl hp
    go_wp2_with (first | ((with_reducible refine gate_callee (f := 21) rfl ?_); refine goesL_ (some 24) rfl rfl Tryd.func21 (by kernel_rfl) rfl #[.int .u8 a0, .slice A1 l1.length c1] rfl (by (try simp only [List.map_toArray, List.map_cons, List.map_nil]); first | done | rfl) ?_; refine (seal_Seal.calls k a0 _ c1 _ b 6 _ ?hC HC1.out (TabW.below HT.out (by repeat (first | (with_reducible first | exact HB3.out | apply below_alloc | apply pw_below_drewN | apply below_drew1) | exact HB3.out))) HS.out).mono ?_; (case hC => with_reducible repeat (first | exact (Kd.C_below HR1.out HB3.out) | refine Kd.C_alloc ?_ _ | refine Kd.C_drewN ?_ _ | refine Kd.C_drew ?_)); rintro e w4 ⟨v4, rfl, ho, hb⟩; refine ⟨_, rfl, ?_⟩; have HB4 := Aside0.mk (below_step (by repeat (first | (with_reducible first | exact HB3.out | apply below_alloc | apply pw_below_drewN | apply below_drew1) | exact HB3.out)) hb); have HOY := Aside0.mk (Kd.R_lower ho (below_size (by repeat (first | (with_reducible first | exact HB3.out | apply below_alloc | apply pw_below_drewN | apply below_drew1) | exact HB3.out)))); clear ho hb; obtain ⟨Ab, cb, eb⟩ := Kd.R_slice HOY.out; subst eb; clear HOY) | ((with_reducible refine gate_callee (f := 23) rfl ?_); refine goesL_ (some 37) rfl rfl Tryd.func23 (by kernel_rfl) rfl #[] rfl (by (try simp only [List.map_toArray, List.map_cons, List.map_nil]); first | done | rfl) ?_; refine (grapevinelaw01_lives.calls k true _ (TabW.below HT.out (by repeat (first | (with_reducible first | exact HB4.out | apply below_alloc | apply pw_below_drewN | apply below_drew1) | exact HB4.out))) HL.out).mono ?_; rintro e w5 ⟨rfl, hb⟩; refine ⟨_, rfl, ?_⟩; have HB5 := Aside0.mk (below_step (by repeat (first | (with_reducible first | exact HB4.out | apply below_alloc | apply pw_below_drewN | apply below_drew1) | exact HB4.out)) hb); clear hb))
    go_ret
    exact ⟨by first | rfl | (simp; done), (by repeat (first | (with_reducible first | exact HB5.out | apply below_alloc | apply pw_below_drewN | apply below_drew1) | exact HB5.out))⟩
  subst hp
  have h2 : (if b.length = 8 + l1.length ∧ l1.length ≤ 4096 then (grapevinelaw01_SealApart.l0 k ([b0, b1, b2, b3] : List Int) (wrap64 (4 + Int.tmod (wrap64 a2) (((l1.length + 4 : Nat) : Int)))) b false 0).bind fun xt => (seal_Open.f k xt.1 0).bind fun q => (grapevinelaw01_lives.f k).bind fun t => if t = true ∧ ((q.2.2.2.2 == 5) == xt.2) = true ∧ ((q.2.2.2.2 == 0) == !xt.2) = true then some true else none else none) = some r := by simpa only [if_true] using h1
  clear h1
  by_cases hlm : b.length = 8 + l1.length ∧ l1.length ≤ 4096
  case neg => rw [if_neg hlm] at h2; exact absurd h2 (by simp)
  rw [if_pos hlm] at h2
  have HLM := Aside0.mk hlm
  have w8e : wrap64 (8 + (l1.length : Int)) = (b.length : Int) := by unfold wrap64; omega
  obtain ⟨n4, hn4⟩ : ∃ n : Nat, n = l1.length + 4 := ⟨_, rfl⟩
  have w4e : wrap64 ((l1.length : Int) + 4) = (n4 : Int) := by unfold wrap64; omega
  have n4b : ((n4 : Int) == 0) = false := beq_eq_false_iff_ne.mpr (by omega)
  have n4n : (n4 == 0) = false := beq_eq_false_iff_ne.mpr (by omega)
  have n4d := eq_false (show ¬ n4 = 0 by omega)
  have n4f := eq_false (show ¬ (n4 : Int) = 0 by omega)
  rw [← hn4] at h2
  clear hlm hn4
  obtain ⟨fr, hfr⟩ : ∃ f : Int, wrap64 (4 + Int.tmod (wrap64 a2) (n4 : Int)) = f := ⟨_, rfl⟩
  rw [hfr] at h2
  obtain ⟨⟨xe, te⟩, hlp, h3⟩ := Option.bind_eq_some_iff.mp h2
  obtain ⟨⟨q1, q2, q3, q4, q5⟩, ho, h4⟩ := Option.bind_eq_some_iff.mp h3
  obtain ⟨t, hl, h5⟩ := Option.bind_eq_some_iff.mp h4
  by_cases hq : t = true ∧ ((q5 == 5) == te) = true ∧ ((q5 == 0) == !te) = true
  case neg => exact absurd ((if_neg hq).symm.trans h5) (by simp)
  have h6 := (if_pos hq).symm.trans h5
  obtain ⟨rfl, hq1, hq2⟩ := hq
  obtain rfl := Option.some.inj h6
  have HP := Aside0.mk hlp
  have HL := Aside0.mk hl
  have HO := Aside0.mk (show seal_Open.f k xe 0 = some (q1, q2, q3, q4, q5) from ho)
  clear h2 h3 h4 h5 h6 hlp hl ho
  go_wp2_with (((with_reducible refine gate_callee (f := 21) rfl ?_); refine goesL_ (some 24) rfl rfl Tryd.func21 (by kernel_rfl) rfl #[.int .u8 a0, .slice A1 l1.length c1] rfl (by (try simp only [List.map_toArray, List.map_cons, List.map_nil]); first | done | rfl) ?_; refine (seal_Seal.calls k a0 _ c1 _ b 0 _ ?hC HC1.out (TabW.below HT.out (by repeat (first | (with_reducible first | exact HB3.out | apply below_alloc | apply pw_below_drewN | apply below_drew1) | exact HB3.out))) HS.out).mono ?_; (case hC => with_reducible repeat (first | exact (Kd.C_below HR1.out HB3.out) | refine Kd.C_alloc ?_ _ | refine Kd.C_drewN ?_ _ | refine Kd.C_drew ?_)); rintro e w4 ⟨v4, rfl, ho, hb⟩; refine ⟨_, rfl, ?_⟩; have HB4 := Aside0.mk (below_step (by repeat (first | (with_reducible first | exact HB3.out | apply below_alloc | apply pw_below_drewN | apply below_drew1) | exact HB3.out)) hb); have HOY := Aside0.mk (Kd.R_lower ho (below_size (by repeat (first | (with_reducible first | exact HB3.out | apply below_alloc | apply pw_below_drewN | apply below_drew1) | exact HB3.out)))); have hgb2 := blk_lt BK3.out; have BK4 := Aside0.mk ((hb.block gb (blk_lt BK3.out)).trans BK3.out); obtain ⟨g, cx, ev, _, _, _⟩ := Kd.R_form ho (by have := HLM.out; omega); subst ev; have HOX := Aside0.mk (Kd.R_mono (ok' := fun k_ => k_ ≠ gb) (Kd.R_lower (Kd.R_bound ho) (below_size HB3.out)) (fun k_ hk (e_ : k_ = gb) => by have h1_ := hk.2.1; have h2_ := hgb2; subst e_; exact absurd h2_ (Nat.not_lt.2 h1_))); clear ho hb hgb2 HOY))
  go_loopg [12, 13] k (fun kq v9 v10 w' => ∃ (x : List Int) (t : Bool) (i : Int), v9 = .bool t ∧ v10 = .int .i64 i ∧ Aside0 (grapevinelaw01_SealApart.l0 kq ([b0, b1, b2, b3] : List Int) fr x t i = some (xe, te)) ∧ Aside0 (kq ≤ k) ∧ Aside0 (x.length = b.length) ∧ Aside0 (Kd.R (Kd.int .u8) 5 w' w.heap.size (fun k_ => k_ ≠ gb) (.slice (some ⟨g, 0, none⟩) b.length cx) x) ∧ Aside0 (Below w.heap.size w w') ∧ Aside0 (w'.heap[gb]? = some (.cells #[.int .u8 b0, .int .u8 b1, .int .u8 b2, .int .u8 b3] 32 (0, 0))))
  case atStart => exact ⟨b, false, 0, rfl, rfl, HP, ⟨Nat.le_refl _⟩, ⟨rfl⟩, HOX, HB4, BK4⟩
  case round =>
    obtain ⟨x, t, i, rfl, rfl, HA, HK, HXL, HOX, HB, BK⟩ := hrel
    cases gk with
    | zero => exact absurd HA.out (by simp [grapevinelaw01_SealApart.l0])
    | succ k1 =>
      have H := HA.out
      clear HA
      simp only [grapevinelaw01_SealApart.l0] at H
      rw [HXL.out] at H
      obtain ⟨j, hj⟩ : ∃ j : Int, wrap64 (fr + i) = j := ⟨_, rfl⟩
      rw [hj] at H
      by_cases c2 : i < 4
      case neg =>
        rw [if_neg c2] at H
        have c2b : decide (i < 4) = false := decide_eq_false c2
        simp only [Option.some.injEq, Prod.mk.injEq] at H
        obtain ⟨ex, et⟩ := H
        subst ex
        subst et
        clear c2
        have HX1 := Aside0.mk (show x.length = b.length ∧ b.length ≤ cx from ⟨HXL.out, (Kd.R_reads' HOX.out).2.1⟩)
        go_wp2_with (first | ((with_reducible refine gate_callee (f := 24) rfl ?_); refine goesL_ (some 81) rfl rfl Tryd.func24 (by kernel_rfl) rfl #[.slice (some ⟨g, 0, none⟩) b.length cx, .int .i64 0] rfl (by (try simp only [List.map_toArray, List.map_cons, List.map_nil]); first | done | rfl) ?_; refine calls_of_args (args' := #[.slice (some ⟨g, 0, none⟩) x.length cx, .int .i64 0]) (by rw [HX1.out.1]) ?_; refine (seal_Open.calls k _ cx x 0 q1 q2 q3 q4 q5 _ ?hC (by have := HX1.out; omega) ?hT HO.out).mono ?_; (case hC => repeat (first | exact (Kd.R_reads' HOX.out).2.2 | (with_reducible refine Kd.C_alloc ?_ _) | (with_reducible refine Kd.C_drewN ?_ _) | (with_reducible refine Kd.C_drew ?_))); (case hT => exact (TabW.below HT.out (by repeat (first | (with_reducible first | exact HB.out | apply below_alloc | apply pw_below_drewN | apply below_drew1) | exact HB.out)))); rintro e w6 ⟨v6, rfl, ho6, hb⟩; refine ⟨_, rfl, ?_⟩; have HB6 := Aside0.mk (below_step (by repeat (first | (with_reducible first | exact HB.out | apply below_alloc | apply pw_below_drewN | apply below_drew1) | exact HB.out)) hb); obtain ⟨Av, cv, ev⟩ := Kd.R_slice ho6; subst ev; clear ho6 hb) | ((with_reducible refine gate_dst (N := 14) rfl ?_); refine box_event ?hg (N := 14) ?hd (cs := #[.int .u8 0, .int .i64 0, .slice none 0 0]) (t := 39) ?hr ?_; (case hd => rfl); (case hg => rfl); (case hr => first | (go_simp; done) | (go_simp; rfl)); intro gs hgs w7 hbox hb; have GS0 := Aside0.mk (show w.heap.size ≤ gs by (rw [hgs]; exact below_size HB6.out)); have HB7 := Aside0.mk (below_step HB6.out hb); have hcz0 : w7.cell? ⟨gs, 0, none⟩ = some (.int .u8 0) := (blk_cell hbox 0).trans rfl; have hcz1 : w7.cell? ⟨gs, 1, none⟩ = some (.int .i64 0) := (blk_cell hbox 1).trans rfl; have hcz2 : w7.cell? ⟨gs, 2, none⟩ = some (.slice none 0 0) := (blk_cell hbox 2).trans rfl; have hfz0 := blk_frozen hbox 0; have hfz1 := blk_frozen hbox 1; have hfz2 := blk_frozen hbox 2; clear hgs hbox hb) | ((with_reducible refine gate_callee (f := 23) rfl ?_); refine goesL_ (some 85) rfl rfl Tryd.func23 (by kernel_rfl) rfl #[] rfl (by (try simp only [List.map_toArray, List.map_cons, List.map_nil]); first | done | rfl) ?_; refine (grapevinelaw01_lives.calls k true _ (TabW.below HT.out (by repeat (first | (with_reducible first | exact HB7.out | apply below_alloc | apply pw_below_drewN | apply below_drew1 | refine below_set ?_ GS0.out) | exact HB7.out))) HL.out).mono ?_; rintro e w8 ⟨rfl, hb⟩; refine ⟨_, rfl, ?_⟩; have HB8 := Aside0.mk (below_step (by repeat (first | (with_reducible first | exact HB7.out | apply below_alloc | apply pw_below_drewN | apply below_drew1 | refine below_set ?_ GS0.out) | exact HB7.out)) hb); clear hb))
        go_ret
        exact ⟨by first | rfl | (simp; done) | (simp only [hq1, hq2]) | (simp [hq1, hq2]), (by repeat (first | (with_reducible first | exact HB8.out | apply below_alloc | apply pw_below_drewN | apply below_drew1) | exact HB8.out))⟩
      rw [if_pos c2] at H
      have c2b : decide (i < 4) = true := decide_eq_true c2
      by_cases c3 : j < (b.length : Int)
      case neg =>
        rw [if_neg c3] at H
        have c3b : decide (j < (b.length : Int)) = false := decide_eq_false c3
        simp only [Option.some.injEq, Prod.mk.injEq] at H
        obtain ⟨ex, et⟩ := H
        subst ex
        subst et
        clear c2 c3
        have HX1 := Aside0.mk (show x.length = b.length ∧ b.length ≤ cx from ⟨HXL.out, (Kd.R_reads' HOX.out).2.1⟩)
        go_wp2_with (first | ((with_reducible refine gate_callee (f := 24) rfl ?_); refine goesL_ (some 81) rfl rfl Tryd.func24 (by kernel_rfl) rfl #[.slice (some ⟨g, 0, none⟩) b.length cx, .int .i64 0] rfl (by (try simp only [List.map_toArray, List.map_cons, List.map_nil]); first | done | rfl) ?_; refine calls_of_args (args' := #[.slice (some ⟨g, 0, none⟩) x.length cx, .int .i64 0]) (by rw [HX1.out.1]) ?_; refine (seal_Open.calls k _ cx x 0 q1 q2 q3 q4 q5 _ ?hC (by have := HX1.out; omega) ?hT HO.out).mono ?_; (case hC => repeat (first | exact (Kd.R_reads' HOX.out).2.2 | (with_reducible refine Kd.C_alloc ?_ _) | (with_reducible refine Kd.C_drewN ?_ _) | (with_reducible refine Kd.C_drew ?_))); (case hT => exact (TabW.below HT.out (by repeat (first | (with_reducible first | exact HB.out | apply below_alloc | apply pw_below_drewN | apply below_drew1) | exact HB.out)))); rintro e w6 ⟨v6, rfl, ho6, hb⟩; refine ⟨_, rfl, ?_⟩; have HB6 := Aside0.mk (below_step (by repeat (first | (with_reducible first | exact HB.out | apply below_alloc | apply pw_below_drewN | apply below_drew1) | exact HB.out)) hb); obtain ⟨Av, cv, ev⟩ := Kd.R_slice ho6; subst ev; clear ho6 hb) | ((with_reducible refine gate_dst (N := 14) rfl ?_); refine box_event ?hg (N := 14) ?hd (cs := #[.int .u8 0, .int .i64 0, .slice none 0 0]) (t := 39) ?hr ?_; (case hd => rfl); (case hg => rfl); (case hr => first | (go_simp; done) | (go_simp; rfl)); intro gs hgs w7 hbox hb; have GS0 := Aside0.mk (show w.heap.size ≤ gs by (rw [hgs]; exact below_size HB6.out)); have HB7 := Aside0.mk (below_step HB6.out hb); have hcz0 : w7.cell? ⟨gs, 0, none⟩ = some (.int .u8 0) := (blk_cell hbox 0).trans rfl; have hcz1 : w7.cell? ⟨gs, 1, none⟩ = some (.int .i64 0) := (blk_cell hbox 1).trans rfl; have hcz2 : w7.cell? ⟨gs, 2, none⟩ = some (.slice none 0 0) := (blk_cell hbox 2).trans rfl; have hfz0 := blk_frozen hbox 0; have hfz1 := blk_frozen hbox 1; have hfz2 := blk_frozen hbox 2; clear hgs hbox hb) | ((with_reducible refine gate_callee (f := 23) rfl ?_); refine goesL_ (some 85) rfl rfl Tryd.func23 (by kernel_rfl) rfl #[] rfl (by (try simp only [List.map_toArray, List.map_cons, List.map_nil]); first | done | rfl) ?_; refine (grapevinelaw01_lives.calls k true _ (TabW.below HT.out (by repeat (first | (with_reducible first | exact HB7.out | apply below_alloc | apply pw_below_drewN | apply below_drew1 | refine below_set ?_ GS0.out) | exact HB7.out))) HL.out).mono ?_; rintro e w8 ⟨rfl, hb⟩; refine ⟨_, rfl, ?_⟩; have HB8 := Aside0.mk (below_step (by repeat (first | (with_reducible first | exact HB7.out | apply below_alloc | apply pw_below_drewN | apply below_drew1 | refine below_set ?_ GS0.out) | exact HB7.out)) hb); clear hb))
        go_ret
        exact ⟨by first | rfl | (simp; done) | (simp only [hq1, hq2]) | (simp [hq1, hq2]), (by repeat (first | (with_reducible first | exact HB8.out | apply below_alloc | apply pw_below_drewN | apply below_drew1) | exact HB8.out))⟩
      rw [if_pos c3] at H
      have c3b : decide (j < (b.length : Int)) = true := decide_eq_true c3
      by_cases c4 : 0 ≤ j ∧ 0 ≤ i
      case neg => rw [if_neg c4] at H; exact absurd H (by simp)
      rw [if_pos c4] at H
      have HN := Aside0.mk H
      clear H
      have hxo := Kd.R_celln (0 : Int) HOX.out j c4.1 c3
      have hxj : wr.drew.cell? ⟨g, j.toNat, none⟩ = some (.int .u8 (rd x j)) := hxo.1
      have fzj : wr.drew.frozen? ⟨g, j.toNat, none⟩ = false := hxo.2
      have hb4 : i = 0 ∨ i = 1 ∨ i = 2 ∨ i = 3 := by omega
      have hne1 : g ≠ gb := HOX.out.1 g rfl
      have hne2 : gb ≠ g := hne1.symm
      have hbi2 : (wr.setCell ⟨g, j.toNat, none⟩ (.int .u8 (Go.bits .xor .u8 (rd x j) (rd ([b0, b1, b2, b3] : List Int) i)))).drew.cell? ⟨gb, i.toNat, none⟩ = some (.int .u8 (rd ([b0, b1, b2, b3] : List Int) i)) := by
        have bk2 := (Below.heap_setCell wr ⟨g, j.toNat, none⟩ (.int .u8 (Go.bits .xor .u8 (rd x j) (rd ([b0, b1, b2, b3] : List Int) i))) gb hne2).trans BK.out
        generalize (wr.setCell ⟨g, j.toNat, none⟩ (.int .u8 (Go.bits .xor .u8 (rd x j) (rd ([b0, b1, b2, b3] : List Int) i)))) = wz at bk2
        show wz.cell? _ = _
        rcases hb4 with rfl | rfl | rfl | rfl <;> exact (blk_cell bk2 _).trans rfl
      have hbi : wr.drew.cell? ⟨gb, i.toNat, none⟩ = some (.int .u8 (rd ([b0, b1, b2, b3] : List Int) i)) := by
        rcases hb4 with rfl | rfl | rfl | rfl <;> exact (blk_cell BK.out _).trans rfl
      have pj := eq_true c4.1
      have qj := eq_true c3
      have pi := eq_true c4.2
      have qi := eq_true c2
      clear hxo c2 c3 c4 hb4
      go_wp2
      refine start_ (n := 12) (S := fun w' => w'.cell? ⟨g, j.toNat, none⟩ = some (.int .u8 (rd x j)) ∧ w'.cell? ⟨gb, i.toNat, none⟩ = some (.int .u8 (rd ([b0, b1, b2, b3] : List Int) i))) (ds := [11]) #[false, false, false, false, false, false, false, false, false, false, false, false] (by kernel_rfl) rfl rfl ⟨hxj, hbi⟩ (fun hHeld => ?_)
      refine pure_ (i := 0) (N := some 61) (v := ?_) (a' := ?_) #[true, false, false, false, false, false, false, false, false, false, false, false] rfl rfl (by kernel_rfl) (fun _ _ _ h => h) (Or.inl ⟨by rfl, ?_⟩) ?_ ?_
      rotate_left
      · intro w'
        go_simp
        with_reducible rfl
      rotate_left
      · simp only [Act.put, List.setIfInBounds_toArray, List.set_cons_zero, List.set_cons_succ, i64_w, i32_w]
        rfl
      refine pure_ (i := 1) (N := some 62) (v := ?_) (a' := ?_) #[true, true, false, false, false, false, false, false, false, false, false, false] rfl rfl (by kernel_rfl) (fun _ _ _ h => h) (Or.inl ⟨by rfl, ?_⟩) ?_ ?_
      rotate_left
      · intro w'
        go_simp
        with_reducible rfl
      rotate_left
      · simp only [Act.put, List.setIfInBounds_toArray, List.set_cons_zero, List.set_cons_succ, i64_w, i32_w]
        rfl
      refine pure_ (i := 2) (N := some 63) (v := ?_) (a' := ?_) #[true, true, true, false, false, false, false, false, false, false, false, false] rfl rfl (by kernel_rfl) (fun _ _ _ h => h) (Or.inl ⟨by rfl, ?_⟩) ?_ ?_
      rotate_left
      · intro w'
        go_simp
        with_reducible rfl
      rotate_left
      · simp only [Act.put, List.setIfInBounds_toArray, List.set_cons_zero, List.set_cons_succ, i64_w, i32_w]
        rfl
      refine pure_ (i := 3) (N := some 64) (v := ?_) (a' := ?_) #[true, true, true, true, false, false, false, false, false, false, false, false] rfl rfl (by kernel_rfl) (fun _ _ _ h => h) (Or.inl ⟨by rfl, ?_⟩) ?_ ?_
      rotate_left
      · intro w'
        go_simp
        with_reducible rfl
      rotate_left
      · simp only [Act.put, List.setIfInBounds_toArray, List.set_cons_zero, List.set_cons_succ, i64_w, i32_w]
        rfl
      refine pure_ (i := 4) (N := some 65) (v := ?_) (a' := ?_) #[true, true, true, true, true, false, false, false, false, false, false, false] rfl rfl (by kernel_rfl) (fun _ _ _ h => h) (Or.inl ⟨by rfl, ?_⟩) ?_ ?_
      rotate_left
      · intro w'
        go_simp
        with_reducible rfl
      rotate_left
      · simp only [Act.put, List.setIfInBounds_toArray, List.set_cons_zero, List.set_cons_succ, i64_w, i32_w]
        rfl
      refine take_ (i := 5) (N := some 66) (v := ?_) (a' := ?_) #[true, true, true, true, true, true, false, false, false, false, false, false] rfl rfl (by kernel_rfl) (fun _ _ _ h => h) (Or.inl ⟨by rfl, ?_⟩) hHeld ?_ ?_
      rotate_left
      · rintro w' ⟨s0, s1⟩
        go_simp
        with_reducible rfl
      rotate_left
      · simp only [Act.put, List.setIfInBounds_toArray, List.set_cons_zero, List.set_cons_succ, i64_w, i32_w]
        rfl
      refine pure_ (i := 6) (N := some 67) (v := ?_) (a' := ?_) #[true, true, true, true, true, true, true, false, false, false, false, false] rfl rfl (by kernel_rfl) (fun _ _ _ h => h) (Or.inl ⟨by rfl, ?_⟩) ?_ ?_
      rotate_left
      · intro w'
        go_simp
        with_reducible rfl
      rotate_left
      · simp only [Act.put, List.setIfInBounds_toArray, List.set_cons_zero, List.set_cons_succ, i64_w, i32_w]
        rfl
      refine pure_ (i := 7) (N := some 68) (v := ?_) (a' := ?_) #[true, true, true, true, true, true, true, true, false, false, false, false] rfl rfl (by kernel_rfl) (fun _ _ _ h => h) (Or.inl ⟨by rfl, ?_⟩) ?_ ?_
      rotate_left
      · intro w'
        go_simp
        with_reducible rfl
      rotate_left
      · simp only [Act.put, List.setIfInBounds_toArray, List.set_cons_zero, List.set_cons_succ, i64_w, i32_w]
        rfl
      refine take_ (i := 8) (N := some 69) (v := ?_) (a' := ?_) #[true, true, true, true, true, true, true, true, true, false, false, false] rfl rfl (by kernel_rfl) (fun _ _ _ h => h) (Or.inl ⟨by rfl, ?_⟩) hHeld ?_ ?_
      rotate_left
      · rintro w' ⟨s0, s1⟩
        go_simp
        with_reducible rfl
      rotate_left
      · simp only [Act.put, List.setIfInBounds_toArray, List.set_cons_zero, List.set_cons_succ, i64_w, i32_w]
        rfl
      refine pure_ (i := 9) (N := some 70) (v := ?_) (a' := ?_) #[true, true, true, true, true, true, true, true, true, true, false, false] rfl rfl (by kernel_rfl) (fun _ _ _ h => h) (Or.inl ⟨by rfl, ?_⟩) ?_ ?_
      rotate_left
      · intro w'
        go_simp
        with_reducible rfl
      rotate_left
      · simp only [Act.put, List.setIfInBounds_toArray, List.set_cons_zero, List.set_cons_succ, i64_w, i32_w]
        rfl
      refine pure_ (i := 10) (N := some 71) (v := ?_) (a' := ?_) #[true, true, true, true, true, true, true, true, true, true, true, false] rfl rfl (by kernel_rfl) (fun _ _ _ h => h) (Or.inl ⟨by rfl, ?_⟩) ?_ ?_
      rotate_left
      · intro w'
        go_simp
        with_reducible rfl
      rotate_left
      · simp only [Act.put, List.setIfInBounds_toArray, List.set_cons_zero, List.set_cons_succ, i64_w, i32_w]
        rfl
      refine last_ (i := 11) (N := none) #[true, true, true, true, true, true, true, true, true, true, true, true] rfl rfl (by kernel_rfl) (by decide) (fun K hK => ?_)
      refine skip_ (w1 := ?_) (by rfl) rfl ?_ ?_
      rotate_left
      · go_simp
        rfl
      refine hK.out _ _ ?_
      clear hK K
      refine done_ (by kernel_rfl) ?_
      have HGE := Aside0.mk (Kd.R_base HOX.out g rfl)
      cases t with
      | true =>
        go_wp2
        go_roundg k1
        case measure => have := HK.out; omega
        case rel => exact ⟨_, true, _, rfl, rfl, ⟨by simpa using HN.out⟩, ⟨by have := HK.out; omega⟩, ⟨by rw [List.length_set]; exact HXL.out⟩, ⟨by (with_reducible repeat (first | apply Kd.R_drewN | apply Kd.R_drew)); exact Kd.R_putn (Kd.R_drew HOX.out) j _⟩, ⟨by repeat (first | (with_reducible first | exact HB.out | apply below_alloc | apply pw_below_drewN | apply below_drew1 | refine below_set ?_ HGE.out) | exact HB.out)⟩, ⟨(Below.heap_setCell _ _ _ gb hne2).trans BK.out⟩⟩
      | false =>
        go_wp2
        go_roundg k1
        case measure => have := HK.out; omega
        case rel => exact ⟨_, (rd ([b0, b1, b2, b3] : List Int) i != 0), _, rfl, rfl, ⟨by simpa using HN.out⟩, ⟨by have := HK.out; omega⟩, ⟨by rw [List.length_set]; exact HXL.out⟩, ⟨by (with_reducible repeat (first | apply Kd.R_drewN | apply Kd.R_drew)); exact Kd.R_putn (Kd.R_drew HOX.out) j _⟩, ⟨by repeat (first | (with_reducible first | exact HB.out | apply below_alloc | apply pw_below_drewN | apply below_drew1 | refine below_set ?_ HGE.out) | exact HB.out)⟩, ⟨(Below.heap_setCell _ _ _ gb hne2).trans BK.out⟩⟩


/-! ### seal_Scan: function 27 -/
end Go.Proofs.YtnbhlaoblnalpaaDoor.PE
