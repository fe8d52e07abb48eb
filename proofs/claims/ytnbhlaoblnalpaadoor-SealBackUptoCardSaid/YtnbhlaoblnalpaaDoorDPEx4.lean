-- PRINTED by gprint.py (a session's own driver over the kit's print): not trusted; Lean checks it.
import Derived.Test.YtnbhlaoblnalpaaDoorDPEx0
import Derived.Test.YtnbhlaoblnalpaaDoorDPEx1
import Derived.Test.YtnbhlaoblnalpaaDoorDPEx2
import Derived.Test.YtnbhlaoblnalpaaDoorDPEx3
namespace Go.Proofs.YtnbhlaoblnalpaaDoor.PE
open Go.RowKit Go.Proofs.YtnbhlaoblnalpaaDoorW.PrintWords Go.Proofs.YtnbhlaoblnalpaaDoorW.PrintLast Go.Proofs.YtnbhlaoblnalpaaDoorW.PrintMore
attribute [local go_sem] max2_int min2_int max_two min_two max_three min_three max_four min_four   -- for this text's walks alone
set_option linter.unusedVariables false
set_option linter.unusedSimpArgs false

/-! ### grapevineref01_Same: function 26 -/
/-! ### grapevinelaw01_SealOpens: function 8 -/
/-! ### grapevinelaw01_SealBack: function 9 -/
-- typed by mk_back.py: the true path alone
def grapevinelaw01_SealBack.f (k : Nat) (a0 : Int) (l1_0 l1_1 l1_2 : List Int) : Option Bool :=
  (seal_Seal.f k a0 l1_1).bind fun p =>
    if p.2 = 0 then
      (if l1_0.length + p.1.length + l1_2.length < 140737488355328 then
        (seal_Open.f k (l1_0 ++ p.1 ++ l1_2) (l1_0.length : Int)).bind fun q => (grapevinelaw01_lives.f k).bind fun t =>
          if t = true ∧ q = (a0, (l1_0.length : Int), l1_1, wrap64 (wrap64 ((l1_0.length : Int) + 8) + (l1_1.length : Int)), 0) then some true else none
      else none)
    else (grapevinelaw01_lives.f k).bind fun t => if t = true ∧ p.2 = 6 ∧ 4096 < l1_1.length ∧ p.1 = [] then some true else none
set_option maxHeartbeats 16000000 in
set_option maxRecDepth 100000 in
theorem grapevinelaw01_SealBack.calls (k : Nat) (a0 : Int) (A1_0 : Option Addr) (c1_0 : Nat) (l1_0 : List Int) (A1_1 : Option Addr) (c1_1 : Nat) (l1_1 : List Int) (A1_2 : Option Addr) (c1_2 : Nat) (l1_2 : List Int) (r : Bool) (w : World) (hr1_0 : Kd.C (Kd.int .u8) w A1_0 l1_0.length l1_0) (hc1_0 : l1_0.length ≤ c1_0) (hr1_1 : Kd.C (Kd.int .u8) w A1_1 l1_1.length l1_1) (hc1_1 : l1_1.length ≤ c1_1) (hr1_2 : Kd.C (Kd.int .u8) w A1_2 l1_2.length l1_2) (hc1_2 : l1_2.length ≤ c1_2) (ht : TabW w) (h : grapevinelaw01_SealBack.f k a0 l1_0 l1_1 l1_2 = some r) :
    Calls Tryd.prog 9 #[.int .u8 a0, .agg #[.slice A1_0 l1_0.length c1_0, .slice A1_1 l1_1.length c1_1, .slice A1_2 l1_2.length c1_2]] w fun e w' => e = .returned (.bool r) ∧ Below w.heap.size w w' := by
  have hu39 := Tryd.underlying39
  have hu45 := Tryd.underlying45
  have HR0 := Aside0.mk hr1_0
  have HC0 := Aside0.mk hc1_0
  have HR1 := Aside0.mk hr1_1
  have HC1 := Aside0.mk hc1_1
  have HR2 := Aside0.mk hr1_2
  have HC2 := Aside0.mk hc1_2
  have HT := Aside0.mk ht
  clear hr1_0 hc1_0 hr1_1 hc1_1 hr1_2 hc1_2 ht
  unfold grapevinelaw01_SealBack.f at h
  obtain ⟨⟨b, p2⟩, hs, h1⟩ := Option.bind_eq_some_iff.mp h
  clear h
  have HS := Aside0.mk hs
  clear hs
  by_cases hp : p2 = 0
  case neg =>
    have h2 : ((grapevinelaw01_lives.f k).bind fun t => if t = true ∧ p2 = 6 ∧ 4096 < l1_1.length ∧ b = [] then some true else none) = some r := by simpa only [if_neg hp] using h1
    obtain ⟨t, hl, h3⟩ := Option.bind_eq_some_iff.mp h2
    by_cases ht : t = true ∧ p2 = 6 ∧ 4096 < l1_1.length ∧ b = []
    case neg => rw [if_neg ht] at h3; exact absurd h3 (by simp)
    rw [if_pos ht] at h3
    obtain ⟨rfl, rfl, hbig, rfl⟩ := ht
    obtain rfl := Option.some.inj h3
    have HL := Aside0.mk hl
    have big1 : decide (4096 < (l1_1.length : Int)) = true := decide_eq_true (by omega)
    have big2 : decide (4096 < l1_1.length) = true := decide_eq_true hbig
    clear h1 h2 h3 hl hp hbig
    go_enter Tryd.func9, Tryd.ntmps9
    go_wp2_with (((with_reducible refine gate_dst (N := 3) rfl ?_); refine box_event ?hg (N := 3) ?hd (cs := #[.slice A1_0 l1_0.length c1_0, .slice A1_1 l1_1.length c1_1, .slice A1_2 l1_2.length c1_2]) (t := 45) ?hr ?_; (case hd => rfl); (case hg => rfl); (case hr => first | (go_simp; done) | (go_simp; rfl)); intro gp hgp w1 hbox hb; have HB1 := Aside0.mk hb; have hcp0 : w1.cell? ⟨gp, 0, none⟩ = some (.slice A1_0 l1_0.length c1_0) := (blk_cell hbox 0).trans rfl; have hcp1 : w1.cell? ⟨gp, 1, none⟩ = some (.slice A1_1 l1_1.length c1_1) := (blk_cell hbox 1).trans rfl; have hcp2 : w1.cell? ⟨gp, 2, none⟩ = some (.slice A1_2 l1_2.length c1_2) := (blk_cell hbox 2).trans rfl; clear hgp hbox hb))
    go_quiet (fail)
    go_wp2_with (first | ((with_reducible refine gate_callee (f := 21) rfl ?_); refine goesL_ (some 23) rfl rfl Tryd.func21 (by kernel_rfl) rfl #[.int .u8 a0, .slice A1_1 l1_1.length c1_1] rfl (by (try simp only [List.map_toArray, List.map_cons, List.map_nil]); first | done | rfl) ?_; refine (seal_Seal.calls k a0 _ c1_1 _ [] 6 _ ?hC HC1.out (TabW.below HT.out (by repeat (first | (with_reducible first | exact HB1.out | apply below_alloc | apply pw_below_drewN | apply below_drew1) | exact HB1.out))) HS.out).mono ?_; (case hC => with_reducible repeat (first | exact (Kd.C_below HR1.out HB1.out) | refine Kd.C_alloc ?_ _ | refine Kd.C_drewN ?_ _ | refine Kd.C_drew ?_)); rintro e w2 ⟨v2, rfl, ho, hb⟩; refine ⟨_, rfl, ?_⟩; have HB2 := Aside0.mk (below_step (by repeat (first | (with_reducible first | exact HB1.out | apply below_alloc | apply pw_below_drewN | apply below_drew1) | exact HB1.out)) hb); have HO2 := Aside0.mk (Kd.R_lower ho (below_size (by repeat (first | (with_reducible first | exact HB1.out | apply below_alloc | apply pw_below_drewN | apply below_drew1) | exact HB1.out)))); clear ho hb; obtain ⟨Ab, cb, eb⟩ := Kd.R_slice HO2.out; subst eb; clear HO2) | ((with_reducible refine gate_callee (f := 23) rfl ?_); refine goesL_ (some 28) rfl rfl Tryd.func23 (by kernel_rfl) rfl #[] rfl (by (try simp only [List.map_toArray, List.map_cons, List.map_nil]); first | done | rfl) ?_; refine (grapevinelaw01_lives.calls k true _ (TabW.below HT.out (by repeat (first | (with_reducible first | exact HB2.out | apply below_alloc | apply pw_below_drewN | apply below_drew1) | exact HB2.out))) HL.out).mono ?_; rintro e w3 ⟨rfl, hb⟩; refine ⟨_, rfl, ?_⟩; have HB3 := Aside0.mk (below_step (by repeat (first | (with_reducible first | exact HB2.out | apply below_alloc | apply pw_below_drewN | apply below_drew1) | exact HB2.out)) hb); clear hb))
    go_ret
    exact ⟨by first | rfl | (simp; done), (by repeat (first | (with_reducible first | exact HB3.out | apply below_alloc | apply pw_below_drewN | apply below_drew1) | exact HB3.out))⟩
  subst hp
  have h2 : (if l1_0.length + b.length + l1_2.length < 140737488355328 then (seal_Open.f k (l1_0 ++ b ++ l1_2) (l1_0.length : Int)).bind fun q => (grapevinelaw01_lives.f k).bind fun t => if t = true ∧ q = (a0, (l1_0.length : Int), l1_1, wrap64 (wrap64 ((l1_0.length : Int) + 8) + (l1_1.length : Int)), 0) then some true else none else none) = some r := by simpa only [if_true] using h1
  clear h1
  by_cases hlm : l1_0.length + b.length + l1_2.length < 140737488355328
  case neg => rw [if_neg hlm] at h2; exact absurd h2 (by simp)
  rw [if_pos hlm] at h2
  have HLM := Aside0.mk hlm
  clear hlm
  obtain ⟨q, ho, h3⟩ := Option.bind_eq_some_iff.mp h2
  obtain ⟨t, hl, h4⟩ := Option.bind_eq_some_iff.mp h3
  by_cases hq : t = true ∧ q = (a0, (l1_0.length : Int), l1_1, wrap64 (wrap64 ((l1_0.length : Int) + 8) + (l1_1.length : Int)), 0)
  case neg => exact absurd ((if_neg hq).symm.trans h4) (by simp)
  have h5 := (if_pos hq).symm.trans h4
  obtain ⟨rfl, rfl⟩ := hq
  obtain rfl := Option.some.inj h5
  have HL := Aside0.mk hl
  clear h2 h3 h4 h5 hl
  obtain ⟨all, hall⟩ : ∃ a : List Int, a = [] ++ l1_0 ++ b ++ l1_2 := ⟨_, rfl⟩
  have HALL := Aside0.mk hall
  have HO := Aside0.mk (show seal_Open.f k all (l1_0.length : Int) = some (a0, (l1_0.length : Int), l1_1, wrap64 (wrap64 ((l1_0.length : Int) + 8) + (l1_1.length : Int)), 0) from (by rw [hall, List.nil_append]; exact ho))
  clear ho hall
  go_enter Tryd.func9, Tryd.ntmps9
  go_wp2_with (((with_reducible refine gate_dst (N := 3) rfl ?_); refine box_event ?hg (N := 3) ?hd (cs := #[.slice A1_0 l1_0.length c1_0, .slice A1_1 l1_1.length c1_1, .slice A1_2 l1_2.length c1_2]) (t := 45) ?hr ?_; (case hd => rfl); (case hg => rfl); (case hr => first | (go_simp; done) | (go_simp; rfl)); intro gp hgp w1 hbox hb; have HB1 := Aside0.mk hb; have hcp0 : w1.cell? ⟨gp, 0, none⟩ = some (.slice A1_0 l1_0.length c1_0) := (blk_cell hbox 0).trans rfl; have hcp1 : w1.cell? ⟨gp, 1, none⟩ = some (.slice A1_1 l1_1.length c1_1) := (blk_cell hbox 1).trans rfl; have hcp2 : w1.cell? ⟨gp, 2, none⟩ = some (.slice A1_2 l1_2.length c1_2) := (blk_cell hbox 2).trans rfl; clear hgp hbox hb))
  go_quiet (fail)
  go_wp2_with (first | ((with_reducible refine gate_callee (f := 21) rfl ?_); refine goesL_ (some 23) rfl rfl Tryd.func21 (by kernel_rfl) rfl #[.int .u8 a0, .slice A1_1 l1_1.length c1_1] rfl (by (try simp only [List.map_toArray, List.map_cons, List.map_nil]); first | done | rfl) ?_; refine (seal_Seal.calls k a0 _ c1_1 _ b 0 _ ?hC HC1.out (TabW.below HT.out (by repeat (first | (with_reducible first | exact HB1.out | apply below_alloc | apply pw_below_drewN | apply below_drew1) | exact HB1.out))) HS.out).mono ?_; (case hC => with_reducible repeat (first | exact (Kd.C_below HR1.out HB1.out) | refine Kd.C_alloc ?_ _ | refine Kd.C_drewN ?_ _ | refine Kd.C_drew ?_)); rintro e w2 ⟨v2, rfl, ho, hb⟩; refine ⟨_, rfl, ?_⟩; have HB2 := Aside0.mk (below_step (by repeat (first | (with_reducible first | exact HB1.out | apply below_alloc | apply pw_below_drewN | apply below_drew1) | exact HB1.out)) hb); have HO2 := Aside0.mk (Kd.R_lower ho (below_size (by repeat (first | (with_reducible first | exact HB1.out | apply below_alloc | apply pw_below_drewN | apply below_drew1) | exact HB1.out)))); clear ho hb; obtain ⟨Ab, cb, eb⟩ := Kd.R_slice HO2.out; subst eb) | ((with_reducible refine gate_dst (N := 43) rfl ?_); refine Kd.R_lit (Kd.int .u8) _ 5 ?hg (N := 43) ?hd (xs := ([] : List Int)) (inner := []) (ok := fun _ => True) (okp := fun _ => True) ?hr ?hp (fun _ hk => hk) trivial (Below.refl _ _) (Nat.le_refl _) (by simp) ?_; (case hd => rfl); (case hg => rfl); (case hr => first | (go_simp; done) | (go_simp; rfl)); (case hp => exact (Reps.none _ _)); intro v5 w5 ho5 hb hg_ hnew_; clear hg_ hnew_; have HO5 := Aside0.mk (Kd.R_lower (Kd.R_new' ho5 (Kd.R_lt (by (with_reducible repeat (first | apply Kd.R_alloc | apply Kd.R_drewN | apply Kd.R_drew)); exact HO2.out))) (below_size (by repeat (first | (with_reducible first | exact HB2.out | apply below_alloc | apply pw_below_drewN | apply below_drew1) | exact HB2.out)))); have n0_ := Aside0.mk (Kd.R_elder' (by (with_reducible repeat (first | apply Kd.R_alloc | apply Kd.R_drewN | apply Kd.R_drew)); exact HO2.out) (Kd.R_base ho5) hb); have HB5 := Aside0.mk (below_step (by repeat (first | (with_reducible first | exact HB2.out | apply below_alloc | apply pw_below_drewN | apply below_drew1) | exact HB2.out)) hb); clear HO2; have HO2 := n0_; clear n0_ hb ho5) | ((with_reducible refine gate_builtin (b := .append) (xs := #[.tmp 43, .tmp 44]) rfl ?_); at_builtin; refine Kd.R_append_rows (Kd.int .u8) (w0 := w) w.heap.size rfl (.tmp 43) (.tmp 44) 23 5 (.int .u8 0) 1 rfl Tryd.underlying23 info5 rfl (by decide) (by omega) v5 ([] : List Int) l1_0 _ _ _ (fun k_ => True ∧ some k_ ≠ (.slice Ab b.length cb : Value).ownBlock) (fun _ => False) rfl rfl ?aO ?aR (fun _ _ h => h) (fun _ h => h.elim) ?aF ?aB ?aS ?aL ?_; (case aR => repeat (first | exact (Kd.C_below HR0.out HB5.out) | (with_reducible refine Kd.C_alloc ?_ _) | (with_reducible refine Kd.C_drewN ?_ _) | (with_reducible refine Kd.C_drew ?_))); (case aB => exact (by repeat (first | (with_reducible first | exact HB5.out | apply below_alloc | apply pw_below_drewN | apply below_drew1) | exact HB5.out))); (case aF => exact (fun k_ hk => ⟨trivial, Kd.fresh' (Kd.R_lt (by (with_reducible repeat (first | apply Kd.R_alloc | apply Kd.R_drewN | apply Kd.R_drew)); exact HO2.out)) k_ hk⟩)); (case aO => exact (by (with_reducible repeat (first | apply Kd.R_alloc | apply Kd.R_drewN | apply Kd.R_drew)); exact HO5.out)); (case aS => exact (below_size (by repeat (first | (with_reducible first | exact HB5.out | apply below_alloc | apply pw_below_drewN | apply below_drew1) | exact HB5.out)))); (case aL => (have := HLM.out; simp only [List.length_append, List.length_nil]; omega)); intro v6 w6 ho hb hg hat; have HO6 := Aside0.mk ho; have HB6 := Aside0.mk hb; have n0_ := Aside0.mk (Kd.R_after (ok := (fun _ => True)) (by (with_reducible repeat (first | apply Kd.R_alloc | apply Kd.R_drewN | apply Kd.R_drew)); exact HO2.out) hg hat); clear HO2 HO5; have HO2 := n0_; clear n0_; clear ho hb hg hat) | ((with_reducible refine gate_builtin (b := .append) (xs := #[.tmp 45, .tmp 46]) rfl ?_); at_builtin; refine Kd.R_append_rows (Kd.int .u8) (w0 := w) w.heap.size rfl (.tmp 45) (.tmp 46) 23 5 (.int .u8 0) 1 rfl Tryd.underlying23 info5 rfl (by decide) (by omega) v6 ([] ++ l1_0 : List Int) b _ _ _ (fun k_ => True) (fun _ => False) rfl rfl ?aO ?aR (fun _ _ h => h) (fun _ h => h.elim) ?aF ?aB ?aS ?aL ?_; (case aR => repeat (first | exact (Kd.R_reads' HO2.out).2.2 | (with_reducible refine Kd.C_alloc ?_ _) | (with_reducible refine Kd.C_drewN ?_ _) | (with_reducible refine Kd.C_drew ?_))); (case aB => exact (by repeat (first | (with_reducible first | exact HB6.out | apply below_alloc | apply pw_below_drewN | apply below_drew1) | exact HB6.out))); (case aF => exact (fun _ _ => trivial)); (case aO => exact (by (with_reducible repeat (first | apply Kd.R_alloc | apply Kd.R_drewN | apply Kd.R_drew)); exact Kd.R_mono HO6.out (fun _ _ => trivial))); (case aS => exact (below_size (by repeat (first | (with_reducible first | exact HB6.out | apply below_alloc | apply pw_below_drewN | apply below_drew1) | exact HB6.out)))); (case aL => (have := HLM.out; simp only [List.length_append, List.length_nil]; omega)); intro v7 w7 ho hb hg hat; have HO7 := Aside0.mk ho; have HB7 := Aside0.mk hb; clear HO2 HO6; clear ho hb hg hat) | ((with_reducible refine gate_builtin (b := .append) (xs := #[.tmp 47, .tmp 48]) rfl ?_); at_builtin; refine Kd.R_append_rows (Kd.int .u8) (w0 := w) w.heap.size rfl (.tmp 47) (.tmp 48) 23 5 (.int .u8 0) 1 rfl Tryd.underlying23 info5 rfl (by decide) (by omega) v7 ([] ++ l1_0 ++ b : List Int) l1_2 _ _ _ (fun k_ => True) (fun _ => False) rfl rfl ?aO ?aR (fun _ _ h => h) (fun _ h => h.elim) ?aF ?aB ?aS ?aL ?_; (case aR => repeat (first | exact (Kd.C_below HR2.out HB7.out) | (with_reducible refine Kd.C_alloc ?_ _) | (with_reducible refine Kd.C_drewN ?_ _) | (with_reducible refine Kd.C_drew ?_))); (case aB => exact (by repeat (first | (with_reducible first | exact HB7.out | apply below_alloc | apply pw_below_drewN | apply below_drew1) | exact HB7.out))); (case aF => exact (fun _ _ => trivial)); (case aO => exact (by (with_reducible repeat (first | apply Kd.R_alloc | apply Kd.R_drewN | apply Kd.R_drew)); exact HO7.out)); (case aS => exact (below_size (by repeat (first | (with_reducible first | exact HB7.out | apply below_alloc | apply pw_below_drewN | apply below_drew1) | exact HB7.out)))); (case aL => (have := HLM.out; simp only [List.length_append, List.length_nil]; omega)); intro v8 w8 ho hb hg hat; have HO8 := Aside0.mk ho; have HB8 := Aside0.mk hb; clear HO7; rw [← HALL.out] at ho; have HO9 := Aside0.mk ho; clear HO8; obtain ⟨Aa, ca, ea⟩ := Kd.R_slice HO9.out; subst ea; have HCA := Aside0.mk (Kd.R_reads' HO9.out).2.2; have HCAL := Aside0.mk (Kd.R_reads' HO9.out).2.1; clear HO9; clear ho hb hg hat) | ((with_reducible refine gate_callee (f := 24) rfl ?_); refine goesL_ (some 54) rfl rfl Tryd.func24 (by kernel_rfl) rfl #[.slice Aa all.length ca, .int .i64 (l1_0.length : Int)] rfl (by (try simp only [List.map_toArray, List.map_cons, List.map_nil]); first | done | rfl) ?_; refine (seal_Open.calls k _ ca all (l1_0.length : Int) a0 (l1_0.length : Int) l1_1 (wrap64 (wrap64 ((l1_0.length : Int) + 8) + (l1_1.length : Int))) 0 _ HCA.out HCAL.out (TabW.below HT.out HB8.out) HO.out).mono ?_; rintro e w9 ⟨v9, rfl, ho, hb⟩; refine ⟨_, rfl, ?_⟩; have HB9 := Aside0.mk (below_step HB8.out hb); obtain ⟨Av, cv, ev⟩ := Kd.R_slice ho; subst ev; have HCV := Aside0.mk (Kd.R_reads' ho).2.2; clear ho hb HCA HCAL) | ((with_reducible refine gate_dst (N := 11) rfl ?_); refine box_event ?hg (N := 11) ?hd (cs := #[.int .u8 0, .int .i64 0, .slice none 0 0]) (t := 39) ?hr ?_; (case hd => rfl); (case hg => rfl); (case hr => first | (go_simp; done) | (go_simp; rfl)); intro gb hgb w10 hbox hb; have GE := Aside0.mk (show w9.heap.size ≤ gb by (rw [hgb]; exact Nat.le_refl _)); have GE0 := Aside0.mk (Nat.le_trans (below_size HB9.out) GE.out); have BK := Aside0.mk hbox; have HB10 := Aside0.mk (below_step HB9.out hb); have HB910 := Aside0.mk hb; have hcz0 : w10.cell? ⟨gb, 0, none⟩ = some (.int .u8 0) := (blk_cell hbox 0).trans rfl; have hcz1 : w10.cell? ⟨gb, 1, none⟩ = some (.int .i64 0) := (blk_cell hbox 1).trans rfl; have hcz2 : w10.cell? ⟨gb, 2, none⟩ = some (.slice none 0 0) := (blk_cell hbox 2).trans rfl; have hfz0 := blk_frozen hbox 0; have hfz1 := blk_frozen hbox 1; have hfz2 := blk_frozen hbox 2; clear hgb hbox hb) | ((with_reducible refine gate_callee (f := 23) rfl ?_); refine goesL_ (some 58) rfl rfl Tryd.func23 (by kernel_rfl) rfl #[] rfl (by (try simp only [List.map_toArray, List.map_cons, List.map_nil]); first | done | rfl) ?_; refine (grapevinelaw01_lives.calls k true _ (TabW.below HT.out (by repeat (first | (with_reducible first | exact HB10.out | apply below_alloc | apply pw_below_drewN | apply below_drew1 | refine below_set ?_ GE0.out) | exact HB10.out))) HL.out).mono ?_; rintro e w11 ⟨rfl, hb⟩; refine ⟨_, rfl, ?_⟩; have HB11 := Aside0.mk (below_step (by repeat (first | (with_reducible first | exact HB10.out | apply below_alloc | apply pw_below_drewN | apply below_drew1 | refine below_set ?_ GE0.out) | exact HB10.out)) hb); have bk := blk_put (blk_put (blk_put (cs := #[.int .u8 0, .int .i64 0, .slice none 0 0]) BK.out 0 (.int .u8 a0) rfl) 1 (.int .i64 (l1_0.length : Int)) rfl) 2 (.slice Av l1_1.length cv) rfl; have bk2 := (hb.block gb (blk_lt bk)).trans bk; have hx0 : w11.cell? ⟨gb, 0, none⟩ = some (.int .u8 a0) := (blk_cell bk2 0).trans rfl; have hx1 : w11.cell? ⟨gb, 1, none⟩ = some (.int .i64 (l1_0.length : Int)) := (blk_cell bk2 1).trans rfl; have hx2 : w11.cell? ⟨gb, 2, none⟩ = some (.slice Av l1_1.length cv) := (blk_cell bk2 2).trans rfl; have hcv1 := Kd.C_string (P := Tryd.prog) (c := cv) Tryd.underlying23 Tryd.underlying5 Tryd.underlying9 (Kd.C_below (Kd.C_below HCV.out (below_set (below_set (below_set HB910.out GE.out) GE.out) GE.out)) hb); have hcv2 := Kd.C_string (P := Tryd.prog) (c := c1_1) Tryd.underlying23 Tryd.underlying5 Tryd.underlying9 (Kd.C_below HR1.out HB11.out); clear bk bk2; clear hb))
  go_ret
  exact ⟨by first | rfl | (simp; done), (by repeat (first | (with_reducible first | exact HB11.out | apply below_alloc | apply pw_below_drewN | apply below_drew1) | exact HB11.out))⟩


/-! ### grapevinelaw01_SealCuts: function 10 -/
-- typed by hand: the true path alone
theorem grapevinelaw01_SealCuts.cut_to1 {P : Program} (t e : TypeId) (ht : P.underlying t = some (.slice e)) {zz : Option Value × Nat × Nat} (hinfo : (P.info? e).map (fun i => (i.zero, i.size, i.bytes)) = some zz) (A : Option Addr) (n c : Nat) (j : Int) (h0 : 0 ≤ j) (hm : j ≤ n) (hc : n ≤ c) :
    ∀ W : World, (Instr.slice t (.slice A n c) none (some (.int .i64 j)) none).run P W = .ok (.slice A j.toNat c) W := by
  obtain ⟨i0, hi, _⟩ := Option.map_eq_some_iff.1 hinfo
  exact cut_to t e .i64 ht hi A n c j h0 hm hc
def grapevinelaw01_SealCuts.f (k : Nat) (a0 : Int) (l1 : List Int) (a2 : Int) : Option Bool :=
  (seal_Seal.f k a0 l1).bind fun p =>
    if p.2 = 0 then
      (if 0 < p.1.length then
        (if 0 ≤ Int.tmod (wrap64 a2) (p.1.length : Int) ∧ Int.tmod (wrap64 a2) (p.1.length : Int) < (p.1.length : Int) then
          (seal_Open.f k (p.1.take (Int.tmod (wrap64 a2) (p.1.length : Int)).toNat) 0).bind fun q => (grapevinelaw01_lives.f k).bind fun t =>
            if t = true ∧ q.2.2.1 = [] ∧ q.2.2.2.1 = 0 ∧ q.2.2.2.2 = 3 then some true else none
        else none)
      else none)
    else (grapevinelaw01_lives.f k).bind fun t => if t = true then some true else none
set_option maxHeartbeats 8000000 in
set_option maxRecDepth 100000 in
theorem grapevinelaw01_SealCuts.calls (k : Nat) (a0 : Int) (A1 : Option Addr) (c1 : Nat) (l1 : List Int) (a2 : Int) (r : Bool) (w : World) (hr1 : Kd.C (Kd.int .u8) w A1 l1.length l1) (hc1 : l1.length ≤ c1) (ht : TabW w) (h : grapevinelaw01_SealCuts.f k a0 l1 a2 = some r) :
    Calls Tryd.prog 10 #[.int .u8 a0, .slice A1 l1.length c1, .int .u16 a2] w fun e w' => e = .returned (.bool r) ∧ Below w.heap.size w w' := by
  have hu39 := Tryd.underlying39
  have HR1 := Aside0.mk hr1
  have HC1 := Aside0.mk hc1
  have HT := Aside0.mk ht
  clear hr1 hc1 ht
  have HB0 := Aside0.mk (Below.refl w.heap.size w)
  unfold grapevinelaw01_SealCuts.f at h
  obtain ⟨⟨b, p2⟩, hs, h1⟩ := Option.bind_eq_some_iff.mp h
  clear h
  have HS := Aside0.mk hs
  clear hs
  by_cases hp : p2 = 0
  case neg =>
    have h2 : ((grapevinelaw01_lives.f k).bind fun t => if t = true then some true else none) = some r := by simpa only [if_neg hp] using h1
    obtain ⟨t, hl, h3⟩ := Option.bind_eq_some_iff.mp h2
    by_cases ht : t = true
    case neg => rw [if_neg ht] at h3; exact absurd h3 (by simp)
    rw [if_pos ht] at h3
    subst ht
    obtain rfl := Option.some.inj h3
    have HL := Aside0.mk hl
    have hpb : (p2 != 0) = true := by simpa using hp
    clear h1 h2 h3 hl hp
    go_enter Tryd.func10, Tryd.ntmps10
    go_wp2_with (first | ((with_reducible refine gate_callee (f := 21) rfl ?_); refine goesL_ (some 15) rfl rfl Tryd.func21 (by kernel_rfl) rfl #[.int .u8 a0, .slice A1 l1.length c1] rfl (by (try simp only [List.map_toArray, List.map_cons, List.map_nil]); first | done | rfl) ?_; refine (seal_Seal.calls k a0 _ c1 _ b p2 _ ?hC HC1.out (TabW.below HT.out (by repeat (first | (with_reducible first | exact HB0.out | apply below_alloc | apply pw_below_drewN | apply below_drew1) | exact HB0.out))) HS.out).mono ?_; (case hC => with_reducible repeat (first | exact HR1.out | refine Kd.C_alloc ?_ _ | refine Kd.C_drewN ?_ _ | refine Kd.C_drew ?_)); rintro e w1 ⟨v1, rfl, ho, hb⟩; refine ⟨_, rfl, ?_⟩; have HB1 := Aside0.mk (below_step (by repeat (first | (with_reducible first | exact HB0.out | apply below_alloc | apply pw_below_drewN | apply below_drew1) | exact HB0.out)) hb); have HO1 := Aside0.mk (Kd.R_lower ho (below_size (by repeat (first | (with_reducible first | exact HB0.out | apply below_alloc | apply pw_below_drewN | apply below_drew1) | exact HB0.out)))); clear ho hb; obtain ⟨Ab, cb, eb⟩ := Kd.R_slice HO1.out; subst eb; have HCB := Aside0.mk (Kd.R_reads' HO1.out).2.2; have HCL := Aside0.mk (Kd.R_reads' HO1.out).2.1; clear HO1) | ((with_reducible refine gate_callee (f := 23) rfl ?_); refine goesL_ (some 25) rfl rfl Tryd.func23 (by kernel_rfl) rfl #[] rfl (by (try simp only [List.map_toArray, List.map_cons, List.map_nil]); first | done | rfl) ?_; refine (grapevinelaw01_lives.calls k true _ (TabW.below HT.out (by repeat (first | (with_reducible first | exact HB1.out | apply below_alloc | apply pw_below_drewN | apply below_drew1) | exact HB1.out))) HL.out).mono ?_; rintro e w2 ⟨rfl, hb⟩; refine ⟨_, rfl, ?_⟩; have HB2 := Aside0.mk (below_step (by repeat (first | (with_reducible first | exact HB1.out | apply below_alloc | apply pw_below_drewN | apply below_drew1) | exact HB1.out)) hb); clear hb))
    go_ret
    exact ⟨rfl, (by repeat (first | (with_reducible first | exact HB2.out | apply below_alloc | apply pw_below_drewN | apply below_drew1) | exact HB2.out))⟩
  subst hp
  have h2 : (if 0 < b.length then (if 0 ≤ Int.tmod (wrap64 a2) (b.length : Int) ∧ Int.tmod (wrap64 a2) (b.length : Int) < (b.length : Int) then (seal_Open.f k (b.take (Int.tmod (wrap64 a2) (b.length : Int)).toNat) 0).bind fun q => (grapevinelaw01_lives.f k).bind fun t => if t = true ∧ q.2.2.1 = [] ∧ q.2.2.2.1 = 0 ∧ q.2.2.2.2 = 3 then some true else none else none) else none) = some r := by simpa only [if_true] using h1
  clear h1
  by_cases hbl : 0 < b.length
  case neg => rw [if_neg hbl] at h2; exact absurd h2 (by simp)
  rw [if_pos hbl] at h2
  by_cases hm : 0 ≤ Int.tmod (wrap64 a2) (b.length : Int) ∧ Int.tmod (wrap64 a2) (b.length : Int) < (b.length : Int)
  case neg => rw [if_neg hm] at h2; exact absurd h2 (by simp)
  rw [if_pos hm] at h2
  obtain ⟨⟨q1, q2, q3, q4, q5⟩, ho, h3⟩ := Option.bind_eq_some_iff.mp h2
  obtain ⟨t, hl, h4⟩ := Option.bind_eq_some_iff.mp h3
  by_cases hq : t = true ∧ q3 = [] ∧ q4 = 0 ∧ q5 = 3
  case neg => exact absurd ((if_neg hq).symm.trans h4) (by simp)
  have h5 := (if_pos hq).symm.trans h4
  obtain ⟨rfl, rfl, rfl, rfl⟩ := hq
  obtain rfl := Option.some.inj h5
  have HL := Aside0.mk hl
  clear h2 h3 h4 h5 hl
  obtain ⟨m, hmm⟩ : ∃ m : Int, Int.tmod (wrap64 a2) (b.length : Int) = m := ⟨_, rfl⟩
  rw [hmm] at hm ho
  have HO := Aside0.mk ho
  have HM := Aside0.mk hm
  have hbne : ((b.length : Int) == 0) = false := beq_eq_false_iff_ne.mpr (by omega)
  have hbnn : (b.length == 0) = false := beq_eq_false_iff_ne.mpr (by omega)
  have hbd := eq_false (show ¬ (b.length : Int) = 0 by omega)
  have hbdn := eq_false (show ¬ b.length = 0 by omega)
  clear ho hm hbl
  go_enter Tryd.func10, Tryd.ntmps10
  go_wp2_with (first | ((with_reducible refine gate_callee (f := 21) rfl ?_); refine goesL_ (some 15) rfl rfl Tryd.func21 (by kernel_rfl) rfl #[.int .u8 a0, .slice A1 l1.length c1] rfl (by (try simp only [List.map_toArray, List.map_cons, List.map_nil]); first | done | rfl) ?_; refine (seal_Seal.calls k a0 _ c1 _ b 0 _ ?hC HC1.out (TabW.below HT.out (by repeat (first | (with_reducible first | exact HB0.out | apply below_alloc | apply pw_below_drewN | apply below_drew1) | exact HB0.out))) HS.out).mono ?_; (case hC => with_reducible repeat (first | exact HR1.out | refine Kd.C_alloc ?_ _ | refine Kd.C_drewN ?_ _ | refine Kd.C_drew ?_)); rintro e w1 ⟨v1, rfl, ho, hb⟩; refine ⟨_, rfl, ?_⟩; have HB1 := Aside0.mk (below_step (by repeat (first | (with_reducible first | exact HB0.out | apply below_alloc | apply pw_below_drewN | apply below_drew1) | exact HB0.out)) hb); have HO1 := Aside0.mk (Kd.R_lower ho (below_size (by repeat (first | (with_reducible first | exact HB0.out | apply below_alloc | apply pw_below_drewN | apply below_drew1) | exact HB0.out)))); clear ho hb; obtain ⟨Ab, cb, eb⟩ := Kd.R_slice HO1.out; subst eb; have HCB := Aside0.mk (Kd.R_reads' HO1.out).2.2; have HCL := Aside0.mk (Kd.R_reads' HO1.out).2.1; have hsl := grapevinelaw01_SealCuts.cut_to1 (P := Tryd.prog) 23 5 Tryd.underlying23 info5 Ab b.length cb m HM.out.1 (by have := HM.out; omega) HCL.out; clear HO1) | ((with_reducible refine gate_callee (f := 24) rfl ?_); refine goesL_ (some 38) rfl rfl Tryd.func24 (by kernel_rfl) rfl #[.slice Ab m.toNat cb, .int .i64 0] rfl (by (try simp only [List.map_toArray, List.map_cons, List.map_nil]); first | done | rfl) ?_; refine calls_of_args (args' := #[.slice Ab (b.take m.toNat).length cb, .int .i64 0]) (by rw [List.length_take, Nat.min_eq_left (by have := HM.out; omega)]) ?_; refine (seal_Open.calls k _ cb (b.take m.toNat) 0 q1 q2 [] 0 3 _ (Kd.C_take HCB.out (by have := HM.out; omega)) (by have := HCL.out; rw [List.length_take]; omega) (TabW.below HT.out HB1.out) HO.out).mono ?_; rintro e w2 ⟨v2, rfl, ho, hb⟩; refine ⟨_, rfl, ?_⟩; have HB2 := Aside0.mk (below_step HB1.out hb); obtain ⟨Av, cv, ev⟩ := Kd.R_slice ho; subst ev; clear ho hb) | ((with_reducible refine gate_dst (N := 9) rfl ?_); refine box_event ?hg (N := 9) ?hd (cs := #[.int .u8 0, .int .i64 0, .slice none 0 0]) (t := 39) ?hr ?_; (case hd => rfl); (case hg => rfl); (case hr => first | (go_simp; done) | (go_simp; rfl)); intro gb hgb w3 hbox hb; have GE := Aside0.mk (show w2.heap.size ≤ gb by (rw [hgb]; exact Nat.le_refl _)); have GE0 := Aside0.mk (Nat.le_trans (below_size HB2.out) GE.out); have BK := Aside0.mk hbox; have HB3 := Aside0.mk (below_step HB2.out hb); have hcz0 : w3.cell? ⟨gb, 0, none⟩ = some (.int .u8 0) := (blk_cell hbox 0).trans rfl; have hcz1 : w3.cell? ⟨gb, 1, none⟩ = some (.int .i64 0) := (blk_cell hbox 1).trans rfl; have hcz2 : w3.cell? ⟨gb, 2, none⟩ = some (.slice none 0 0) := (blk_cell hbox 2).trans rfl; have hfz0 := blk_frozen hbox 0; have hfz1 := blk_frozen hbox 1; have hfz2 := blk_frozen hbox 2; clear hgb hbox hb) | ((with_reducible refine gate_callee (f := 23) rfl ?_); refine goesL_ (some 42) rfl rfl Tryd.func23 (by kernel_rfl) rfl #[] rfl (by (try simp only [List.map_toArray, List.map_cons, List.map_nil]); first | done | rfl) ?_; refine (grapevinelaw01_lives.calls k true _ (TabW.below HT.out (by repeat (first | (with_reducible first | exact HB3.out | apply below_alloc | apply pw_below_drewN | apply below_drew1 | refine below_set ?_ GE0.out) | exact HB3.out))) HL.out).mono ?_; rintro e w4 ⟨rfl, hb⟩; refine ⟨_, rfl, ?_⟩; have HB4 := Aside0.mk (below_step (by repeat (first | (with_reducible first | exact HB3.out | apply below_alloc | apply pw_below_drewN | apply below_drew1 | refine below_set ?_ GE0.out) | exact HB3.out)) hb); have bk := blk_put (blk_put (blk_put (cs := #[.int .u8 0, .int .i64 0, .slice none 0 0]) BK.out 0 (.int .u8 q1) rfl) 1 (.int .i64 q2) rfl) 2 (.slice Av 0 cv) rfl; have bk2 := (hb.block gb (blk_lt bk)).trans bk; have hx2 : w4.cell? ⟨gb, 2, none⟩ = some (.slice Av 0 cv) := (blk_cell bk2 2).trans rfl; clear bk bk2; clear hb))
  go_ret
  exact ⟨by first | rfl | (simp; done), (by repeat (first | (with_reducible first | exact HB4.out | apply below_alloc | apply pw_below_drewN | apply below_drew1) | exact HB4.out))⟩


-- NOT PRINTED: function 11 (grapevinelaw01_SealTurned)

/-! ### seal_Scan: function 27 -/
/-! ### grapevineref01_Scan: function 28 -/
end Go.Proofs.YtnbhlaoblnalpaaDoor.PE
