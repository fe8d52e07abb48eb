-- PRINTED by gprint.py (a session's own driver over the kit's print): not trusted; Lean checks it.
import Derived.Test.YtnbhlaoblnalpaaDoorGPEx0
import Derived.Test.YtnbhlaoblnalpaaDoorGPEx1
import Derived.Test.YtnbhlaoblnalpaaDoorGPEx2
namespace Go.Proofs.YtnbhlaoblnalpaaDoor.PE
open Go.RowKit Go.Proofs.YtnbhlaoblnalpaaDoorW.PrintWords Go.Proofs.YtnbhlaoblnalpaaDoorW.PrintLast Go.Proofs.YtnbhlaoblnalpaaDoorW.PrintMore
attribute [local go_sem] max2_int min2_int max_two min_two max_three min_three max_four min_four   -- for this text's walks alone
set_option linter.unusedVariables false
set_option linter.unusedSimpArgs false

/-! ### grapevinelaw01_lives: function 23 -/
-- typed by hand: a conversion of a constant text to bytes
def grapevinelaw01_lives.f (k : Nat) : Option Bool :=
  (seal_Seal.f k 5 ([97, 98] : List Int)).bind fun p => (seal_Open.f k p.1 0).bind fun q =>
    if p.2 = 0 ∧ q.1 = 5 ∧ q.2.2.1 = [97, 98] ∧ q.2.2.2.1 = 10 ∧ q.2.2.2.2 = 0 then some true else none
set_option maxHeartbeats 8000000 in
set_option maxRecDepth 100000 in
theorem grapevinelaw01_lives.calls (k : Nat)  (r : Bool) (w : World) (ht : TabW w) (h : grapevinelaw01_lives.f k  = some r) :
    Calls Tryd.prog 23 #[] w fun e w' => e = .returned (.bool r) ∧ Below w.heap.size w w' := by
  obtain ⟨⟨b, p2⟩, hs, H1⟩ := Option.bind_eq_some_iff.mp h
  obtain ⟨⟨q1, q2, q3, q4, q5⟩, ho, H⟩ := Option.bind_eq_some_iff.mp H1
  clear H1
  replace H : (if p2 = 0 ∧ q1 = 5 ∧ q3 = [97, 98] ∧ q4 = 10 ∧ q5 = 0 then some true else none) = some r := H
  by_cases hc : p2 = 0 ∧ q1 = 5 ∧ q3 = [97, 98] ∧ q4 = 10 ∧ q5 = 0
  case neg => rw [if_neg hc] at H; exact absurd H (by simp)
  rw [if_pos hc] at H
  obtain ⟨rfl, rfl, rfl, rfl, rfl⟩ := hc
  obtain rfl := Option.some.inj H
  have HS := Aside0.mk hs
  have HOP := Aside0.mk (show seal_Open.f k b 0 = some (5, q2, [97, 98], 10, 0) from ho)
  have HT := Aside0.mk ht
  clear hs ho ht h H
  have hu39 := Tryd.underlying39
  have kc := fun (C : Array Value) (n c : Nat) => Lib.run_convert_bytes_const (P := Tryd.prog) w 23 5 C n c Tryd.underlying23 Tryd.underlying5
  have hC := lit_C w 5 (2, 3) [97, 98] (by decide)
  have HCC := Aside0.mk hC
  clear hC
  go_enter Tryd.func23, Tryd.ntmps23
  go_wp2_with (first
    | ((with_reducible refine gate_callee (f := 21) rfl ?_); refine goesL_ (some 9) rfl rfl Tryd.func21 (by kernel_rfl) rfl #[.int .u8 5, .slice (some ⟨w.heap.size, 0, none⟩) 2 2] rfl (by (try simp only [List.map_toArray, List.map_cons, List.map_nil]); first | done | rfl) ?_; refine (seal_Seal.calls k 5 _ 2 [97, 98] b 0 _ HCC.out (by decide) (TabW.alloc HT.out _) HS.out).mono ?_; rintro e w1 ⟨v1, rfl, ho, hb⟩; refine ⟨_, rfl, ?_⟩; have HB := Aside0.mk (below_step (below_alloc (Below.refl _ _) _) hb); obtain ⟨Ab, cb, eb⟩ := Kd.R_slice ho; subst eb; have HCB := Aside0.mk (Kd.R_reads' ho).2.2; have HCBL := Aside0.mk (Kd.R_reads' ho).2.1; clear ho hb)
    | ((with_reducible refine gate_callee (f := 24) rfl ?_); refine goesL_ (some 14) rfl rfl Tryd.func24 (by kernel_rfl) rfl #[.slice Ab b.length cb, .int .i64 0] rfl (by (try simp only [List.map_toArray, List.map_cons, List.map_nil]); first | done | rfl) ?_; refine (seal_Open.calls k _ cb b 0 5 q2 [97, 98] 10 0 _ HCB.out HCBL.out (TabW.below HT.out HB.out) HOP.out).mono ?_; rintro e w2 ⟨v2, rfl, ho, hb⟩; refine ⟨_, rfl, ?_⟩; have HB2 := Aside0.mk (below_step HB.out hb); obtain ⟨Av, cv, ev⟩ := Kd.R_slice ho; subst ev; have HCV := Aside0.mk (show Kd.C (Kd.int .u8) w2 Av 2 [97, 98] from (Kd.R_reads' ho).2.2); clear ho hb HCB HCBL HB)
    | ((with_reducible refine gate_dst (N := 3) rfl ?_); refine box_event ?hg (N := 3) ?hd (cs := #[.int .u8 0, .int .i64 0, .slice none 0 0]) (t := 39) ?hr ?_; (case hd => rfl); (case hg => rfl); (case hr => first | (go_simp; done) | (go_simp; rfl)); intro gb hgb w3 hbox hb; have GE := Aside0.mk (show w2.heap.size ≤ gb by (rw [hgb]; exact Nat.le_refl _)); have BK := Aside0.mk hbox; have HB3 := Aside0.mk hb; have hcz0 : w3.cell? ⟨gb, 0, none⟩ = some (.int .u8 0) := (blk_cell hbox 0).trans rfl; have hcz1 : w3.cell? ⟨gb, 1, none⟩ = some (.int .i64 0) := (blk_cell hbox 1).trans rfl; have hcz2 : w3.cell? ⟨gb, 2, none⟩ = some (.slice none 0 0) := (blk_cell hbox 2).trans rfl; have hfz0 := blk_frozen hbox 0; have hfz1 := blk_frozen hbox 1; have hfz2 := blk_frozen hbox 2; have hcv := Kd.C_string (P := Tryd.prog) (c := cv) Tryd.underlying23 Tryd.underlying5 Tryd.underlying9 (w := ((w3.setCell ⟨gb, 0, none⟩ (.int .u8 5)).setCell ⟨gb, 1, none⟩ (.int .i64 q2)).setCell ⟨gb, 2, none⟩ (.slice Av 2 cv)) (Kd.C_below HCV.out (below_set (below_set (below_set hb GE.out) GE.out) GE.out)); have hst : ((strOfNums [97, 98]).toList == ([97, 98] : List UInt8)) = true := (by decide +kernel); clear hgb hbox hb))
  go_ret
  exact ⟨by first | rfl | (simp only [hst]; rfl), by repeat (first | (with_reducible first | exact below_step HB2.out HB3.out | apply below_alloc | apply pw_below_drewN | apply below_drew1 | refine below_set ?_ (Nat.le_trans (below_size HB2.out) GE.out)) | exact below_step HB2.out HB3.out)⟩


/-! ### grapevinelaw01_SealLays: function 7 -/
end Go.Proofs.YtnbhlaoblnalpaaDoor.PE
