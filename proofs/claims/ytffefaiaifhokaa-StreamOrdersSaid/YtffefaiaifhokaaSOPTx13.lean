-- PRINTED by gprint.py (a session's own driver over the kit's print): not trusted; Lean checks it.
import Derived.Test.YtffefaiaifhokaaSOPTx0
import Derived.Test.YtffefaiaifhokaaSOPTx12
namespace Go.Proofs.Ytffefaiaifhokaa.PT
open Go.RowKit Go.Proofs.YtffefaiaifhokaaW.PrintWords Go.Proofs.YtffefaiaifhokaaW.PrintLast Go.Proofs.YtffefaiaifhokaaW.PrintMore
set_option linter.unusedVariables false
set_option linter.unusedSimpArgs false

/-! ### stream_Stream_join: function 34 -/
-- GIVEN-ALONE: typed by mk_stream.py
def stream_Stream_join.f (k : Nat) (K l : List S38) : Option (List S38) := (span_Join.f k K l).bind fun q => some q.1
theorem stream_Stream_join.mono : ∀ a0 a1 k, LeO (stream_Stream_join.f k a0 a1) (stream_Stream_join.f (k + 1) a0 a1) := by
 intro a0 a1 k
 unfold stream_Stream_join.f
 exact LeO.bind (span_Join.mono _ _ _) (fun _ => LeO.refl _)
set_option maxHeartbeats 4000000 in
set_option maxRecDepth 100000 in
theorem stream_Stream_join.calls (k B g b : Nat) (A0 : Option Addr) (c0 : Nat) (K : List S38) (A1 : Option Addr) (c1 : Nat) (l : List S38) (r : List S38) (w : World) (hb : w.heap[g]? = some (.cells #[.slice A0 K.length c0, .map (some b)] 81 (0, 0))) (hr0 : Kd.C k38 w A0 K.length K) (hc0 : K.length ≤ c0) (hr1 : Kd.C k38 w A1 l.length l) (hc1 : l.length ≤ c1) (h : stream_Stream_join.f k K l = some r) (hB : B ≤ g) (hBw : B ≤ w.heap.size) :
 Calls Try.prog 34 #[.pointer (some ⟨g, 0, none⟩), .slice A1 l.length c1] w fun e w' => e = .returned (.tuple #[]) ∧ ∃ A2 c2, w'.heap[g]? = some (.cells #[.slice A2 r.length c2, .map (some b)] 81 (0, 0)) ∧ Kd.R k38 38 w' w.heap.size (fun _ => True) (.slice A2 r.length c2) r ∧ KeepBut w w' g none ∧ Below B w w' := by
 have hu := Try.underlying81
 unfold stream_Stream_join.f at h
 obtain ⟨⟨r1, r2⟩, hj, h⟩ := Option.bind_eq_some_iff.mp h
 obtain rfl : r1 = r := Option.some.inj h
 have HJ := Aside0.mk hj
 have HR0 := Aside0.mk hr0
 have HR1 := Aside0.mk hr1
 have HC0 := Aside0.mk hc0
 have HC1 := Aside0.mk hc1
 have HG := Aside0.mk (blk_lt hb)
 have z0 := (blk_cell hb 0).trans rfl
 have BG := Aside0.mk hb
 clear hj h hr0 hr1 hc0 hc1 hb
 go_enter Try.func34, Try.ntmps34
 go_wp2_with (first | ((with_reducible refine gate_dst (N := 11) rfl ?_); (try (refine gate_guard (by rfl) ?_; dsimp only)); refine goesL_ (some 11) rfl rfl Try.func68 (by kernel_rfl) rfl #[.slice A0 K.length c0, .slice A1 l.length c1] rfl (by (try simp only [List.map_toArray, List.map_cons, List.map_nil]); first | done | rfl | (simp only [List.length_drop, List.length_take]; rfl)) ?_; refine (span_Join.calls k A0 c0 K A1 c1 l r1 r2 _ HR0.out HC0.out HR1.out HC1.out HJ.out).mono ?_; rintro e_ w1 ⟨v_, rfl, ho, hb⟩; refine ⟨_, rfl, ?_⟩; have BG1 := Aside0.mk (blk_below BG.out hb); have HB1 := Aside0.mk hb; obtain ⟨A2, c2, e2⟩ := Kd.R_slice ho; subst e2; have HO := Aside0.mk ho; have f0 := blk_frozen BG1.out 0; have z1 := (blk_cell BG1.out 0).trans rfl; clear ho hb) | ((with_reducible refine gate_store (t := 30) (p := 15) (v := .tmp 12) rfl ?_); refine store_event rfl (t := 30) (p := 15) (v := .tmp 12) rfl rfl (w1 := w1.setCell ⟨g, 0, none⟩ (.slice A2 r1.length c2)) ?hr ?_; (case hr => first | (go_simp; done) | (go_simp; rfl)); intro w2 hw; have hf : ∀ i, i ≠ g → w2.heap[i]? = w1.heap[i]? := fun i hi => (by rw [hw]; exact Below.heap_setCell w1 ⟨g, 0, none⟩ _ i hi); have BG2 := Aside0.mk (show w2.heap[g]? = some (.cells #[.slice A2 r1.length c2, .map (some b)] 81 (0, 0)) by (rw [hw]; exact blk_put BG1.out 0 _ rfl)); have HO2 := Aside0.mk (Kd.R_mono (Kd.R_step (Kd.R_bound HO.out) (ok := fun k_ => True ∧ w.heap.size ≤ k_ ∧ k_ < w1.heap.size ∧ _) (fun k_ hk_ _ => hf k_ (by have h1_ := hk_.2.1; have h2_ := HG.out; omega))) (ok' := fun _ => True) (fun _ _ => trivial)); have HS2 := Aside0.mk (show w2.heap.size = w1.heap.size by (rw [hw]; simp [World.setCell])); have HQ2 := Aside0.mk (show Below B w w2 by (rw [hw]; exact (HB1.out.mono hBw).setCell hB _)); clear hw))
 go_end0
 exact ⟨rfl, A2, c2, BG2.out, HO2.out, ⟨by have := HS2.out; have := HB1.out.size; omega, fun i hi hg _ => (hf i hg).trans (HB1.out.block i hi)⟩, HQ2.out⟩


end Go.Proofs.Ytffefaiaifhokaa.PT
