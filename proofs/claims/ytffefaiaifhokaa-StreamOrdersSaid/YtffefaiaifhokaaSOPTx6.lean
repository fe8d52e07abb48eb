-- PRINTED by gprint.py (a session's own driver over the kit's print): not trusted; Lean checks it.
import Derived.Test.YtffefaiaifhokaaSOPTx0
namespace Go.Proofs.Ytffefaiaifhokaa.PT
open Go.RowKit Go.Proofs.YtffefaiaifhokaaW.PrintWords Go.Proofs.YtffefaiaifhokaaW.PrintLast Go.Proofs.YtffefaiaifhokaaW.PrintMore
set_option linter.unusedVariables false
set_option linter.unusedSimpArgs false

/-! ### stream_New: function 10 -/
-- GIVEN-ALONE: typed by mk_stream.py
theorem far1L (w : World) (g j : Nat) (u : Value) (i : Nat) (h : i ≠ g) : (w.setCell ⟨g, j, none⟩ u).heap[i]? = w.heap[i]? := Below.heap_setCell w ⟨g, j, none⟩ u i h
/-- How an element of a map reads: as itself. -/
def R0 (v : Value) : Option (DataW Value × List MemPlace) := some (.held v, [])
def Mp (W : World) (b n : Nat) (D : DataW Value) : Prop := W.ownsMap Try.prog 3 R0 b n D
theorem Mp.step {W W1 : World} {b n : Nat} {D : DataW Value} (h : Mp W b n D) (hm : W1.heap[b]? = W.heap[b]?) : Mp W1 b n D := by
 obtain ⟨es, clock, hb, F, hs, hD⟩ := h
 exact ⟨es, clock, hm.trans hb, F, hs, hD⟩
theorem Mp.below {W W1 : World} {b n : Nat} {D : DataW Value} (h : Mp W b n D) (hb : Below W.heap.size W W1) : Mp W1 b n D := h.step (hb.block b (World.ownsMap.lt h))
def stream_New.f : Option Int := some 0
set_option maxHeartbeats 4000000 in
theorem stream_New.calls (w : World) :
 Calls Try.prog 10 #[] w fun e w' => ∃ g b, e = .returned (.pointer (some ⟨g, 0, none⟩)) ∧ w'.heap[g]? = some (.cells #[.slice none 0 0, .map (some b)] 81 (0, 0)) ∧ Mp w' b 0 (.map []) ∧ w.heap.size ≤ g ∧ w.heap.size ≤ b ∧ g ≠ b ∧ Below w.heap.size w w' := by
 have hu := Try.underlying81
 have hum := Try.underlying79
 go_enter Try.func10, Try.ntmps10
 go_wp2
 rw [run_makeMap]
 simp only [Result.andThen]
 rw [Oper.upon_value]
 have HM := Aside0.mk (show Mp (w.alloc (.map #[] 0)) w.heap.size 0 (.map []) from World.ownsMap_made w Try.prog 3 R0)
 have HB := Aside0.mk (show Below w.heap.size w (w.alloc (.map #[] 0)) from below_alloc (Below.refl _ _) _)
 have HS := Aside0.mk (show (w.alloc (.map #[] 0)).heap.size = w.heap.size + 1 by (show (w.heap.push _).size = _; simp))
 obtain ⟨b, hb_⟩ : ∃ b, b = w.heap.size := ⟨_, rfl⟩
 rw [← hb_] at HM ⊢
 generalize w.alloc (.map #[] 0) = w1 at HM HB HS ⊢
 go_wp2_with (first | ((with_reducible refine gate_dst (N := 3) rfl ?_); refine box_event ?hg (N := 3) ?hd (cs := #[.slice none 0 0, .map (some b)]) (t := 81) ?hr ?_; (case hd => rfl); (case hg => rfl); (case hr => first | (go_simp; done) | (go_simp; rfl)); intro g hg w2 hbox hb; have HX := Aside0.mk hbox; have HG := Aside0.mk hg; have HM2 := Aside0.mk (HM.out.below hb); have HB2 := Aside0.mk (below_then HB.out HB.out.size hb); clear hbox hg hb))
 go_ret
 exact ⟨g, b, rfl, HX.out, HM2.out, by have := HG.out; have := HS.out; omega, Nat.le_of_eq hb_.symm, by have := HG.out; have := HS.out; omega, HB2.out⟩


end Go.Proofs.Ytffefaiaifhokaa.PT
