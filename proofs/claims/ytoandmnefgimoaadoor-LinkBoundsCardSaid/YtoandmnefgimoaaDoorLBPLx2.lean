import Derived.Test.YtoandmnefgimoaaDoorLBPLx0
namespace Go.Proofs.YtoandmnefgimoaaDoor.PL
open Go.RowKit Go.Proofs.YtoandmnefgimoaaDoorW.PrintWords Go.Proofs.YtoandmnefgimoaaDoorW.PrintLast Go.Proofs.YtoandmnefgimoaaDoorW.PrintMore
set_option linter.unusedVariables false
set_option linter.unusedSimpArgs false
structure LK where
 own : Int
 other : Int
 queue : Int
 made : Int
 high : Int
 heard : Int
 taken : Int
 ws : List S79
def LKv (W : World) (ok : Nat → Prop) (g : Nat) (L : LK) (v : Value) : Prop := W.heap[g]? = some (.cells #[.int .i64 L.own, .int .i64 L.other, .int .i64 L.queue, .int .i64 L.made, v, .int .i64 L.high, .int .i64 L.heard, .int .u64 L.taken] 71 (0, 0)) ∧ Kd.Q k79 79 W 0 (fun k => ok k ∧ k ≠ g) v L.ws ∧ ok g
def LKat (W : World) (ok : Nat → Prop) (g : Nat) (L : LK) : Prop := ∃ v, LKv W ok g L v
theorem LKv.step {W W1 : World} {ok : Nat → Prop} {g : Nat} {L : LK} {v : Value} (h : LKv W ok g L v) (hm : ∀ k, ok k → k < W.heap.size → W1.heap[k]? = W.heap[k]?) : LKv W1 ok g L v :=
 ⟨(hm g h.2.2 (blk_lt h.1)).trans h.1, Kd.Q_step h.2.1 (fun k hk hlt => hm k hk.1 hlt), h.2.2⟩
theorem LKv.mono {W : World} {ok ok' : Nat → Prop} {g : Nat} {L : LK} {v : Value} (h : LKv W ok g L v) (hok : ∀ k, ok k → ok' k) : LKv W ok' g L v :=
 ⟨h.1, Kd.Q_mono h.2.1 (fun k hk => ⟨hok k hk.1, hk.2⟩), hok g h.2.2⟩
theorem LKv.bound {W : World} {ok : Nat → Prop} {g : Nat} {L : LK} {v : Value} (h : LKv W ok g L v) : LKv W (fun k => ok k ∧ k < W.heap.size) g L v :=
 ⟨h.1, Kd.Q_mono (Kd.Q_bound h.2.1) (fun k hk => ⟨⟨hk.1.1, hk.2.2.1⟩, hk.1.2⟩), h.2.2, blk_lt h.1⟩
theorem LKv.slice {W : World} {ok : Nat → Prop} {g : Nat} {L : LK} {v : Value} (h : LKv W ok g L v) : ∃ A c, v = .slice A L.ws.length c ∧ L.ws.length ≤ c := Kd.Q_slice h.2.1
theorem LKat.step {W W1 : World} {ok : Nat → Prop} {g : Nat} {L : LK} (h : LKat W ok g L) (hm : ∀ k, ok k → k < W.heap.size → W1.heap[k]? = W.heap[k]?) : LKat W1 ok g L := by
 obtain ⟨v, h⟩ := h
 exact ⟨v, h.step hm⟩
theorem LKat.mono {W : World} {ok ok' : Nat → Prop} {g : Nat} {L : LK} (h : LKat W ok g L) (hok : ∀ k, ok k → ok' k) : LKat W ok' g L := by
 obtain ⟨v, h⟩ := h
 exact ⟨v, h.mono hok⟩
theorem LKat.bound {W : World} {ok : Nat → Prop} {g : Nat} {L : LK} (h : LKat W ok g L) : LKat W (fun k => ok k ∧ k < W.heap.size) g L := by
 obtain ⟨v, h⟩ := h
 exact ⟨v, h.bound⟩
theorem LKat.below {W W1 : World} {ok : Nat → Prop} {g : Nat} {L : LK} (h : LKat W ok g L) (hb : Below W.heap.size W W1) : LKat W1 ok g L := h.step (fun k _ hk => hb.block k hk)
theorem LKat.kept {W W1 : World} {ok S : Nat → Prop} {g : Nat} {L : LK} (h : LKat W ok g L) (hk : Kept W W1 S) (hs : ∀ k, ok k → ¬ S k) : LKat W1 ok g L := h.step (fun k ho hlt => hk.2 k hlt (hs k ho))
theorem LKat.drew {W : World} {ok : Nat → Prop} {g : Nat} {L : LK} (h : LKat W ok g L) (n : Nat) : LKat (W.drewN n) ok g L := h.step (fun _ _ _ => rfl)
theorem LKv.put {W : World} {ok : Nat → Prop} {g : Nat} {L L' : LK} {v : Value} (h : LKv W ok g L v) (hw : L'.ws = L.ws) (j : Nat) (u : Value) (he : (#[.int .i64 L.own, .int .i64 L.other, .int .i64 L.queue, .int .i64 L.made, v, .int .i64 L.high, .int .i64 L.heard, .int .u64 L.taken] : Array Value).setIfInBounds j u = #[.int .i64 L'.own, .int .i64 L'.other, .int .i64 L'.queue, .int .i64 L'.made, v, .int .i64 L'.high, .int .i64 L'.heard, .int .u64 L'.taken]) : LKv (W.setCell ⟨g, j, none⟩ u) ok g L' v :=
 ⟨by rw [← he]; exact blk_put h.1 j u rfl, by rw [hw]; exact Kd.Q_far h.2.1 (p := ⟨g, j, none⟩) (fun k hk => hk.2) u, h.2.2⟩
theorem LKv.keepB {W W1 : World} {ok : Nat → Prop} {g : Nat} {L : LK} {v : Value} (h : LKv W ok g L v) (hb : Below W.heap.size W W1) : LKv W1 ok g L v := h.step (fun k _ hk => hb.block k hk)
theorem kept_set {w W : World} {ok : Nat → Prop} (h : Kept w W ok) {g j : Nat} (hg : ok g) (u : Value) : Kept w (W.setCell ⟨g, j, none⟩ u) ok :=
 ⟨by simpa [World.setCell] using h.1, fun i hi hs => (Below.heap_setCell W ⟨g, j, none⟩ u i (fun e_ => hs (by simp only at e_; rw [e_]; exact hg))).trans (h.2 i hi hs)⟩
theorem kept_below {w W W1 : World} {ok : Nat → Prop} (h : Kept w W ok) (hb : Below W.heap.size W W1) : Kept w W1 ok :=
 ⟨Nat.le_trans h.1 hb.size, fun i hi hs => (hb.block i (Nat.lt_of_lt_of_le hi h.1)).trans (h.2 i hi hs)⟩
theorem kept_trans {w W W1 : World} {ok ok1 : Nat → Prop} (h : Kept w W ok) (hk : Kept W W1 ok1) (hs : ∀ k, ok1 k → k < w.heap.size → ok k) : Kept w W1 ok :=
 ⟨Nat.le_trans h.1 hk.1, fun i hi hn => (hk.2 i (Nat.lt_of_lt_of_le hi h.1) (fun h1 => hn (hs i h1 hi))).trans (h.2 i hi hn)⟩
theorem kept_refl (w : World) (ok : Nat → Prop) : Kept w w ok := ⟨Nat.le_refl _, fun _ _ _ => rfl⟩
theorem kept_grown {w W W1 : World} {ok : Nat → Prop} (h : Kept w W ok) {row : Option Nat} (hg : W.grownBy W1 row) (hr : ∀ k, row = some k → k < w.heap.size → ok k) : Kept w W1 ok :=
 ⟨Nat.le_trans h.1 hg.size, fun i hi hn => (hg.block i (Nat.lt_of_lt_of_le hi h.1) (fun e_ => hn (hr i e_.symm hi))).trans (h.2 i hi hn)⟩
set_option maxHeartbeats 4000000 in
theorem link_New.calls (life queue : Int) (w : World) (h1 : 1 ≤ life) (h2 : life ≤ 1073741824) (h3 : 1 ≤ queue) (h4 : queue ≤ 32) :
 Calls Tryd.prog 7 #[.int .i64 life, .int .i64 queue] w fun e w' => ∃ g, e = .returned (.tuple #[.pointer (some ⟨g, 0, none⟩), .int .i64 0]) ∧ LKat w' (fun k => w.heap.size ≤ k) g ⟨life, 0, queue, 0, 0, -1, 0, []⟩ ∧ Below w.heap.size w w' := by
 have hu := Tryd.underlying71
 have b1 : decide (life < 1) = false := decide_eq_false (by omega)
 have b2 : decide (life > 1073741824) = false := decide_eq_false (by omega)
 have b3 : decide (queue < 1) = false := decide_eq_false (by omega)
 have b4 : decide (queue > 32) = false := decide_eq_false (by omega)
 go_enter Tryd.func7, Tryd.ntmps7
 go_wp2_with (first | ((with_reducible refine gd_ (N := 23) rfl ?_); refine bE 23 #[.int .i64 life, .int .i64 0, .int .i64 queue, .int .i64 0, .slice none 0 0, .int .i64 0, .int .i64 (-1), .int .u64 0] 71 ?_; intro g hg w1 hbox hb; have HB := am_ hb; have HG := am_ (show w.heap.size ≤ g by rw [hg]; exact Nat.le_refl _); have BX := am_ hbox; clear hb hg hbox))
 go_ret2
 exact ⟨g, rfl, ⟨_, BX.out, Kd.Q_nil _ _ _ _ _, HG.out⟩, HB.out⟩
end Go.Proofs.YtoandmnefgimoaaDoor.PL
