-- PRINTED by gprint.py (a session's own driver over the kit's print): not trusted; Lean checks it.
import Derived.Test.YtffefaiaifhokaaSOPTx0
import Derived.Test.YtffefaiaifhokaaSOPTx6
import Derived.Test.YtffefaiaifhokaaSOPTx7
import Derived.Test.YtffefaiaifhokaaSOPTx9
import Derived.Test.YtffefaiaifhokaaSOPTx13
import Derived.Test.YtffefaiaifhokaaSOPTx14
import Derived.Test.YtffefaiaifhokaaSOPTx16
import Derived.Test.YtffefaiaifhokaaSOPTx17
namespace Go.Proofs.Ytffefaiaifhokaa.PT
open Go.RowKit Go.Proofs.YtffefaiaifhokaaW.PrintWords Go.Proofs.YtffefaiaifhokaaW.PrintLast Go.Proofs.YtffefaiaifhokaaW.PrintMore
set_option linter.unusedVariables false
set_option linter.unusedSimpArgs false

/-! ### stream_Stream_Learn: function 11 -/
-- GIVEN-ALONE: typed by mk_orders.py
theorem item_openF {W : World} {ok : Nat → Prop} {x : S42} {cs : List Value} (h : Kd.FK k42 W ok x cs) : ∃ A2 c2, cs = [.int .i64 x.f0, .int .u32 x.f1, .slice A2 x.f2.length c2] ∧ x.f2.length ≤ c2 ∧ Kd.F (Kd.int .u8) W ok A2 x.f2.length x.f2 := by
 obtain ⟨A2, c2, rfl, l2, _⟩ := k42_open (Kd.FK_now h)
 exact ⟨A2, c2, rfl, l2, (fun W' hW => by obtain ⟨A2_, c2_, he, l2_, g2_⟩ := k42_open (h W' hW); injection (Option.some.inj (show some (Value.slice A2 x.f2.length c2) = some (Value.slice A2_ x.f2.length c2_) from congrArg (fun l => l[2]?) he)) with ha_ _ _; rw [ha_]; exact g2_)⟩
/-- What a call on the stream at g, with its map at b, may rely on. -/
structure Cx (B g b : Nat) (w0 : World) (ok : Nat → Prop) : Prop where
 ok_ : ∀ k, ok k → k ≠ g ∧ k ≠ b
 new : ∀ k, w0.heap.size ≤ k → ok k
 gb : g ≠ b
 Bg : B ≤ g
 Bb : B ≤ b
 Bw : B ≤ w0.heap.size
 gw : g < w0.heap.size
 bw : b < w0.heap.size
/-- The stream under way: what it knows (K, at A), its items X; of what was there but g and b have turned. -/
structure LS (B g b : Nat) (w0 : World) (ok : Nat → Prop) (W : World) (K : List S38) (A : Option Addr) (c : Nat) (X : List S42) : Prop where
 cx : Cx B g b w0 ok
 kb : KeepBut w0 W g (some b)
 be : Below B w0 W
 blk : W.heap[g]? = some (.cells #[.slice A K.length c, .map (some b)] 81 (0, 0))
 kn : Kd.F k38 W ok A K.length K
 cap : K.length ≤ c
 map : MapS W b ok X
theorem kb_below {g b : Nat} {W W1 : World} (h : Below W.heap.size W W1) : KeepBut W W1 g (some b) := KeepBut.of_below h g (some b)
theorem kb_more {g b : Nat} {W W1 : World} (h : KeepBut W W1 g none) : KeepBut W W1 g (some b) := ⟨h.1, fun i hi hg _ => h.2 i hi hg (by simp)⟩
theorem F_kb {α : Type} {d : Kd α} {g b n : Nat} {W W1 : World} {ok : Nat → Prop} {A : Option Addr} {xs : List α} (h : Kd.F d W ok A n xs) (hk : KeepBut W W1 g (some b)) (ho : ∀ k, ok k → k ≠ g ∧ k ≠ b) : Kd.F d W1 ok A n xs := Kd.F_step h (fun k hk_ hlt => hk.2 k hlt (ho k hk_).1 (fun e => (ho k hk_).2 (Option.some.inj e)))
theorem MapS.kb {g b b2 : Nat} {W W1 : World} {ok : Nat → Prop} {X : List S42} (h : MapS W b2 ok X) (hk : KeepBut W W1 g (some b)) (ho : ∀ k, ok k → k ≠ g ∧ k ≠ b) (h1 : b2 ≠ g) (h2 : b2 ≠ b) : MapS W1 b2 ok X := h.step (hk.2 b2 h.lt h1 (fun e => h2 (Option.some.inj e))) (fun k hk_ hlt => hk.2 k hlt (ho k hk_).1 (fun e => (ho k hk_).2 (Option.some.inj e)))
variable {B g b : Nat} {w0 W W1 : World} {ok : Nat → Prop} {K K1 : List S38} {A A1 : Option Addr} {c c1 : Nat} {X X1 : List S42} in
theorem LS.below (h : LS B g b w0 ok W K A c X) (hb : Below W.heap.size W W1) : LS B g b w0 ok W1 K A c X :=
 ⟨h.cx, h.kb.trans (kb_below hb) (Or.inl rfl), h.be.trans (hb.mono (Nat.le_trans h.cx.Bw h.kb.1)), blk_below h.blk hb, Kd.F_below h.kn hb, h.cap, h.map.below hb⟩
variable {B g b : Nat} {w0 W W1 : World} {ok : Nat → Prop} {K K1 : List S38} {A A1 : Option Addr} {c c1 : Nat} {X X1 : List S42} in
theorem LS.join (h : LS B g b w0 ok W K A c X) (hg : W1.heap[g]? = some (.cells #[.slice A1 K1.length c1, .map (some b)] 81 (0, 0))) (ho : Kd.R k38 38 W1 W.heap.size (fun _ => True) (.slice A1 K1.length c1) K1) (hk : KeepBut W W1 g none) (hb : Below B W W1) : LS B g b w0 ok W1 K1 A1 c1 X :=
 ⟨h.cx, h.kb.trans (kb_more hk) (Or.inl rfl), h.be.trans hb, hg, Kd.F_mono (Kd.R_F (Kd.R_mono (Kd.R_bound ho) (ok' := fun k_ => W.heap.size ≤ k_) (fun _ h_ => h_.2.1))) (fun k_ h_ => h.cx.new k_ (Nat.le_trans h.kb.1 h_)), (Kd.R_reads' ho).2.1,
  h.map.step (hk.2 b h.map.lt h.cx.gb.symm (by simp)) (fun k_ hk_ hlt => hk.2 k_ hlt (h.cx.ok_ k_ hk_).1 (by simp))⟩
variable {B g b : Nat} {w0 W W1 : World} {ok : Nat → Prop} {K K1 : List S38} {A A1 : Option Addr} {c c1 : Nat} {X X1 : List S42} in
theorem LS.put (h : LS B g b w0 ok W K A c X) (hm : MapS W1 b ok X1) (hg : W.grownBy W1 (some b)) : LS B g b w0 ok W1 K A c X1 :=
 ⟨h.cx, h.kb.trans (KeepBut.of_grown hg g) (Or.inl rfl), h.be.trans (below_map hg h.cx.Bb (Nat.le_trans h.cx.Bw h.kb.1)), (hg.block g (blk_lt h.blk) (fun e => h.cx.gb (Option.some.inj e))).trans h.blk, Kd.F_step h.kn (fun k_ hk_ hlt => hg.block k_ hlt (fun e => (h.cx.ok_ k_ hk_).2 (Option.some.inj e))), h.cap, hm⟩
/-- 'm[x.Tick] = x'. -/
theorem MapS.put {W : World} {b : Nat} {ok : Nat → Prop} {X : List S42} (h : MapS W b ok X) (hn : X.length < maxLen) {x : S42} (hw : (Lit.int .i64 x.f0).wf = true) {A : Option Addr} {c : Nat} (hc : x.f2.length ≤ c) (hF : Kd.F (Kd.int .u8) W ok A x.f2.length x.f2) (hob : ∀ k, ok k → k ≠ b) : ∃ w', (Instr.mapUpdate 79 (.map (some b)) (.int .i64 x.f0) (.agg #[.int .i64 x.f0, .int .u32 x.f1, .slice A x.f2.length c])).run Try.prog W = .ok () w' ∧ MapS w' b ok (putI x X) ∧ W.grownBy w' (some b) := by
 obtain ⟨D, hD, hX⟩ := h
 obtain ⟨w', hrun, hown, hg⟩ := World.ownsMap.update hD (Go.Maps.int_keyed Try.underlying3) Try.underlying79 hn (val := .agg #[.int .i64 x.f0, .int .u32 x.f1, .slice A x.f2.length c]) (d := .held (.agg #[.int .i64 x.f0, .int .u32 x.f1, .slice A x.f2.length c])) (ps := []) (Go.Maps.keyOf_int_mk Try.underlying3 hw) rfl
 have hp := hX.put x _ ⟨A, c, rfl, hc, hF⟩
 exact ⟨w', hrun, ⟨_, Mp.trim hown hp.size, hp.mono (fun y _ v hv => hv.step (fun k hk hlt => hg.block k hlt (fun e => hob k hk (Option.some.inj e))) (fun _ h => h))⟩, hg⟩
set_option maxRecDepth 100000 in
theorem look_at {W W1 : World} {b n : Nat} {D : DataW Value} (hD : Mp W b n D) {t : Int} (hw : (Lit.int .i64 t).wf = true) {v : Value} (hat : ∀ z, D.atKey (.int .i64 t) z = .held v) (hb : W1.heap[b]? = W.heap[b]?) : (Instr.lookup 79 (.map (some b)) (.int .i64 t) false).run Try.prog W1 = .ok v W1 := by
 obtain ⟨v1, ps, hrun, hv⟩ := World.ownsMap.lookup (hD.step hb) (Go.Maps.int_keyed Try.underlying3) Try.underlying79 (zero_item W1) (zd := .held (.agg #[.int .i64 0, .int .u32 0, .slice none 0 0])) (zp := []) rfl (Go.Maps.keyOf_int_mk Try.underlying3 hw)
 have hv2 := (Prod.mk.inj (Option.some.inj hv)).1
 rw [hat] at hv2
 injection hv2 with hv3
 rw [hrun, ← hv3]
set_option maxRecDepth 100000 in
/-- maps.Clone. -/
theorem clone_calls (b n : Nat) (D : DataW Value) (w : World) (hm : Mp w b n D) :
 Calls Try.prog 33 #[.map (some b)] w fun e w' => ∃ b2, e = .returned (.map (some b2)) ∧ Mp w' b2 n D ∧ w.heap.size ≤ b2 ∧ Below w.heap.size w w' := by
 obtain ⟨es, clock, hb, F, hs, hD⟩ := hm
 have hq := fun w => run_eql_map_nil_sl (P := Try.prog) w 79 _ _ (some b) Try.underlying79
 go_enter Try.func33, Try.ntmps33
 go_wp2
 rw [run_callFunc_extern Try.func67 (by kernel_rfl) (by kernel_rfl) (by kernel_rfl) (e := Extern.MapsClone.clone) (by kernel_rfl), run_maps_clone_sl w 79 hb]
 simp only [Result.andThen]
 rw [Oper.upon_value]
 go_wp2
 rw [run_typeAssert_map_sl _ 79 _ _ _ _ Try.underlying79]
 simp only [Result.andThen]
 rw [Oper.upon_value]
 go_wp2
 go_ret
 exact ⟨w.heap.size, rfl, ⟨es, clock, (MapKept.heap_alloc w _).1, F, hs, hD⟩, Nat.le_refl _, below_alloc (Below.refl _ _) _⟩
def stream_Stream_Learn.f : Option Int := some 0
def stream_Stream_Learn.T8 : Bool × List (List Nat × List Nat) := (true, [([], []), ([0], [0]), ([1], [1]), ([2], [2]), ([], []), ([4], [4]), ([5], [5]), ([6], [6]), ([7], [7]), ([3, 8, 0, 1, 2, 3], [3]), ([8, 9, 0, 1, 2, 3, 4, 5, 6, 7, 8, 9], [8])])
def stream_Stream_Learn.B8 : List Nat := [0, 1, 3, 7, 0, 16, 48, 112, 240, 511, 1023]
theorem stream_Stream_Learn.tab8 : rtab .any (opsOf Try.f11 8) = stream_Stream_Learn.T8 := by kernel_rfl
theorem stream_Stream_Learn.bits8 : waitsOk stream_Stream_Learn.T8.2 stream_Stream_Learn.B8 = true := by kernel_rfl
def stream_Stream_Learn.T14 : Bool × List (List Nat × List Nat) := (true, [([], []), ([0], [0]), ([1], [1]), ([2], [2]), ([], []), ([4], [4]), ([3, 5], [3, 5])])
def stream_Stream_Learn.B14 : List Nat := [0, 1, 3, 7, 0, 16, 63]
theorem stream_Stream_Learn.tab14 : rtab .any (opsOf Try.f11 14) = stream_Stream_Learn.T14 := by kernel_rfl
theorem stream_Stream_Learn.bits14 : waitsOk stream_Stream_Learn.T14.2 stream_Stream_Learn.B14 = true := by kernel_rfl
def stream_Stream_Learn.T17 : Bool × List (List Nat × List Nat) := (true, [([], []), ([0], [0]), ([1], [1]), ([2], [2]), ([], []), ([4], [4]), ([], []), ([6], [6]), ([3, 5, 7, 7, 0, 1, 2, 3, 4, 5, 6, 7], [3, 5, 7])])
def stream_Stream_Learn.B17 : List Nat := [0, 1, 3, 7, 0, 16, 0, 64, 255]
theorem stream_Stream_Learn.tab17 : rtab .any (opsOf Try.f11 17) = stream_Stream_Learn.T17 := by kernel_rfl
theorem stream_Stream_Learn.bits17 : waitsOk stream_Stream_Learn.T17.2 stream_Stream_Learn.B17 = true := by kernel_rfl
def stream_Stream_Learn.T19 : Bool × List (List Nat × List Nat) := (true, [([], []), ([0], [0]), ([1], [1]), ([2], [2]), ([], []), ([4], [4]), ([3, 5], [3, 5]), ([], []), ([7, 6, 0, 1, 2, 3, 4, 5, 6, 7], [6, 7])])
def stream_Stream_Learn.B19 : List Nat := [0, 1, 3, 7, 0, 16, 63, 0, 255]
theorem stream_Stream_Learn.tab19 : rtab .any (opsOf Try.f11 19) = stream_Stream_Learn.T19 := by kernel_rfl
theorem stream_Stream_Learn.bits19 : waitsOk stream_Stream_Learn.T19.2 stream_Stream_Learn.B19 = true := by kernel_rfl
def stream_Stream_Learn.T21 : Bool × List (List Nat × List Nat) := (true, [([], []), ([0], [0]), ([1], [1]), ([2], [2]), ([], []), ([4], [4]), ([], []), ([3, 5, 6, 0, 1, 2, 3, 4, 5, 6], [3, 5, 6])])
def stream_Stream_Learn.B21 : List Nat := [0, 1, 3, 7, 0, 16, 0, 127]
theorem stream_Stream_Learn.tab21 : rtab .any (opsOf Try.f11 21) = stream_Stream_Learn.T21 := by kernel_rfl
theorem stream_Stream_Learn.bits21 : waitsOk stream_Stream_Learn.T21.2 stream_Stream_Learn.B21 = true := by kernel_rfl
theorem putLe3_0_3 {W : World} {g t : Nat} {c0 c1 c2 : Value} (h : W.heap[g]? = some (.cells #[c0, c1, c2] t (0, 0))) (d0 d1 d2 : Value) : (((W.setCell ⟨g, 0, none⟩ d0).setCell ⟨g, 1, none⟩ d1).setCell ⟨g, 2, none⟩ d2).heap[g]? = some (.cells #[d0, d1, d2] t (0, 0)) := by
 have h0 : (W.setCell ⟨g, 0, none⟩ d0).heap[g]? = some (.cells #[d0, c1, c2] t (0, 0)) := blk_put h 0 _ rfl
 have h1 : ((W.setCell ⟨g, 0, none⟩ d0).setCell ⟨g, 1, none⟩ d1).heap[g]? = some (.cells #[d0, d1, c2] t (0, 0)) := blk_put h0 1 _ rfl
 exact blk_put h1 2 _ rfl
abbrev orI (a b : Int) : Int := bits .or .u32 a b
def itemsF (k : Nat) : List S42 → List S38 → List S42 → Option (List S38 × List S42)
 | [], K, X => some (K, X)
 | x :: r, K, X => if (Lit.int .i64 x.f0).wf = true ∧ X.length < 1000 ∧ stream_copied.f x.f0 x.f1 x.f2 = some (x.f0, x.f1, x.f2) then (span_At.f k K x.f0).bind fun a =>
  if a = 0 then (stream_Stream_join.f k K [⟨x.f0, x.f0, 1⟩]).bind fun K' => itemsF k r K' (putI x X)
  else if a = 1 then (getI X x.f0).bind fun y => itemsF k r K (putI ⟨x.f0, orI y.f1 x.f1, y.f2⟩ X)
  else itemsF k r K X else none
def learnF (k : Nat) (K : List S38) (X : List S42) (a0 a1 a2 a3 a4 a5 : Int) (l6 : List S38) (l7 : List S42) : Option (List S38 × List S42 × Bool) :=
 (parcel_Check.f k a0 a1 a2 a3 a4 a5 l6 l7).bind fun c => if c = 0 ∧ a0 = 1 ∧ l7.length < 1000 then (stream_Stream_join.f k K l6).bind fun K1 => if X.all (fun x => (span_At.f k K1 x.f0).isSome) = true then
  (itemsF k l7 K1 (X.filter (keepI k K1))).bind fun s => if s.2.length ≤ 64 then (api_Span_42.f k K s.1).bind fun q => some (s.1, s.2, !(q && eqFor X s.2)) else none else none else none
set_option maxHeartbeats 40000000 in
set_option maxRecDepth 100000 in
theorem learn_calls (k B g b : Nat) (ok : Nat → Prop) (K : List S38) (X : List S42) (A0 : Option Addr) (c0 : Nat) (a0 a1 a2 a3 a4 a5 : Int) (A6 : Option Addr) (c6 : Nat) (l6 : List S38) (A7 : Option Addr) (c7 : Nat) (l7 : List S42) (K2 : List S38) (X2 : List S42) (r : Bool) (w : World)
 (hl : LS B g b w ok w K A0 c0 X) (h6 : Kd.F k38 w (fun k => k ≠ g ∧ k ≠ b) A6 l6.length l6) (hc6 : l6.length ≤ c6) (h7 : Kd.F k42 w (fun k => k ≠ g ∧ k ≠ b) A7 l7.length l7) (hc7 : l7.length ≤ c7)
 (h : learnF k K X a0 a1 a2 a3 a4 a5 l6 l7 = some (K2, X2, r)) :
 Calls Try.prog 11 #[.pointer (some ⟨g, 0, none⟩), .agg #[.int .i64 a0, .int .i64 a1, .int .i64 a2, .int .i64 a3, .int .i64 a4, .int .i64 a5, .slice A6 l6.length c6, .slice A7 l7.length c7]] w fun e w' => e = .returned (.tuple #[.bool r, .int .i64 0]) ∧ ∃ A2 c2, LS B g b w ok w' K2 A2 c2 X2 := by
 have hu := Try.underlying33
 have hus := Try.underlying81
 have hui := Try.underlying42
 have hup := Try.underlying38
 unfold learnF at h
 obtain ⟨c, hck, h1⟩ := Option.bind_eq_some_iff.mp h
 clear h
 by_cases hc : c = 0 ∧ a0 = 1 ∧ l7.length < 1000
 case neg => rw [if_neg hc] at h1; exact absurd h1 (by simp)
 rw [if_pos hc] at h1
 obtain ⟨e1, e2, e3⟩ := hc
 have HFIT := Aside0.mk e3
 clear e3
 subst e1
 subst e2
 obtain ⟨K1, hj1, h2⟩ := Option.bind_eq_some_iff.mp h1
 clear h1
 by_cases hal : X.all (fun x => (span_At.f k K1 x.f0).isSome) = true
 case neg => rw [if_neg hal] at h2; exact absurd h2 (by simp)
 rw [if_pos hal] at h2
 obtain ⟨⟨K3, X3⟩, hit, h3⟩ := Option.bind_eq_some_iff.mp h2
 clear h2
 by_cases h64 : X3.length ≤ 64
 case neg => rw [if_neg h64] at h3; exact absurd h3 (by simp)
 rw [if_pos h64] at h3
 obtain ⟨q, heq, h4⟩ := Option.bind_eq_some_iff.mp h3
 clear h3
 simp only [Option.some.injEq, Prod.mk.injEq] at h4
 obtain ⟨rfl, rfl, hr_⟩ := h4
 have HRR := Aside0.mk hr_
 have HCK := Aside0.mk hck
 have HJ1 := Aside0.mk hj1
 have HAL := Aside0.mk (show ∀ x ∈ X, ∃ r, span_At.f k K1 x.f0 = some r from fun x hx => Option.isSome_iff_exists.1 (List.all_eq_true.1 hal x hx))
 have HIT := Aside0.mk hit
 have H64 := Aside0.mk h64
 have HEQ := Aside0.mk heq
 have HC6 := Aside0.mk hc6
 have HC7 := Aside0.mk hc7
 have HL0 := Aside0.mk hl
 have HC0 := Aside0.mk hl.cap
 have HX0 := Aside0.mk h6
 have HI0 := Aside0.mk h7
 have HCX := Aside0.mk hl.cx
 have HOK := Aside0.mk hl.cx.ok_
 have HSW := Aside0.mk (show w.heap.size ≤ w.heap.size from Nat.le_refl _)
 clear hr_ hck hj1 hal hit h64 heq hc6 hc7 hl h6 h7
 go_enter Try.func11, Try.ntmps11
 go_wp2_with (first | ((with_reducible refine gate_dst (N := 3) rfl ?_); refine box_event ?hg (N := 3) ?hd (cs := #[.int .i64 1, .int .i64 a1, .int .i64 a2, .int .i64 a3, .int .i64 a4, .int .i64 a5, .slice A6 l6.length c6, .slice A7 l7.length c7]) (t := 33) ?hr ?_; (case hd => rfl); (case hg => rfl); (case hr => first | (go_simp; done) | (go_simp; rfl)); intro gp hg w1 hbox hb; have HBPg := Aside0.mk (show w.heap.size ≤ gp from Nat.le_of_eq hg.symm); have NBP := Aside0.mk (show gp ≠ g ∧ gp ≠ b from ⟨by have h1_ := HCX.out.gw; have h2_ := HL0.out.kb.1; have h3_ := HBPg.out; omega, by have h1_ := HCX.out.bw; have h2_ := HL0.out.kb.1; have h3_ := HBPg.out; omega⟩); have BP1 := Aside0.mk hbox; have HL1 := Aside0.mk (HL0.out.below hb); have kb_ : KeepBut w w1 g (some b) := kb_below (g := g) (b := b) hb; have HX1 := Aside0.mk (F_kb HX0.out kb_ (fun _ h_ => h_)); have HI1 := Aside0.mk (F_kb HI0.out kb_ (fun _ h_ => h_)); clear kb_; have zp1_0 := (blk_cell hbox 0).trans rfl; have zp1_1 := (blk_cell hbox 1).trans rfl; have zp1_2 := (blk_cell hbox 2).trans rfl; have zp1_3 := (blk_cell hbox 3).trans rfl; have zp1_4 := (blk_cell hbox 4).trans rfl; have zp1_5 := (blk_cell hbox 5).trans rfl; have zp1_6 := (blk_cell hbox 6).trans rfl; have zp1_7 := (blk_cell hbox 7).trans rfl; have fp1_0 := blk_frozen hbox 0; have fp1_1 := blk_frozen hbox 1; have fp1_2 := blk_frozen hbox 2; have fp1_3 := blk_frozen hbox 3; have fp1_4 := blk_frozen hbox 4; have fp1_5 := blk_frozen hbox 5; have fp1_6 := blk_frozen hbox 6; have fp1_7 := blk_frozen hbox 7; clear hb hbox hg) | ((with_reducible refine gate_dst (N := 16) rfl ?_); (try (refine gate_guard (by rfl) ?_; dsimp only)); refine goesL_ (some 16) rfl rfl Try.func19 (by kernel_rfl) rfl #[.agg #[.int .i64 1, .int .i64 a1, .int .i64 a2, .int .i64 a3, .int .i64 a4, .int .i64 a5, .slice A6 l6.length c6, .slice A7 l7.length c7]] rfl (by (try simp only [List.map_toArray, List.map_cons, List.map_nil]); first | done | rfl | (simp only [List.length_drop, List.length_take]; rfl)) ?_; refine (parcel_Check.calls k 1 a1 a2 a3 a4 a5 A6 c6 l6 A7 c7 l7 0 _ (Kd.F_now HX1.out) HC6.out (Kd.F_now HI1.out) HC7.out HCK.out).mono ?_; rintro e_ w2 ⟨rfl, hb⟩; refine ⟨_, rfl, ?_⟩; have HL2 := Aside0.mk (HL1.out.below hb); have kb_ : KeepBut w1 w2 g (some b) := kb_below (g := g) (b := b) hb; have HX2 := Aside0.mk (F_kb HX1.out kb_ (fun _ h_ => h_)); have HI2 := Aside0.mk (F_kb HI1.out kb_ (fun _ h_ => h_)); have BP2 := Aside0.mk (kb_.blk BP1.out NBP.out.1 (fun e__ => NBP.out.2 (Option.some.inj e__))); clear kb_; have zg2_0 := (blk_cell HL2.out.blk 0).trans rfl; have zg2_1 := (blk_cell HL2.out.blk 1).trans rfl; have zp2_0 := (blk_cell BP2.out 0).trans rfl; have zp2_6 := (blk_cell BP2.out 6).trans rfl; have zp2_7 := (blk_cell BP2.out 7).trans rfl; clear hb))
 refine start_ (n := 11) (S := fun w' => w'.heap[g]? = some (.cells #[.slice A0 K.length c0, .map (some b)] 81 (0, 0))) (ds := []) #[false, false, false, false, false, false, false, false, false, false, false] (by kernel_rfl) rfl rfl HL2.out.blk (fun hHeld => ?_)
 refine with_tabW stream_Stream_Learn.tab8 stream_Stream_Learn.bits8 (fun HT_ HW_ => ?_)
 have hb : Below w2.heap.size w2 w2.drew := below_drew (Below.refl _ _)
 have HL3 := Aside0.mk (HL2.out.below hb)
 have kb_ : KeepBut w2 w2.drew g (some b) := kb_below (g := g) (b := b) hb
 have HX3 := Aside0.mk (F_kb HX2.out kb_ (fun _ h_ => h_))
 have HI3 := Aside0.mk (F_kb HI2.out kb_ (fun _ h_ => h_))
 have BP3 := Aside0.mk (kb_.blk BP2.out NBP.out.1 (fun e__ => NBP.out.2 (Option.some.inj e__)))
 clear kb_
 clear hb
 generalize w2.drew = w3 at HL3 HX3 HI3 BP3 hHeld ⊢
 refine pure_ (i := 0) (N := some 23) (v := ?_) (a' := ?_) #[true, false, false, false, false, false, false, false, false, false, false] rfl rfl (any_of HT_.out (by kernel_rfl)) (fun _ _ _ h => h) (Or.inl ⟨by rfl, ?_⟩) ?_ ?_
 rotate_left
 ·
  intro w'
  go_simp
  with_reducible rfl
 rotate_left
 ·
  simp only [Act.put, List.setIfInBounds_toArray, List.set_cons_zero, List.set_cons_succ, i64_w, i32_w]
  rfl
 refine pure_ (i := 1) (N := some 24) (v := ?_) (a' := ?_) #[true, true, false, false, false, false, false, false, false, false, false] rfl rfl (any_of HT_.out (by kernel_rfl)) (fun _ _ _ h => h) (Or.inl ⟨by rfl, ?_⟩) ?_ ?_
 rotate_left
 ·
  intro w'
  go_simp
  with_reducible rfl
 rotate_left
 ·
  simp only [Act.put, List.setIfInBounds_toArray, List.set_cons_zero, List.set_cons_succ, i64_w, i32_w]
  rfl
 refine pure_ (i := 2) (N := some 25) (v := ?_) (a' := ?_) #[true, true, true, false, false, false, false, false, false, false, false] rfl rfl (any_of HT_.out (by kernel_rfl)) (fun _ _ _ h => h) (Or.inl ⟨by rfl, ?_⟩) ?_ ?_
 rotate_left
 ·
  intro w'
  go_simp
  with_reducible rfl
 rotate_left
 ·
  simp only [Act.put, List.setIfInBounds_toArray, List.set_cons_zero, List.set_cons_succ, i64_w, i32_w]
  rfl
 refine take_ (i := 3) (N := some 26) (v := ?_) (a' := ?_) #[true, true, true, true, false, false, false, false, false, false, false] rfl rfl (take_ofW HT_.out HW_.out (by kernel_rfl)) (fun _ _ _ h => h) (Or.inl ⟨by rfl, ?_⟩) hHeld ?_ ?_
 rotate_left
 ·
  rintro w' s0
  have q0_ := (blk_cell s0 0).trans rfl
  have q1_ := (blk_cell s0 1).trans rfl
  go_simp
  with_reducible rfl
 rotate_left
 ·
  simp only [Act.put, List.setIfInBounds_toArray, List.set_cons_zero, List.set_cons_succ, i64_w, i32_w]
  rfl
 refine pure_ (i := 4) (N := some 27) (v := ?_) (a' := ?_) #[true, true, true, true, true, false, false, false, false, false, false] rfl rfl (any_of HT_.out (by kernel_rfl)) (fun _ _ _ h => h) (Or.inl ⟨by rfl, ?_⟩) ?_ ?_
 rotate_left
 ·
  intro w'
  go_simp
  with_reducible rfl
 rotate_left
 ·
  simp only [Act.put, List.setIfInBounds_toArray, List.set_cons_zero, List.set_cons_succ, i64_w, i32_w]
  rfl
 refine pure_ (i := 5) (N := some 28) (v := ?_) (a' := ?_) #[true, true, true, true, true, true, false, false, false, false, false] rfl rfl (any_of HT_.out (by kernel_rfl)) (fun _ _ _ h => h) (Or.inl ⟨by rfl, ?_⟩) ?_ ?_
 rotate_left
 ·
  intro w'
  go_simp
  with_reducible rfl
 rotate_left
 ·
  simp only [Act.put, List.setIfInBounds_toArray, List.set_cons_zero, List.set_cons_succ, i64_w, i32_w]
  rfl
 refine pure_ (i := 6) (N := some 29) (v := ?_) (a' := ?_) #[true, true, true, true, true, true, true, false, false, false, false] rfl rfl (any_of HT_.out (by kernel_rfl)) (fun _ _ _ h => h) (Or.inl ⟨by rfl, ?_⟩) ?_ ?_
 rotate_left
 ·
  intro w'
  go_simp
  with_reducible rfl
 rotate_left
 ·
  simp only [Act.put, List.setIfInBounds_toArray, List.set_cons_zero, List.set_cons_succ, i64_w, i32_w]
  rfl
 refine take_ (i := 7) (N := some 30) (v := ?_) (a' := ?_) #[true, true, true, true, true, true, true, true, false, false, false] rfl rfl (take_ofW HT_.out HW_.out (by kernel_rfl)) (fun _ _ _ h => h) (Or.inl ⟨by rfl, ?_⟩) hHeld ?_ ?_
 rotate_left
 ·
  rintro w' s0
  have q0_ := (blk_cell s0 0).trans rfl
  have q1_ := (blk_cell s0 1).trans rfl
  go_simp
  with_reducible rfl
 rotate_left
 ·
  simp only [Act.put, List.setIfInBounds_toArray, List.set_cons_zero, List.set_cons_succ, i64_w, i32_w]
  rfl
 obtain ⟨DM, hDM, hXM⟩ := HL3.out.map
 refine one_ (i := 8) (N := some 31) #[true, true, true, true, true, true, true, true, true, false, false] rfl rfl (one_of HT_.out (by kernel_rfl)) (by decide) (fun K hK => ?_)
 refine goes_ Try.func33 (by kernel_rfl) rfl #[.map (some b)] (by rfl) rfl rfl (by (try simp only [List.map_toArray, List.map_cons, List.map_nil]); first | done | rfl | (simp only [List.length_drop, List.length_take]; rfl)) ?_
 refine (clone_calls b X.length DM _ hDM).mono ?_
 rintro e_ w4 ⟨b2, rfl, hm2, hlb2, hb⟩
 refine ⟨_, rfl, ?_⟩
 have HL4 := Aside0.mk (HL3.out.below hb)
 have kb_ : KeepBut w3 w4 g (some b) := kb_below (g := g) (b := b) hb
 have HX4 := Aside0.mk (F_kb HX3.out kb_ (fun _ h_ => h_))
 have HI4 := Aside0.mk (F_kb HI3.out kb_ (fun _ h_ => h_))
 have BP4 := Aside0.mk (kb_.blk BP3.out NBP.out.1 (fun e__ => NBP.out.2 (Option.some.inj e__)))
 clear kb_
 have HD4 := Aside0.mk (show MapS w4 b2 ok X from ⟨DM, hm2, hXM.mono (fun x _ v hv => hv.step (fun k_ _ hlt_ => hb.block k_ hlt_) (fun _ h_ => h_))⟩)
 have HNB := Aside0.mk (show b2 ≠ g ∧ b2 ≠ b from ⟨by have h1_ := HCX.out.gw; have h2_ := HL3.out.kb.1; omega, by have h1_ := HCX.out.bw; have h2_ := HL3.out.kb.1; omega⟩)
 have HW4 := Aside0.mk HL4.out.kn
 clear hb hm2 hlb2 hDM hXM
 refine hK.out _ _ HL4.out.blk (fun hHeld => ?_)
 clear hK K
 refine norm_ (a' := ?_) ?_ ?_
 rotate_left
 ·
  show Act.put _ (some 31) _ = _
  simp only [Act.put, List.setIfInBounds_toArray, List.set_cons_zero, List.set_cons_succ, i64_w, i32_w]
  rfl
 refine pure_ (i := 9) (N := some 7) (v := ?_) (a' := ?_) #[true, true, true, true, true, true, true, true, true, true, false] rfl rfl (any_of HT_.out (by kernel_rfl)) (fun _ _ _ h => h) (Or.inl ⟨by rfl, ?_⟩) ?_ ?_
 rotate_left
 ·
  intro w'
  go_simp
  with_reducible rfl
 rotate_left
 ·
  simp only [Act.put, List.setIfInBounds_toArray, List.set_cons_zero, List.set_cons_succ, i64_w, i32_w]
  rfl
 refine pure_ (i := 10) (N := some 8) (v := ?_) (a' := ?_) #[true, true, true, true, true, true, true, true, true, true, true] rfl rfl (any_of HT_.out (by kernel_rfl)) (fun _ _ _ h => h) (Or.inl ⟨by rfl, ?_⟩) ?_ ?_
 rotate_left
 ·
  intro w'
  go_simp
  with_reducible rfl
 rotate_left
 ·
  simp only [Act.put, List.setIfInBounds_toArray, List.set_cons_zero, List.set_cons_succ, i64_w, i32_w]
  rfl
 refine done_ (done_of HT_.out (by kernel_rfl)) ?_
 have zg4_0 := (blk_cell HL4.out.blk 0).trans rfl
 have zg4_1 := (blk_cell HL4.out.blk 1).trans rfl
 have zp4_0 := (blk_cell BP4.out 0).trans rfl
 have zp4_6 := (blk_cell BP4.out 6).trans rfl
 have zp4_7 := (blk_cell BP4.out 7).trans rfl
 go_wp2_with (first | ((with_reducible refine gate_dst (N := 35) rfl ?_); refine goesL_ (some 35) rfl rfl Try.func34 (by kernel_rfl) rfl #[.pointer (some ⟨g, 0, none⟩), .slice A6 l6.length c6] rfl (by (try simp only [List.map_toArray, List.map_cons, List.map_nil]); first | done | rfl | (simp only [List.length_drop, List.length_take]; rfl)) ?_; refine (stream_Stream_join.calls k B g b A0 c0 K A6 c6 l6 K1 _ HL4.out.blk (Kd.F_now HL4.out.kn) HL4.out.cap (Kd.F_now HX4.out) HC6.out HJ1.out HCX.out.Bg (Nat.le_trans HCX.out.Bw HL4.out.kb.1)).mono ?_; rintro e_ w5 ⟨rfl, Ak, ck, hg2, ho, hk, hb⟩; refine ⟨_, rfl, ?_⟩; have HL5 := Aside0.mk (HL4.out.join hg2 ho hk hb); have kb_ : KeepBut w4 w5 g (some b) := kb_more hk; have HX5 := Aside0.mk (F_kb HX4.out kb_ (fun _ h_ => h_)); have HI5 := Aside0.mk (F_kb HI4.out kb_ (fun _ h_ => h_)); have BP5 := Aside0.mk (kb_.blk BP4.out NBP.out.1 (fun e__ => NBP.out.2 (Option.some.inj e__))); have HD5 := Aside0.mk (HD4.out.kb kb_ HOK.out HNB.out.1 HNB.out.2); have HW5 := Aside0.mk (F_kb HW4.out kb_ HOK.out); clear kb_; have zg5_0 := (blk_cell HL5.out.blk 0).trans rfl; have zg5_1 := (blk_cell HL5.out.blk 1).trans rfl; have zp5_0 := (blk_cell BP5.out 0).trans rfl; have zp5_6 := (blk_cell BP5.out 6).trans rfl; have zp5_7 := (blk_cell BP5.out 7).trans rfl; clear hg2 ho hk hb) | ((with_reducible refine gate_dst (N := 37) rfl ?_); (try (refine gate_guard (by rfl) ?_; dsimp only)); refine goesL_ (some 37) rfl rfl Try.func35 (by kernel_rfl) rfl #[.pointer (some ⟨g, 0, none⟩)] rfl (by (try simp only [List.map_toArray, List.map_cons, List.map_nil]); first | done | rfl | (simp only [List.length_drop, List.length_take]; rfl)) ?_; refine (stream_Stream_tidy.calls k g b ok K1 X Ak ck _ HL5.out.blk HL5.out.kn HL5.out.cap HL5.out.map HOK.out HCX.out.gb HAL.out).mono ?_; rintro e_ w6 ⟨rfl, hm, hg_⟩; refine ⟨_, rfl, ?_⟩; have HL6 := Aside0.mk (HL5.out.put hm hg_); have kb_ : KeepBut w5 w6 g (some b) := KeepBut.of_grown hg_ g; have HX6 := Aside0.mk (F_kb HX5.out kb_ (fun _ h_ => h_)); have HI6 := Aside0.mk (F_kb HI5.out kb_ (fun _ h_ => h_)); have BP6 := Aside0.mk (kb_.blk BP5.out NBP.out.1 (fun e__ => NBP.out.2 (Option.some.inj e__))); have HD6 := Aside0.mk (HD5.out.kb kb_ HOK.out HNB.out.1 HNB.out.2); have HW6 := Aside0.mk (F_kb HW5.out kb_ HOK.out); clear kb_; have zg6_0 := (blk_cell HL6.out.blk 0).trans rfl; have zg6_1 := (blk_cell HL6.out.blk 1).trans rfl; have zp6_0 := (blk_cell BP6.out 0).trans rfl; have zp6_6 := (blk_cell BP6.out 6).trans rfl; have zp6_7 := (blk_cell BP6.out 7).trans rfl; clear hm hg_))
 go_loopg [41] (l7.length + 1) (fun kq v41 w' => ∃ (i : Int) (A : Option Addr) (c : Nat) (Kc : List S38) (Xc : List S42), v41 = .int .i64 i ∧ Aside0 (l7.length + 1 ≤ kq + i.toNat) ∧ Aside0 (0 ≤ i ∧ i.toNat ≤ l7.length) ∧ Aside0 (itemsF k (l7.drop i.toNat) Kc Xc = some (K3, X3)) ∧ Aside0 (LS B g b w ok w' Kc A c Xc) ∧ Aside0 (Kd.F k42 w' (fun k => k ≠ g ∧ k ≠ b) A7 l7.length l7) ∧ Aside0 (MapS w' b2 ok X) ∧ Aside0 (Kd.F k38 w' ok A0 K.length K))
 case atStart => exact ⟨0, _, _, _, _, rfl, ⟨Nat.le_refl _⟩, ⟨by decide, Nat.zero_le _⟩, HIT, HL6, HI6, HD6, HW6⟩
 case round =>
  obtain ⟨i, A, c, Kc, Xc, rfl, HQ0, HLE, HIT0, HL0, HI0, HD0, HW0⟩ := hrel
  rcases Nat.lt_or_ge i.toNat l7.length with hlt | hge
  ·
   have ql : (i < (l7.length : Int)) = True := eq_true (by have := HLE.out.1; omega)
   have qp : (0 ≤ i) = True := eq_true HLE.out.1
   obtain ⟨ad, c_, hA, hcl_, hFK, hcc0, _⟩ := Kd.F_get HI0.out z42 i HLE.out.1 (by have := HLE.out.1; omega)
   obtain ⟨x, hx⟩ : ∃ x, x = l7.getD i.toNat z42 := ⟨_, rfl⟩
   rw [← hx] at hFK
   have hd_ : l7.drop i.toNat = x :: l7.drop (i.toNat + 1) := (by rw [List.drop_eq_getElem_cons hlt, hx, List.getD_eq_getElem?_getD, List.getElem?_eq_getElem hlt]; rfl)
   obtain ⟨Ab, cb, rfl, l2, g2⟩ := item_openF hFK
   subst hA
   have hcc : ∀ j u, ([.int .i64 x.f0, .int .u32 x.f1, .slice Ab x.f2.length cb] : List Value)[j]? = some u → wr.cell? (ad.add (i.toNat * 3 + j)) = some u := hcc0
   have q0 : wr.cell? (ad.add (i.toNat * 3)) = some (.int .i64 x.f0) := hcc 0 _ rfl
   have q1 : wr.cell? ⟨(ad.add (i.toNat * 3)).block, (ad.add (i.toNat * 3)).off + 1, none⟩ = some (.int .u32 x.f1) := (by rw [← add_field _ _ 1 (by omega)]; exact hcc 1 _ rfl)
   have q2 : wr.cell? ⟨(ad.add (i.toNat * 3)).block, (ad.add (i.toNat * 3)).off + 2, none⟩ = some (.slice Ab x.f2.length cb) := (by rw [← add_field _ _ 2 (by omega)]; exact hcc 2 _ rfl)
   have HCB := Aside0.mk l2
   have HG0 := Aside0.mk g2
   have HLT := Aside0.mk hlt
   have h0 := HIT0.out
   rw [hd_, itemsF] at h0
   by_cases hw_ : (Lit.int .i64 x.f0).wf = true ∧ Xc.length < 1000 ∧ stream_copied.f x.f0 x.f1 x.f2 = some (x.f0, x.f1, x.f2)
   case neg => rw [if_neg hw_] at h0; exact absurd h0 (by simp)
   rw [if_pos hw_] at h0
   obtain ⟨a, hat, h1⟩ := Option.bind_eq_some_iff.mp h0
   have HWF := Aside0.mk hw_
   have HAT := Aside0.mk hat
   have HH := Aside0.mk h1
   clear h0 hw_ hat h1 hx hd_ hcc hcc0 hcl_ hFK g2 l2 hlt HIT0
   go_wp2_with (first | ((with_reducible refine gate_dst (N := 10) rfl ?_); refine box_event ?hg (N := 10) ?hd (cs := #[.int .i64 0, .int .u32 0, .slice none 0 0]) (t := 42) ?hr ?_; (case hd => rfl); (case hg => rfl); (case hr => first | (go_simp; done) | (go_simp; rfl)); intro gx hg w1 hbox hb; have BX2a := Aside0.mk hbox; have Egx := Aside0.mk hg; have Sgx := Aside0.mk hb; have zBX2a0 := (blk_cell hbox 0).trans rfl; have zBX2a1 := (blk_cell hbox 1).trans rfl; have zBX2a2 := (blk_cell hbox 2).trans rfl; have fBX2a0 := blk_frozen hbox 0; have fBX2a1 := blk_frozen hbox 1; have fBX2a2 := blk_frozen hbox 2; clear hbox hg hb) | ((with_reducible refine gate_store (t := 42) (p := 10) (v := .tmp 44) rfl ?_); refine store_event rfl (t := 42) (p := 10) (v := .tmp 44) rfl rfl (w1 := (((w1.setCell ⟨gx, 0, none⟩ (.int .i64 x.f0)).setCell ⟨gx, 1, none⟩ (.int .u32 x.f1)).setCell ⟨gx, 2, none⟩ (.slice Ab x.f2.length cb))) ?hr ?_; (case hr => first | (go_simp; done) | (go_simp; rfl)); intro w2 hw_; have hb : Below wr.heap.size wr w2 := (by rw [hw_]; exact Below.setCell (Below.setCell (Below.setCell (Sgx.out) (show wr.heap.size ≤ gx from Nat.le_of_eq Egx.out.symm) _) (show wr.heap.size ≤ gx from Nat.le_of_eq Egx.out.symm) _) (show wr.heap.size ≤ gx from Nat.le_of_eq Egx.out.symm) _); have BX2 := Aside0.mk (show w2.heap[gx]? = some (.cells #[.int .i64 x.f0, .int .u32 x.f1, .slice Ab x.f2.length cb] 42 (0, 0)) by (rw [hw_]; exact putLe3_0_3 BX2a.out (.int .i64 x.f0) (.int .u32 x.f1) (.slice Ab x.f2.length cb))); clear hw_; have HL2 := Aside0.mk (HL0.out.below hb); have kb_ : KeepBut wr w2 g (some b) := kb_below (g := g) (b := b) hb; have HI2 := Aside0.mk (F_kb HI0.out kb_ (fun _ h_ => h_)); have HD2 := Aside0.mk (HD0.out.kb kb_ HOK.out HNB.out.1 HNB.out.2); have HW2 := Aside0.mk (F_kb HW0.out kb_ HOK.out); have HG2 := Aside0.mk (F_kb HG0.out kb_ (fun _ h_ => h_)); clear kb_; have HBXg := Aside0.mk (show w.heap.size ≤ gx from (by rw [Egx.out]; exact HL0.out.kb.1)); have NBX := Aside0.mk (show gx ≠ g ∧ gx ≠ b from ⟨by have h1_ := HCX.out.gw; have h2_ := HL0.out.kb.1; have h3_ := HBXg.out; omega, by have h1_ := HCX.out.bw; have h2_ := HL0.out.kb.1; have h3_ := HBXg.out; omega⟩); have zx2_0 := (blk_cell BX2.out 0).trans rfl; (try clear hb)))
   refine start_ (n := 7) (S := fun w' => (w'.heap[g]? = some (.cells #[.slice A Kc.length c, .map (some b)] 81 (0, 0))) ∧ w'.heap[gx]? = some (.cells #[.int .i64 x.f0, .int .u32 x.f1, .slice Ab x.f2.length cb] 42 (0, 0))) (ds := []) #[false, false, false, false, false, false, false] (by kernel_rfl) rfl rfl ⟨HL2.out.blk, BX2.out⟩ (fun hHeld => ?_)
   refine with_tabW stream_Stream_Learn.tab14 stream_Stream_Learn.bits14 (fun HT_ HW_ => ?_)
   have hb : Below w2.heap.size w2 w2.drew := below_drew (Below.refl _ _)
   have HL3 := Aside0.mk (HL2.out.below hb)
   have kb_ : KeepBut w2 w2.drew g (some b) := kb_below (g := g) (b := b) hb
   have HI3 := Aside0.mk (F_kb HI2.out kb_ (fun _ h_ => h_))
   have HD3 := Aside0.mk (HD2.out.kb kb_ HOK.out HNB.out.1 HNB.out.2)
   have HW3 := Aside0.mk (F_kb HW2.out kb_ HOK.out)
   have HG3 := Aside0.mk (F_kb HG2.out kb_ (fun _ h_ => h_))
   have BX3 := Aside0.mk (kb_.blk BX2.out NBX.out.1 (fun e__ => NBX.out.2 (Option.some.inj e__)))
   clear kb_
   clear hb
   generalize w2.drew = w3 at HL3 HI3 HD3 HW3 HG3 BX3 hHeld ⊢
   refine pure_ (i := 0) (N := some 45) (v := ?_) (a' := ?_) #[true, false, false, false, false, false, false] rfl rfl (any_of HT_.out (by kernel_rfl)) (fun _ _ _ h => h) (Or.inl ⟨by rfl, ?_⟩) ?_ ?_
   rotate_left
   ·
    intro w'
    go_simp
    with_reducible rfl
   rotate_left
   ·
    simp only [Act.put, List.setIfInBounds_toArray, List.set_cons_zero, List.set_cons_succ, i64_w, i32_w]
    rfl
   refine pure_ (i := 1) (N := some 46) (v := ?_) (a' := ?_) #[true, true, false, false, false, false, false] rfl rfl (any_of HT_.out (by kernel_rfl)) (fun _ _ _ h => h) (Or.inl ⟨by rfl, ?_⟩) ?_ ?_
   rotate_left
   ·
    intro w'
    go_simp
    with_reducible rfl
   rotate_left
   ·
    simp only [Act.put, List.setIfInBounds_toArray, List.set_cons_zero, List.set_cons_succ, i64_w, i32_w]
    rfl
   refine pure_ (i := 2) (N := some 47) (v := ?_) (a' := ?_) #[true, true, true, false, false, false, false] rfl rfl (any_of HT_.out (by kernel_rfl)) (fun _ _ _ h => h) (Or.inl ⟨by rfl, ?_⟩) ?_ ?_
   rotate_left
   ·
    intro w'
    go_simp
    with_reducible rfl
   rotate_left
   ·
    simp only [Act.put, List.setIfInBounds_toArray, List.set_cons_zero, List.set_cons_succ, i64_w, i32_w]
    rfl
   refine take_ (i := 3) (N := some 48) (v := ?_) (a' := ?_) #[true, true, true, true, false, false, false] rfl rfl (take_ofW HT_.out HW_.out (by kernel_rfl)) (fun _ _ _ h => h) (Or.inl ⟨by rfl, ?_⟩) hHeld ?_ ?_
   rotate_left
   ·
    rintro w' ⟨s0, s1⟩
    have q00_ := (blk_cell s0 0).trans rfl
    have q10_ := (blk_cell s1 0).trans rfl
    go_simp
    with_reducible rfl
   rotate_left
   ·
    simp only [Act.put, List.setIfInBounds_toArray, List.set_cons_zero, List.set_cons_succ, i64_w, i32_w]
    rfl
   refine pure_ (i := 4) (N := some 49) (v := ?_) (a' := ?_) #[true, true, true, true, true, false, false] rfl rfl (any_of HT_.out (by kernel_rfl)) (fun _ _ _ h => h) (Or.inl ⟨by rfl, ?_⟩) ?_ ?_
   rotate_left
   ·
    intro w'
    go_simp
    with_reducible rfl
   rotate_left
   ·
    simp only [Act.put, List.setIfInBounds_toArray, List.set_cons_zero, List.set_cons_succ, i64_w, i32_w]
    rfl
   refine take_ (i := 5) (N := some 50) (v := ?_) (a' := ?_) #[true, true, true, true, true, true, false] rfl rfl (take_ofW HT_.out HW_.out (by kernel_rfl)) (fun _ _ _ h => h) (Or.inl ⟨by rfl, ?_⟩) hHeld ?_ ?_
   rotate_left
   ·
    rintro w' ⟨s0, s1⟩
    have q00_ := (blk_cell s0 0).trans rfl
    have q10_ := (blk_cell s1 0).trans rfl
    go_simp
    with_reducible rfl
   rotate_left
   ·
    simp only [Act.put, List.setIfInBounds_toArray, List.set_cons_zero, List.set_cons_succ, i64_w, i32_w]
    rfl
   refine one_ (i := 6) (N := some 51) #[true, true, true, true, true, true, true] rfl rfl (one_of HT_.out (by kernel_rfl)) (by decide) (fun K hK => ?_)
   refine goes_ Try.func36 (by kernel_rfl) rfl #[.slice A Kc.length c, .int .i64 x.f0] (by rfl) rfl rfl (by (try simp only [List.map_toArray, List.map_cons, List.map_nil]); first | done | rfl | (simp only [List.length_drop, List.length_take]; rfl)) ?_
   refine (span_At.calls k A c Kc x.f0 a _ (Kd.F_now HL3.out.kn) HL3.out.cap HAT.out).mono ?_
   rintro e_ w4 ⟨rfl, hb⟩
   refine ⟨_, rfl, ?_⟩
   have HL4 := Aside0.mk (HL3.out.below hb)
   have kb_ : KeepBut w3 w4 g (some b) := kb_below (g := g) (b := b) hb
   have HI4 := Aside0.mk (F_kb HI3.out kb_ (fun _ h_ => h_))
   have HD4 := Aside0.mk (HD3.out.kb kb_ HOK.out HNB.out.1 HNB.out.2)
   have HW4 := Aside0.mk (F_kb HW3.out kb_ HOK.out)
   have HG4 := Aside0.mk (F_kb HG3.out kb_ (fun _ h_ => h_))
   have BX4 := Aside0.mk (kb_.blk BX3.out NBX.out.1 (fun e__ => NBX.out.2 (Option.some.inj e__)))
   clear kb_
   clear hb
   refine hK.out _ _ ⟨HL4.out.blk, BX4.out⟩ (fun hHeld => ?_)
   clear hK K
   refine norm_ (a' := ?_) ?_ ?_
   rotate_left
   ·
    show Act.put _ (some 51) _ = _
    simp only [Act.put, List.setIfInBounds_toArray, List.set_cons_zero, List.set_cons_succ, i64_w, i32_w]
    rfl
   refine done_ (done_of HT_.out (by kernel_rfl)) ?_
   have zx4_0 := (blk_cell BX4.out 0).trans rfl
   have zx4_1 := (blk_cell BX4.out 1).trans rfl
   have zx4_2 := (blk_cell BX4.out 2).trans rfl
   have zg4_0 := (blk_cell HL4.out.blk 0).trans rfl
   have zg4_1 := (blk_cell HL4.out.blk 1).trans rfl
   rcases Decidable.em (a = 0) with e1 | e1
   ·
    subst e1
    have h0 := HH.out
    rw [if_pos rfl] at h0
    obtain ⟨Kn, hj, ht⟩ := Option.bind_eq_some_iff.mp h0
    have HJ2 := Aside0.mk hj
    have HT := Aside0.mk ht
    clear h0 hj ht HH
    go_wp2_with (first | ((with_reducible refine gate_dst (N := 60) rfl ?_); refine Kd.R_lit k38 (w0 := w4) w4.heap.size 38 ?hg (N := 60) ?hd (xs := ([⟨x.f0, x.f0, 1⟩] : List S38)) (inner := [.int .i64 x.f0, .int .i64 x.f0, .int .i64 1]) (ok := fun _ => True) (okp := fun _ => True) ?hr ?hp (fun _ hk => hk) trivial (Below.refl _ _) (Nat.le_refl _) (by simp) ?_; (case hd => rfl); (case hg => rfl); (case hr => first | (go_simp; done) | (go_simp; rfl)); (case hp => exact (Reps.snoc (Reps.none _ _) (k38_mkM _ _ _ (⟨x.f0, x.f0, 1⟩ : S38)) rfl)); intro v3 w5 ho3 hb hg3 hnew3; have HL5 := Aside0.mk (HL4.out.below hb); have kb_ : KeepBut w4 w5 g (some b) := kb_below (g := g) (b := b) hb; have HI5 := Aside0.mk (F_kb HI4.out kb_ (fun _ h_ => h_)); have HD5 := Aside0.mk (HD4.out.kb kb_ HOK.out HNB.out.1 HNB.out.2); have HW5 := Aside0.mk (F_kb HW4.out kb_ HOK.out); have HG5 := Aside0.mk (F_kb HG4.out kb_ (fun _ h_ => h_)); have BX5 := Aside0.mk (kb_.blk BX4.out NBX.out.1 (fun e__ => NBX.out.2 (Option.some.inj e__))); clear kb_; have zg5_0 := (blk_cell HL5.out.blk 0).trans rfl; have zg5_1 := (blk_cell HL5.out.blk 1).trans rfl; obtain ⟨Al, cl_, el⟩ := Kd.R_slice ho3; subst el; have HLR := Aside0.mk (Kd.R_reads' ho3); clear ho3 hb hg3 hnew3) | ((with_reducible refine gate_dst (N := 61) rfl ?_); refine goesL_ (some 61) rfl rfl Try.func34 (by kernel_rfl) rfl #[.pointer (some ⟨g, 0, none⟩), .slice Al ([⟨x.f0, x.f0, 1⟩] : List S38).length cl_] rfl (by (try simp only [List.map_toArray, List.map_cons, List.map_nil]); first | done | rfl | (simp only [List.length_drop, List.length_take]; rfl)) ?_; refine (stream_Stream_join.calls k B g b A c Kc Al cl_ ([⟨x.f0, x.f0, 1⟩] : List S38) Kn _ HL5.out.blk (Kd.F_now HL5.out.kn) HL5.out.cap HLR.out.2.2 HLR.out.2.1 HJ2.out HCX.out.Bg (Nat.le_trans HCX.out.Bw HL5.out.kb.1)).mono ?_; rintro e_ w6 ⟨rfl, An, cn, hg2, ho, hk, hb⟩; refine ⟨_, rfl, ?_⟩; have HL6 := Aside0.mk (HL5.out.join hg2 ho hk hb); have kb_ : KeepBut w5 w6 g (some b) := kb_more hk; have HI6 := Aside0.mk (F_kb HI5.out kb_ (fun _ h_ => h_)); have HD6 := Aside0.mk (HD5.out.kb kb_ HOK.out HNB.out.1 HNB.out.2); have HW6 := Aside0.mk (F_kb HW5.out kb_ HOK.out); have HG6 := Aside0.mk (F_kb HG5.out kb_ (fun _ h_ => h_)); have BX6 := Aside0.mk (kb_.blk BX5.out NBX.out.1 (fun e__ => NBX.out.2 (Option.some.inj e__))); clear kb_; have zg6_0 := (blk_cell HL6.out.blk 0).trans rfl; have zg6_1 := (blk_cell HL6.out.blk 1).trans rfl; clear HLR; clear hg2 ho hk hb))
    refine start_ (n := 9) (S := fun w' => (w'.heap[g]? = some (.cells #[.slice An Kn.length cn, .map (some b)] 81 (0, 0))) ∧ w'.heap[gx]? = some (.cells #[.int .i64 x.f0, .int .u32 x.f1, .slice Ab x.f2.length cb] 42 (0, 0))) (ds := [8]) #[false, false, false, false, false, false, false, false, false] (by kernel_rfl) rfl rfl ⟨HL6.out.blk, BX6.out⟩ (fun hHeld => ?_)
    refine with_tabW stream_Stream_Learn.tab17 stream_Stream_Learn.bits17 (fun HT_ HW_ => ?_)
    have hb : Below w6.heap.size w6 w6.drew := below_drew (Below.refl _ _)
    have HL7 := Aside0.mk (HL6.out.below hb)
    have kb_ : KeepBut w6 w6.drew g (some b) := kb_below (g := g) (b := b) hb
    have HI7 := Aside0.mk (F_kb HI6.out kb_ (fun _ h_ => h_))
    have HD7 := Aside0.mk (HD6.out.kb kb_ HOK.out HNB.out.1 HNB.out.2)
    have HW7 := Aside0.mk (F_kb HW6.out kb_ HOK.out)
    have HG7 := Aside0.mk (F_kb HG6.out kb_ (fun _ h_ => h_))
    have BX7 := Aside0.mk (kb_.blk BX6.out NBX.out.1 (fun e__ => NBX.out.2 (Option.some.inj e__)))
    clear kb_
    clear hb
    generalize w6.drew = w7 at HL7 HI7 HD7 HW7 HG7 BX7 hHeld ⊢
    refine pure_ (i := 0) (N := some 62) (v := ?_) (a' := ?_) #[true, false, false, false, false, false, false, false, false] rfl rfl (any_of HT_.out (by kernel_rfl)) (fun _ _ _ h => h) (Or.inl ⟨by rfl, ?_⟩) ?_ ?_
    rotate_left
    ·
     intro w'
     go_simp
     with_reducible rfl
    rotate_left
    ·
     simp only [Act.put, List.setIfInBounds_toArray, List.set_cons_zero, List.set_cons_succ, i64_w, i32_w]
     rfl
    refine pure_ (i := 1) (N := some 63) (v := ?_) (a' := ?_) #[true, true, false, false, false, false, false, false, false] rfl rfl (any_of HT_.out (by kernel_rfl)) (fun _ _ _ h => h) (Or.inl ⟨by rfl, ?_⟩) ?_ ?_
    rotate_left
    ·
     intro w'
     go_simp
     with_reducible rfl
    rotate_left
    ·
     simp only [Act.put, List.setIfInBounds_toArray, List.set_cons_zero, List.set_cons_succ, i64_w, i32_w]
     rfl
    refine pure_ (i := 2) (N := some 64) (v := ?_) (a' := ?_) #[true, true, true, false, false, false, false, false, false] rfl rfl (any_of HT_.out (by kernel_rfl)) (fun _ _ _ h => h) (Or.inl ⟨by rfl, ?_⟩) ?_ ?_
    rotate_left
    ·
     intro w'
     go_simp
     with_reducible rfl
    rotate_left
    ·
     simp only [Act.put, List.setIfInBounds_toArray, List.set_cons_zero, List.set_cons_succ, i64_w, i32_w]
     rfl
    refine take_ (i := 3) (N := some 65) (v := ?_) (a' := ?_) #[true, true, true, true, false, false, false, false, false] rfl rfl (take_ofW HT_.out HW_.out (by kernel_rfl)) (fun _ _ _ h => h) (Or.inl ⟨by rfl, ?_⟩) hHeld ?_ ?_
    rotate_left
    ·
     rintro w' ⟨s0, s1⟩
     have q01_ := (blk_cell s0 1).trans rfl
     have q10_ := (blk_cell s1 0).trans rfl
     have q11_ := (blk_cell s1 1).trans rfl
     have q12_ := (blk_cell s1 2).trans rfl
     go_simp
     with_reducible rfl
    rotate_left
    ·
     simp only [Act.put, List.setIfInBounds_toArray, List.set_cons_zero, List.set_cons_succ, i64_w, i32_w]
     rfl
    refine pure_ (i := 4) (N := some 66) (v := ?_) (a' := ?_) #[true, true, true, true, true, false, false, false, false] rfl rfl (any_of HT_.out (by kernel_rfl)) (fun _ _ _ h => h) (Or.inl ⟨by rfl, ?_⟩) ?_ ?_
    rotate_left
    ·
     intro w'
     go_simp
     with_reducible rfl
    rotate_left
    ·
     simp only [Act.put, List.setIfInBounds_toArray, List.set_cons_zero, List.set_cons_succ, i64_w, i32_w]
     rfl
    refine take_ (i := 5) (N := some 67) (v := ?_) (a' := ?_) #[true, true, true, true, true, true, false, false, false] rfl rfl (take_ofW HT_.out HW_.out (by kernel_rfl)) (fun _ _ _ h => h) (Or.inl ⟨by rfl, ?_⟩) hHeld ?_ ?_
    rotate_left
    ·
     rintro w' ⟨s0, s1⟩
     have q01_ := (blk_cell s0 1).trans rfl
     have q10_ := (blk_cell s1 0).trans rfl
     have q11_ := (blk_cell s1 1).trans rfl
     have q12_ := (blk_cell s1 2).trans rfl
     go_simp
     with_reducible rfl
    rotate_left
    ·
     simp only [Act.put, List.setIfInBounds_toArray, List.set_cons_zero, List.set_cons_succ, i64_w, i32_w]
     rfl
    refine take_ (i := 6) (N := some 68) (v := ?_) (a' := ?_) #[true, true, true, true, true, true, true, false, false] rfl rfl (take_ofW HT_.out HW_.out (by kernel_rfl)) (fun _ _ _ h => h) (Or.inl ⟨by rfl, ?_⟩) hHeld ?_ ?_
    rotate_left
    ·
     rintro w' ⟨s0, s1⟩
     have q01_ := (blk_cell s0 1).trans rfl
     have q10_ := (blk_cell s1 0).trans rfl
     have q11_ := (blk_cell s1 1).trans rfl
     have q12_ := (blk_cell s1 2).trans rfl
     go_simp
     with_reducible rfl
    rotate_left
    ·
     simp only [Act.put, List.setIfInBounds_toArray, List.set_cons_zero, List.set_cons_succ, i64_w, i32_w]
     rfl
    refine one_ (i := 7) (N := some 69) #[true, true, true, true, true, true, true, true, false] rfl rfl (one_of HT_.out (by kernel_rfl)) (by decide) (fun K hK => ?_)
    refine goes_ Try.func37 (by kernel_rfl) rfl #[.agg #[.int .i64 x.f0, .int .u32 x.f1, .slice Ab x.f2.length cb]] (by rfl) rfl rfl (by (try simp only [List.map_toArray, List.map_cons, List.map_nil]); first | done | rfl | (simp only [List.length_drop, List.length_take]; rfl)) ?_
    refine (stream_copied.calls x.f0 x.f1 Ab cb x.f2 x.f0 x.f1 x.f2 _ (Kd.F_now HG7.out) HCB.out HWF.out.2.2).mono ?_
    rintro e_ w8 ⟨v_, rfl, ho, hb⟩
    refine ⟨_, rfl, ?_⟩
    have HL8 := Aside0.mk (HL7.out.below hb)
    have kb_ : KeepBut w7 w8 g (some b) := kb_below (g := g) (b := b) hb
    have HI8 := Aside0.mk (F_kb HI7.out kb_ (fun _ h_ => h_))
    have HD8 := Aside0.mk (HD7.out.kb kb_ HOK.out HNB.out.1 HNB.out.2)
    have HW8 := Aside0.mk (F_kb HW7.out kb_ HOK.out)
    have HG8 := Aside0.mk (F_kb HG7.out kb_ (fun _ h_ => h_))
    have BX8 := Aside0.mk (kb_.blk BX7.out NBX.out.1 (fun e__ => NBX.out.2 (Option.some.inj e__)))
    clear kb_
    obtain ⟨Ay, cy, e1⟩ := Kd.R_slice ho
    subst e1
    have HCY := Aside0.mk (Kd.R_reads' ho).2.1
    have HY := Aside0.mk (Kd.F_mono (Kd.R_F (Kd.R_mono (Kd.R_bound ho) (ok' := fun k_ => w7.heap.size ≤ k_) (fun _ h_ => h_.2.1))) (ok' := ok) (fun k_ h_ => HCX.out.new k_ (Nat.le_trans HL7.out.kb.1 h_)))
    clear hb ho
    refine hK.out _ _ ⟨HL8.out.blk, BX8.out⟩ (fun hHeld => ?_)
    clear hK K
    refine norm_ (a' := ?_) ?_ ?_
    rotate_left
    ·
     show Act.put _ (some 69) _ = _
     simp only [Act.put, List.setIfInBounds_toArray, List.set_cons_zero, List.set_cons_succ, i64_w, i32_w]
     rfl
    obtain ⟨w9, hrun, hm, hg_⟩ := MapS.put HL8.out.map (Nat.lt_trans HWF.out.2.1 (by decide)) (x := x) (A := Ay) (c := cy) HWF.out.1 HCY.out (HY.out) (fun k_ hk_ => (HOK.out k_ hk_).2)
    refine last_ (i := 8) (N := none) #[true, true, true, true, true, true, true, true, true] rfl rfl (one_of HT_.out (by kernel_rfl)) (by decide) (fun K hK => ?_)
    refine skip_ (w1 := w9) (by rfl) rfl ?_ ?_
    ·
     simp [execOp, Act.eval, hrun, Result.andThen]
    have HL9 := Aside0.mk (HL8.out.put hm hg_)
    have kb_ : KeepBut w8 w9 g (some b) := KeepBut.of_grown hg_ g
    have HI9 := Aside0.mk (F_kb HI8.out kb_ (fun _ h_ => h_))
    have HD9 := Aside0.mk (HD8.out.kb kb_ HOK.out HNB.out.1 HNB.out.2)
    have HW9 := Aside0.mk (F_kb HW8.out kb_ HOK.out)
    have HG9 := Aside0.mk (F_kb HG8.out kb_ (fun _ h_ => h_))
    have BX9 := Aside0.mk (kb_.blk BX8.out NBX.out.1 (fun e__ => NBX.out.2 (Option.some.inj e__)))
    clear kb_
    clear hrun hm hg_
    refine hK.out _ _ ?_
    clear hK K
    refine done_ (done_of HT_.out (by kernel_rfl)) ?_
    go_wp2
    cases gk with
    | zero => exact absurd HQ0.out (by have h1_ := HLT.out; omega)
    | succ k2 =>
     go_roundg k2
     case measure => omega
     case rel => exact ⟨i + 1, An, cn, Kn, _, (by have h1_ := HLT.out; have h3_ := HLE.out.1; have h4_ := HFIT.out; first | rfl | (rw [show wrap64 (i + 1) = i + 1 by (unfold wrap64; omega)])), ⟨by have h1_ := HQ0.out; have h2_ := HLE.out.1; omega⟩, ⟨by have h2_ := HLE.out.1; omega, by have h1_ := HLT.out; have h2_ := HLE.out.1; omega⟩, ⟨by rw [show (i + 1).toNat = i.toNat + 1 by (have h2_ := HLE.out.1; omega)]; exact HT.out⟩, HL9, HI9, HD9, HW9⟩
   rcases Decidable.em (a = 1) with e2 | e2
   ·
    subst e2
    have h0 := HH.out
    rw [if_neg e1, if_pos rfl] at h0
    obtain ⟨⟨y0, y1, y2⟩, hy, ht⟩ := Option.bind_eq_some_iff.mp h0
    have ey := (getI_some hy).2
    obtain rfl : y0 = x.f0 := ey
    have HGY := Aside0.mk hy
    have HT := Aside0.mk ht
    clear h0 hy ht HH e1
    obtain ⟨DM, hDM, hXM⟩ := HL4.out.map
    obtain ⟨v_, ⟨Ay, cy, rfl, hcy, hFy⟩, hat⟩ := hXM.get HGY.out
    have hlk : ∀ W', W'.heap[b]? = w4.heap[b]? → (Instr.lookup 79 (.map (some b)) (.int .i64 x.f0) false).run Try.prog W' = .ok (.agg #[.int .i64 x.f0, .int .u32 y1, .slice Ay y2.length cy]) W' := fun W' hb_ => look_at hDM HWF.out.1 hat hb_
    have HLK := Aside0.mk hlk
    have HCY := Aside0.mk (show y2.length ≤ cy from hcy)
    have HY4 := Aside0.mk (show Kd.F (Kd.int .u8) w4 ok Ay y2.length y2 from hFy)
    clear hDM hXM hcy hFy hat hlk
    go_wp2
    refine start_ (n := 9) (S := fun w' => (w'.heap[g]? = some (.cells #[.slice A Kc.length c, .map (some b)] 81 (0, 0))) ∧ w'.heap[gx]? = some (.cells #[.int .i64 x.f0, .int .u32 x.f1, .slice Ab x.f2.length cb] 42 (0, 0)) ∧ w'.heap[b]? = w4.heap[b]?) (ds := [8]) #[false, false, false, false, false, false, false, false, false] (by kernel_rfl) rfl rfl ⟨HL4.out.blk, BX4.out, rfl⟩ (fun hHeld => ?_)
    refine with_tabW stream_Stream_Learn.tab19 stream_Stream_Learn.bits19 (fun HT_ HW_ => ?_)
    have HBS5 := Aside0.mk (show w4.drew.heap[b]? = w4.heap[b]? from rfl)
    have hb : Below w4.heap.size w4 w4.drew := below_drew (Below.refl _ _)
    have HL5 := Aside0.mk (HL4.out.below hb)
    have kb_ : KeepBut w4 w4.drew g (some b) := kb_below (g := g) (b := b) hb
    have HI5 := Aside0.mk (F_kb HI4.out kb_ (fun _ h_ => h_))
    have HD5 := Aside0.mk (HD4.out.kb kb_ HOK.out HNB.out.1 HNB.out.2)
    have HW5 := Aside0.mk (F_kb HW4.out kb_ HOK.out)
    have HG5 := Aside0.mk (F_kb HG4.out kb_ (fun _ h_ => h_))
    have BX5 := Aside0.mk (kb_.blk BX4.out NBX.out.1 (fun e__ => NBX.out.2 (Option.some.inj e__)))
    have HY5 := Aside0.mk (F_kb HY4.out kb_ HOK.out)
    clear kb_
    clear hb
    generalize w4.drew = w5 at HL5 HI5 HD5 HW5 HG5 BX5 HY5 HBS5 hHeld ⊢
    refine pure_ (i := 0) (N := some 72) (v := ?_) (a' := ?_) #[true, false, false, false, false, false, false, false, false] rfl rfl (any_of HT_.out (by kernel_rfl)) (fun _ _ _ h => h) (Or.inl ⟨by rfl, ?_⟩) ?_ ?_
    rotate_left
    ·
     intro w'
     go_simp
     with_reducible rfl
    rotate_left
    ·
     simp only [Act.put, List.setIfInBounds_toArray, List.set_cons_zero, List.set_cons_succ, i64_w, i32_w]
     rfl
    refine pure_ (i := 1) (N := some 73) (v := ?_) (a' := ?_) #[true, true, false, false, false, false, false, false, false] rfl rfl (any_of HT_.out (by kernel_rfl)) (fun _ _ _ h => h) (Or.inl ⟨by rfl, ?_⟩) ?_ ?_
    rotate_left
    ·
     intro w'
     go_simp
     with_reducible rfl
    rotate_left
    ·
     simp only [Act.put, List.setIfInBounds_toArray, List.set_cons_zero, List.set_cons_succ, i64_w, i32_w]
     rfl
    refine pure_ (i := 2) (N := some 74) (v := ?_) (a' := ?_) #[true, true, true, false, false, false, false, false, false] rfl rfl (any_of HT_.out (by kernel_rfl)) (fun _ _ _ h => h) (Or.inl ⟨by rfl, ?_⟩) ?_ ?_
    rotate_left
    ·
     intro w'
     go_simp
     with_reducible rfl
    rotate_left
    ·
     simp only [Act.put, List.setIfInBounds_toArray, List.set_cons_zero, List.set_cons_succ, i64_w, i32_w]
     rfl
    refine take_ (i := 3) (N := some 75) (v := ?_) (a' := ?_) #[true, true, true, true, false, false, false, false, false] rfl rfl (take_ofW HT_.out HW_.out (by kernel_rfl)) (fun _ _ _ h => h) (Or.inl ⟨by rfl, ?_⟩) hHeld ?_ ?_
    rotate_left
    ·
     rintro w' ⟨s0, s1, s2⟩
     have q01_ := (blk_cell s0 1).trans rfl
     have q10_ := (blk_cell s1 0).trans rfl
     go_simp
     with_reducible rfl
    rotate_left
    ·
     simp only [Act.put, List.setIfInBounds_toArray, List.set_cons_zero, List.set_cons_succ, i64_w, i32_w]
     rfl
    refine pure_ (i := 4) (N := some 76) (v := ?_) (a' := ?_) #[true, true, true, true, true, false, false, false, false] rfl rfl (any_of HT_.out (by kernel_rfl)) (fun _ _ _ h => h) (Or.inl ⟨by rfl, ?_⟩) ?_ ?_
    rotate_left
    ·
     intro w'
     go_simp
     with_reducible rfl
    rotate_left
    ·
     simp only [Act.put, List.setIfInBounds_toArray, List.set_cons_zero, List.set_cons_succ, i64_w, i32_w]
     rfl
    refine take_ (i := 5) (N := some 77) (v := ?_) (a' := ?_) #[true, true, true, true, true, true, false, false, false] rfl rfl (take_ofW HT_.out HW_.out (by kernel_rfl)) (fun _ _ _ h => h) (Or.inl ⟨by rfl, ?_⟩) hHeld ?_ ?_
    rotate_left
    ·
     rintro w' ⟨s0, s1, s2⟩
     have q01_ := (blk_cell s0 1).trans rfl
     have q10_ := (blk_cell s1 0).trans rfl
     go_simp
     with_reducible rfl
    rotate_left
    ·
     simp only [Act.put, List.setIfInBounds_toArray, List.set_cons_zero, List.set_cons_succ, i64_w, i32_w]
     rfl
    refine take_ (i := 6) (N := some 78) (v := ?_) (a' := ?_) #[true, true, true, true, true, true, true, false, false] rfl rfl (take_ofW HT_.out HW_.out (by kernel_rfl)) (fun _ _ _ h => h) (Or.inl ⟨by rfl, ?_⟩) hHeld ?_ ?_
    rotate_left
    ·
     rintro w' ⟨s0, s1, s2⟩
     have hl_ := HLK.out _ s2
     go_simp
     with_reducible rfl
    rotate_left
    ·
     simp only [Act.put, List.setIfInBounds_toArray, List.set_cons_zero, List.set_cons_succ, i64_w, i32_w]
     rfl
    refine one_ (i := 7) (N := some 11) #[true, true, true, true, true, true, true, true, false] rfl rfl (one_of HT_.out (by kernel_rfl)) (by decide) (fun K hK => ?_)
    refine value_ (w1 := (w5.alloc (.cells #[.int .i64 0, .int .u32 0, .slice none 0 0] 42))) (v := .pointer (some ⟨w5.heap.size, 0, none⟩)) (by rfl) rfl ?_ ?_
    ·
     go_simp
    refine hK.out _ _ ⟨blk_alloc HL5.out.blk _, blk_alloc BX5.out _, (heap_alloc_old _ _ HL5.out.map.lt).trans HBS5.out⟩ (fun hHeld => ?_)
    clear hK K
    refine norm_ (a' := ?_) ?_ ?_
    rotate_left
    ·
     show Act.put _ (some 11) _ = _
     simp only [Act.put, List.setIfInBounds_toArray, List.set_cons_zero, List.set_cons_succ, i64_w, i32_w]
     rfl
    refine last_ (i := 8) (N := none) #[true, true, true, true, true, true, true, true, true] rfl rfl (one_of HT_.out (by kernel_rfl)) (by decide) (fun K hK => ?_)
    refine skip_ (w1 := ((((w5.alloc (.cells #[.int .i64 0, .int .u32 0, .slice none 0 0] 42)).setCell ⟨w5.heap.size, 0, none⟩ (.int .i64 x.f0)).setCell ⟨w5.heap.size, 1, none⟩ (.int .u32 y1)).setCell ⟨w5.heap.size, 2, none⟩ (.slice Ay y2.length cy))) (by rfl) rfl ?_ ?_
    ·
     go_simp
    obtain ⟨w6, hw_⟩ : ∃ W', W' = ((((w5.alloc (.cells #[.int .i64 0, .int .u32 0, .slice none 0 0] 42)).setCell ⟨w5.heap.size, 0, none⟩ (.int .i64 x.f0)).setCell ⟨w5.heap.size, 1, none⟩ (.int .u32 y1)).setCell ⟨w5.heap.size, 2, none⟩ (.slice Ay y2.length cy)) := ⟨_, rfl⟩
    rw [← hw_]
    have hbk : Below w5.heap.size w5 w6 := (by rw [hw_]; exact Below.setCell (Below.setCell (Below.setCell (below_alloc (Below.refl _ _) _) (Nat.le_refl _) _) (Nat.le_refl _) _) (Nat.le_refl _) _)
    have BK6 := Aside0.mk (show w6.heap[w5.heap.size]? = some (.cells #[.int .i64 x.f0, .int .u32 y1, .slice Ay y2.length cy] 42 (0, 0)) by (rw [hw_]; exact putLe3_0_3 (heap_alloc_new _ _) (.int .i64 x.f0) (.int .u32 y1) (.slice Ay y2.length cy)))
    clear hw_
    have HBK := Aside0.mk hbk
    have BX6 := Aside0.mk (blk_below BX5.out hbk)
    clear hbk
    refine hK.out _ _ ?_
    clear hK K
    refine done_ (done_of HT_.out (by kernel_rfl)) ?_
    obtain ⟨gy, hgy⟩ : ∃ q, q = w5.heap.size := ⟨_, rfl⟩
    rw [← hgy] at BK6 ⊢
    have HGY2 := Aside0.mk hgy
    clear hgy
    have zx6_1 := (blk_cell BX6.out 1).trans rfl
    have zk6_1 := (blk_cell BK6.out 1).trans rfl
    have fk6_1 := blk_frozen BK6.out 1
    go_wp2_with (first | ((with_reducible refine gate_store (t := 39) (p := 84) (v := .tmp 83) rfl ?_); refine store_event rfl (t := 39) (p := 84) (v := .tmp 83) rfl rfl (w1 := w6.setCell ⟨gy, 1, none⟩ (.int .u32 (bits .or .u32 y1 x.f1))) ?hr ?_; (case hr => first | (go_simp; done) | (go_simp; rfl)); intro w7 hw_; have hb : Below w5.heap.size w5 w7 := (by rw [hw_]; exact HBK.out.setCell (Nat.le_of_eq HGY2.out.symm) _); have BK7 := Aside0.mk (show w7.heap[gy]? = some (.cells #[.int .i64 x.f0, .int .u32 (bits .or .u32 y1 x.f1), .slice Ay y2.length cy] 42 (0, 0)) by (rw [hw_]; exact blk_put BK6.out 1 _ rfl)); clear hw_; have HL7 := Aside0.mk (HL5.out.below hb); have kb_ : KeepBut w5 w7 g (some b) := kb_below (g := g) (b := b) hb; have HI7 := Aside0.mk (F_kb HI5.out kb_ (fun _ h_ => h_)); have HD7 := Aside0.mk (HD5.out.kb kb_ HOK.out HNB.out.1 HNB.out.2); have HW7 := Aside0.mk (F_kb HW5.out kb_ HOK.out); have HG7 := Aside0.mk (F_kb HG5.out kb_ (fun _ h_ => h_)); have BX7 := Aside0.mk (kb_.blk BX5.out NBX.out.1 (fun e__ => NBX.out.2 (Option.some.inj e__))); have HY7 := Aside0.mk (F_kb HY5.out kb_ HOK.out); clear kb_; have zx7_0 := (blk_cell BX7.out 0).trans rfl; clear hb))
    have NBK := Aside0.mk (show gy ≠ g ∧ gy ≠ b from ⟨by have h1_ := HCX.out.gw; have h2_ := HL5.out.kb.1; have h3_ := HGY2.out; omega, by have h1_ := HCX.out.bw; have h2_ := HL5.out.kb.1; have h3_ := HGY2.out; omega⟩)
    refine start_ (n := 8) (S := fun w' => (w'.heap[g]? = some (.cells #[.slice A Kc.length c, .map (some b)] 81 (0, 0))) ∧ w'.heap[gx]? = some (.cells #[.int .i64 x.f0, .int .u32 x.f1, .slice Ab x.f2.length cb] 42 (0, 0)) ∧ w'.heap[gy]? = some (.cells #[.int .i64 x.f0, .int .u32 (bits .or .u32 y1 x.f1), .slice Ay y2.length cy] 42 (0, 0))) (ds := [7]) #[false, false, false, false, false, false, false, false] (by kernel_rfl) rfl rfl ⟨HL7.out.blk, BX7.out, BK7.out⟩ (fun hHeld => ?_)
    refine with_tabW stream_Stream_Learn.tab21 stream_Stream_Learn.bits21 (fun HT_ HW_ => ?_)
    have hb : Below w7.heap.size w7 w7.drew := below_drew (Below.refl _ _)
    have HL8 := Aside0.mk (HL7.out.below hb)
    have kb_ : KeepBut w7 w7.drew g (some b) := kb_below (g := g) (b := b) hb
    have HI8 := Aside0.mk (F_kb HI7.out kb_ (fun _ h_ => h_))
    have HD8 := Aside0.mk (HD7.out.kb kb_ HOK.out HNB.out.1 HNB.out.2)
    have HW8 := Aside0.mk (F_kb HW7.out kb_ HOK.out)
    have HG8 := Aside0.mk (F_kb HG7.out kb_ (fun _ h_ => h_))
    have BX8 := Aside0.mk (kb_.blk BX7.out NBX.out.1 (fun e__ => NBX.out.2 (Option.some.inj e__)))
    have HY8 := Aside0.mk (F_kb HY7.out kb_ HOK.out)
    have BK8 := Aside0.mk (kb_.blk BK7.out NBK.out.1 (fun e__ => NBK.out.2 (Option.some.inj e__)))
    clear kb_
    clear hb
    generalize w7.drew = w8 at HL8 HI8 HD8 HW8 HG8 BX8 HY8 BK8 hHeld ⊢
    refine pure_ (i := 0) (N := some 85) (v := ?_) (a' := ?_) #[true, false, false, false, false, false, false, false] rfl rfl (any_of HT_.out (by kernel_rfl)) (fun _ _ _ h => h) (Or.inl ⟨by rfl, ?_⟩) ?_ ?_
    rotate_left
    ·
     intro w'
     go_simp
     with_reducible rfl
    rotate_left
    ·
     simp only [Act.put, List.setIfInBounds_toArray, List.set_cons_zero, List.set_cons_succ, i64_w, i32_w]
     rfl
    refine pure_ (i := 1) (N := some 86) (v := ?_) (a' := ?_) #[true, true, false, false, false, false, false, false] rfl rfl (any_of HT_.out (by kernel_rfl)) (fun _ _ _ h => h) (Or.inl ⟨by rfl, ?_⟩) ?_ ?_
    rotate_left
    ·
     intro w'
     go_simp
     with_reducible rfl
    rotate_left
    ·
     simp only [Act.put, List.setIfInBounds_toArray, List.set_cons_zero, List.set_cons_succ, i64_w, i32_w]
     rfl
    refine pure_ (i := 2) (N := some 87) (v := ?_) (a' := ?_) #[true, true, true, false, false, false, false, false] rfl rfl (any_of HT_.out (by kernel_rfl)) (fun _ _ _ h => h) (Or.inl ⟨by rfl, ?_⟩) ?_ ?_
    rotate_left
    ·
     intro w'
     go_simp
     with_reducible rfl
    rotate_left
    ·
     simp only [Act.put, List.setIfInBounds_toArray, List.set_cons_zero, List.set_cons_succ, i64_w, i32_w]
     rfl
    refine take_ (i := 3) (N := some 88) (v := ?_) (a' := ?_) #[true, true, true, true, false, false, false, false] rfl rfl (take_ofW HT_.out HW_.out (by kernel_rfl)) (fun _ _ _ h => h) (Or.inl ⟨by rfl, ?_⟩) hHeld ?_ ?_
    rotate_left
    ·
     rintro w' ⟨s0, s1, s2⟩
     have q20_ := (blk_cell s2 0).trans rfl
     have q21_ := (blk_cell s2 1).trans rfl
     have q22_ := (blk_cell s2 2).trans rfl
     have q01_ := (blk_cell s0 1).trans rfl
     have q10_ := (blk_cell s1 0).trans rfl
     have q11_ := (blk_cell s1 1).trans rfl
     have q12_ := (blk_cell s1 2).trans rfl
     go_simp
     with_reducible rfl
    rotate_left
    ·
     simp only [Act.put, List.setIfInBounds_toArray, List.set_cons_zero, List.set_cons_succ, i64_w, i32_w]
     rfl
    refine pure_ (i := 4) (N := some 89) (v := ?_) (a' := ?_) #[true, true, true, true, true, false, false, false] rfl rfl (any_of HT_.out (by kernel_rfl)) (fun _ _ _ h => h) (Or.inl ⟨by rfl, ?_⟩) ?_ ?_
    rotate_left
    ·
     intro w'
     go_simp
     with_reducible rfl
    rotate_left
    ·
     simp only [Act.put, List.setIfInBounds_toArray, List.set_cons_zero, List.set_cons_succ, i64_w, i32_w]
     rfl
    refine take_ (i := 5) (N := some 90) (v := ?_) (a' := ?_) #[true, true, true, true, true, true, false, false] rfl rfl (take_ofW HT_.out HW_.out (by kernel_rfl)) (fun _ _ _ h => h) (Or.inl ⟨by rfl, ?_⟩) hHeld ?_ ?_
    rotate_left
    ·
     rintro w' ⟨s0, s1, s2⟩
     have q20_ := (blk_cell s2 0).trans rfl
     have q21_ := (blk_cell s2 1).trans rfl
     have q22_ := (blk_cell s2 2).trans rfl
     have q01_ := (blk_cell s0 1).trans rfl
     have q10_ := (blk_cell s1 0).trans rfl
     have q11_ := (blk_cell s1 1).trans rfl
     have q12_ := (blk_cell s1 2).trans rfl
     go_simp
     with_reducible rfl
    rotate_left
    ·
     simp only [Act.put, List.setIfInBounds_toArray, List.set_cons_zero, List.set_cons_succ, i64_w, i32_w]
     rfl
    refine take_ (i := 6) (N := some 91) (v := ?_) (a' := ?_) #[true, true, true, true, true, true, true, false] rfl rfl (take_ofW HT_.out HW_.out (by kernel_rfl)) (fun _ _ _ h => h) (Or.inl ⟨by rfl, ?_⟩) hHeld ?_ ?_
    rotate_left
    ·
     rintro w' ⟨s0, s1, s2⟩
     have q20_ := (blk_cell s2 0).trans rfl
     have q21_ := (blk_cell s2 1).trans rfl
     have q22_ := (blk_cell s2 2).trans rfl
     have q01_ := (blk_cell s0 1).trans rfl
     have q10_ := (blk_cell s1 0).trans rfl
     have q11_ := (blk_cell s1 1).trans rfl
     have q12_ := (blk_cell s1 2).trans rfl
     go_simp
     with_reducible rfl
    rotate_left
    ·
     simp only [Act.put, List.setIfInBounds_toArray, List.set_cons_zero, List.set_cons_succ, i64_w, i32_w]
     rfl
    obtain ⟨w9, hrun, hm, hg_⟩ := MapS.put HL8.out.map (Nat.lt_trans HWF.out.2.1 (by decide)) (x := (⟨x.f0, bits .or .u32 y1 x.f1, y2⟩ : S42)) (A := Ay) (c := cy) HWF.out.1 HCY.out (HY8.out) (fun k_ hk_ => (HOK.out k_ hk_).2)
    refine last_ (i := 7) (N := none) #[true, true, true, true, true, true, true, true] rfl rfl (one_of HT_.out (by kernel_rfl)) (by decide) (fun K hK => ?_)
    refine skip_ (w1 := w9) (by rfl) rfl ?_ ?_
    ·
     simp [execOp, Act.eval, hrun, Result.andThen]
    have HL9 := Aside0.mk (HL8.out.put hm hg_)
    have kb_ : KeepBut w8 w9 g (some b) := KeepBut.of_grown hg_ g
    have HI9 := Aside0.mk (F_kb HI8.out kb_ (fun _ h_ => h_))
    have HD9 := Aside0.mk (HD8.out.kb kb_ HOK.out HNB.out.1 HNB.out.2)
    have HW9 := Aside0.mk (F_kb HW8.out kb_ HOK.out)
    have HG9 := Aside0.mk (F_kb HG8.out kb_ (fun _ h_ => h_))
    have BX9 := Aside0.mk (kb_.blk BX8.out NBX.out.1 (fun e__ => NBX.out.2 (Option.some.inj e__)))
    have HY9 := Aside0.mk (F_kb HY8.out kb_ HOK.out)
    have BK9 := Aside0.mk (kb_.blk BK8.out NBK.out.1 (fun e__ => NBK.out.2 (Option.some.inj e__)))
    clear kb_
    clear hrun hm hg_
    refine hK.out _ _ ?_
    clear hK K
    refine done_ (done_of HT_.out (by kernel_rfl)) ?_
    go_wp2
    cases gk with
    | zero => exact absurd HQ0.out (by have h1_ := HLT.out; omega)
    | succ k2 =>
     go_roundg k2
     case measure => omega
     case rel => exact ⟨i + 1, A, c, Kc, _, (by have h1_ := HLT.out; have h3_ := HLE.out.1; have h4_ := HFIT.out; first | rfl | (rw [show wrap64 (i + 1) = i + 1 by (unfold wrap64; omega)])), ⟨by have h1_ := HQ0.out; have h2_ := HLE.out.1; omega⟩, ⟨by have h2_ := HLE.out.1; omega, by have h1_ := HLT.out; have h2_ := HLE.out.1; omega⟩, ⟨by rw [show (i + 1).toNat = i.toNat + 1 by (have h2_ := HLE.out.1; omega)]; exact HT.out⟩, HL9, HI9, HD9, HW9⟩
   have r1 : (a == 0) = false := (by simpa using e1)
   have r2 : (a == 1) = false := (by simpa using e2)
   have HT := Aside0.mk HH.out
   rw [if_neg e1, if_neg e2] at HT
   clear e1 e2
   go_wp2
   cases gk with
   | zero => exact absurd HQ0.out (by have h1_ := HLT.out; omega)
   | succ k2 =>
    go_roundg k2
    case measure => omega
    case rel => exact ⟨i + 1, A, c, Kc, Xc, (by have h1_ := HLT.out; have h3_ := HLE.out.1; have h4_ := HFIT.out; first | rfl | (rw [show wrap64 (i + 1) = i + 1 by (unfold wrap64; omega)])), ⟨by have h1_ := HQ0.out; have h2_ := HLE.out.1; omega⟩, ⟨by have h2_ := HLE.out.1; omega, by have h1_ := HLT.out; have h2_ := HLE.out.1; omega⟩, ⟨by rw [show (i + 1).toNat = i.toNat + 1 by (have h2_ := HLE.out.1; omega)]; exact HT.out⟩, HL4, HI4, HD4, HW4⟩
  have hi : i.toNat = l7.length := Nat.le_antisymm HLE.out.2 hge
  have ql : (i < (l7.length : Int)) = False := eq_false (by have h1_ := HLE.out.1; omega)
  have h0 := HIT0.out
  rw [hi, List.drop_length, itemsF] at h0
  simp only [Option.some.injEq, Prod.mk.injEq] at h0
  obtain ⟨rfl, rfl⟩ := h0
  clear hi hge
  have zg0_0 := (blk_cell HL0.out.blk 0).trans rfl
  have zg0_1 := (blk_cell HL0.out.blk 1).trans rfl
  go_wp2
  go_loopg [] 1 (fun kq w' => Aside0 (LS B g b w ok w' Kc A c Xc) ∧ Aside0 (MapS w' b2 ok X) ∧ Aside0 (Kd.F k38 w' ok A0 K.length K))
  case atStart => exact ⟨HL0, HD0, HW0⟩
  case round =>
   clear zg0_0 zg0_1 ql HL0 HD0 HW0 HIT0 HI0
   obtain ⟨HL0, HD0, HW0⟩ := hrel
   have zg0_0 := (blk_cell HL0.out.blk 0).trans rfl
   have zg0_1 := (blk_cell HL0.out.blk 1).trans rfl
   have hlen := HL0.out.map.len
   have q64 : ((64 : Int) < (Xc.length : Int)) = False := eq_false (by have := H64.out; omega)
   rcases q with _ | _
   ·
    have HEQ2 := HEQ
    go_wp2_with (first | ((with_reducible refine gate_dst (N := 113) rfl ?_); (try (refine gate_guard (by rfl) ?_; dsimp only)); refine goesL_ (some 113) rfl rfl Try.func42 (by kernel_rfl) rfl #[.slice A0 K.length c0, .slice A Kc.length c] rfl (by (try simp only [List.map_toArray, List.map_cons, List.map_nil]); first | done | rfl | (simp only [List.length_drop, List.length_take]; rfl)) ?_; refine (api_Span_42.calls k A0 c0 K A c Kc false _ (Kd.F_now HW0.out) HC0.out (Kd.F_now HL0.out.kn) HL0.out.cap HEQ2.out).mono ?_; rintro e_ w1 ⟨rfl, hd_⟩; refine ⟨_, rfl, ?_⟩; have hb := hd_.below; have HL1 := Aside0.mk (HL0.out.below hb); have HD1 := Aside0.mk (HD0.out.below hb); have zg1_0 := (blk_cell HL1.out.blk 0).trans rfl; have zg1_1 := (blk_cell HL1.out.blk 1).trans rfl; clear hb hd_) | (refine skip_guard (by rfl) ?_))
    go_ret2
    exact ⟨by rw [← HRR.out]; rfl, A, c, HL1.out⟩
   have HEQ2 := HEQ
   go_wp2_with (first | ((with_reducible refine gate_dst (N := 113) rfl ?_); (try (refine gate_guard (by rfl) ?_; dsimp only)); refine goesL_ (some 113) rfl rfl Try.func42 (by kernel_rfl) rfl #[.slice A0 K.length c0, .slice A Kc.length c] rfl (by (try simp only [List.map_toArray, List.map_cons, List.map_nil]); first | done | rfl | (simp only [List.length_drop, List.length_take]; rfl)) ?_; refine (api_Span_42.calls k A0 c0 K A c Kc true _ (Kd.F_now HW0.out) HC0.out (Kd.F_now HL0.out.kn) HL0.out.cap HEQ2.out).mono ?_; rintro e_ w1 ⟨rfl, hd_⟩; refine ⟨_, rfl, ?_⟩; have hb := hd_.below; have HL1 := Aside0.mk (HL0.out.below hb); have HD1 := Aside0.mk (HD0.out.below hb); have zg1_0 := (blk_cell HL1.out.blk 0).trans rfl; have zg1_1 := (blk_cell HL1.out.blk 1).trans rfl; clear hb hd_) | ((with_reducible refine gate_dst (N := 120) rfl ?_); (try (refine gate_guard (by rfl) ?_; dsimp only)); refine goesL_ (some 120) rfl rfl Try.func43 (by kernel_rfl) rfl #[.map (some b2), .map (some b), .func (.func 44) #[] #[]] rfl (by (try simp only [List.map_toArray, List.map_cons, List.map_nil]); first | done | rfl | (simp only [List.length_drop, List.length_take]; rfl)) ?_; refine (equalFunc_calls b2 b ok ok X Xc _ HD1.out HL1.out.map).mono ?_; rintro e_ w2 ⟨rfl, hb⟩; refine ⟨_, rfl, ?_⟩; have HL2 := Aside0.mk (HL1.out.below hb); clear hb))
   go_ret2
   exact ⟨by rw [← HRR.out]; rfl, A, c, HL2.out⟩


end Go.Proofs.Ytffefaiaifhokaa.PT
