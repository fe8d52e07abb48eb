import Derived.Test.YtoandmnefgimoaaDoorLBPLx0
import Derived.Test.YtoandmnefgimoaaDoorLBPLx2
import Derived.Test.YtoandmnefgimoaaDoorLBPLx8
import Derived.Test.YtoandmnefgimoaaDoorLBPLx12
import Derived.Test.YtoandmnefgimoaaDoorLBPLx20
import Derived.Test.YtoandmnefgimoaaDoorLBPLx21
namespace Go.Proofs.YtoandmnefgimoaaDoor.PL
open Go.RowKit Go.Proofs.YtoandmnefgimoaaDoorW.PrintWords Go.Proofs.YtoandmnefgimoaaDoorW.PrintLast Go.Proofs.YtoandmnefgimoaaDoorW.PrintMore
set_option linter.unusedVariables false
set_option linter.unusedSimpArgs false
theorem fresh_ws (L : LK) (n : Int) : (link_Link_fresh.F L n).2.ws = L.ws := by
 unfold link_Link_fresh.F
 split
 ·
  split
  ·
   split <;> rfl
  rfl
 split
 ·
  rfl
 split <;> rfl
theorem kept_new {w W : World} {ok : Nat → Prop} (h : Kept w W ok) {g j : Nat} (hg : w.heap.size ≤ g) (u : Value) : Kept w (W.setCell ⟨g, j, none⟩ u) ok :=
 ⟨by simpa [World.setCell] using h.1, fun i hi hs => (Below.heap_setCell W ⟨g, j, none⟩ u i (fun e_ => by simp only at e_; omega)).trans (h.2 i hi hs)⟩
theorem putT8_0_8 {W : World} {g t : Nat} {c0 c1 c2 c3 c4 c5 c6 c7 : Value} (h : W.heap[g]? = some (.cells #[c0, c1, c2, c3, c4, c5, c6, c7] t (0, 0))) (d0 d1 d2 d3 d4 d5 d6 d7 : Value) : ((((((((W.setCell ⟨g, 0, none⟩ d0).setCell ⟨g, 1, none⟩ d1).setCell ⟨g, 2, none⟩ d2).setCell ⟨g, 3, none⟩ d3).setCell ⟨g, 4, none⟩ d4).setCell ⟨g, 5, none⟩ d5).setCell ⟨g, 6, none⟩ d6).setCell ⟨g, 7, none⟩ d7).heap[g]? = some (.cells #[d0, d1, d2, d3, d4, d5, d6, d7] t (0, 0)) := by
 have h0 : (W.setCell ⟨g, 0, none⟩ d0).heap[g]? = some (.cells #[d0, c1, c2, c3, c4, c5, c6, c7] t (0, 0)) := blk_put h 0 _ rfl
 have h1 : ((W.setCell ⟨g, 0, none⟩ d0).setCell ⟨g, 1, none⟩ d1).heap[g]? = some (.cells #[d0, d1, c2, c3, c4, c5, c6, c7] t (0, 0)) := blk_put h0 1 _ rfl
 have h2 : (((W.setCell ⟨g, 0, none⟩ d0).setCell ⟨g, 1, none⟩ d1).setCell ⟨g, 2, none⟩ d2).heap[g]? = some (.cells #[d0, d1, d2, c3, c4, c5, c6, c7] t (0, 0)) := blk_put h1 2 _ rfl
 have h3 : ((((W.setCell ⟨g, 0, none⟩ d0).setCell ⟨g, 1, none⟩ d1).setCell ⟨g, 2, none⟩ d2).setCell ⟨g, 3, none⟩ d3).heap[g]? = some (.cells #[d0, d1, d2, d3, c4, c5, c6, c7] t (0, 0)) := blk_put h2 3 _ rfl
 have h4 : (((((W.setCell ⟨g, 0, none⟩ d0).setCell ⟨g, 1, none⟩ d1).setCell ⟨g, 2, none⟩ d2).setCell ⟨g, 3, none⟩ d3).setCell ⟨g, 4, none⟩ d4).heap[g]? = some (.cells #[d0, d1, d2, d3, d4, c5, c6, c7] t (0, 0)) := blk_put h3 4 _ rfl
 have h5 : ((((((W.setCell ⟨g, 0, none⟩ d0).setCell ⟨g, 1, none⟩ d1).setCell ⟨g, 2, none⟩ d2).setCell ⟨g, 3, none⟩ d3).setCell ⟨g, 4, none⟩ d4).setCell ⟨g, 5, none⟩ d5).heap[g]? = some (.cells #[d0, d1, d2, d3, d4, d5, c6, c7] t (0, 0)) := blk_put h4 5 _ rfl
 have h6 : (((((((W.setCell ⟨g, 0, none⟩ d0).setCell ⟨g, 1, none⟩ d1).setCell ⟨g, 2, none⟩ d2).setCell ⟨g, 3, none⟩ d3).setCell ⟨g, 4, none⟩ d4).setCell ⟨g, 5, none⟩ d5).setCell ⟨g, 6, none⟩ d6).heap[g]? = some (.cells #[d0, d1, d2, d3, d4, d5, d6, c7] t (0, 0)) := blk_put h5 6 _ rfl
 exact blk_put h6 7 _ rfl
theorem putT12_0_12 {W : World} {g t : Nat} {c0 c1 c2 c3 c4 c5 c6 c7 c8 c9 c10 c11 : Value} (h : W.heap[g]? = some (.cells #[c0, c1, c2, c3, c4, c5, c6, c7, c8, c9, c10, c11] t (0, 0))) (d0 d1 d2 d3 d4 d5 d6 d7 d8 d9 d10 d11 : Value) : ((((((((((((W.setCell ⟨g, 0, none⟩ d0).setCell ⟨g, 1, none⟩ d1).setCell ⟨g, 2, none⟩ d2).setCell ⟨g, 3, none⟩ d3).setCell ⟨g, 4, none⟩ d4).setCell ⟨g, 5, none⟩ d5).setCell ⟨g, 6, none⟩ d6).setCell ⟨g, 7, none⟩ d7).setCell ⟨g, 8, none⟩ d8).setCell ⟨g, 9, none⟩ d9).setCell ⟨g, 10, none⟩ d10).setCell ⟨g, 11, none⟩ d11).heap[g]? = some (.cells #[d0, d1, d2, d3, d4, d5, d6, d7, d8, d9, d10, d11] t (0, 0)) := by
 have h0 : (W.setCell ⟨g, 0, none⟩ d0).heap[g]? = some (.cells #[d0, c1, c2, c3, c4, c5, c6, c7, c8, c9, c10, c11] t (0, 0)) := blk_put h 0 _ rfl
 have h1 : ((W.setCell ⟨g, 0, none⟩ d0).setCell ⟨g, 1, none⟩ d1).heap[g]? = some (.cells #[d0, d1, c2, c3, c4, c5, c6, c7, c8, c9, c10, c11] t (0, 0)) := blk_put h0 1 _ rfl
 have h2 : (((W.setCell ⟨g, 0, none⟩ d0).setCell ⟨g, 1, none⟩ d1).setCell ⟨g, 2, none⟩ d2).heap[g]? = some (.cells #[d0, d1, d2, c3, c4, c5, c6, c7, c8, c9, c10, c11] t (0, 0)) := blk_put h1 2 _ rfl
 have h3 : ((((W.setCell ⟨g, 0, none⟩ d0).setCell ⟨g, 1, none⟩ d1).setCell ⟨g, 2, none⟩ d2).setCell ⟨g, 3, none⟩ d3).heap[g]? = some (.cells #[d0, d1, d2, d3, c4, c5, c6, c7, c8, c9, c10, c11] t (0, 0)) := blk_put h2 3 _ rfl
 have h4 : (((((W.setCell ⟨g, 0, none⟩ d0).setCell ⟨g, 1, none⟩ d1).setCell ⟨g, 2, none⟩ d2).setCell ⟨g, 3, none⟩ d3).setCell ⟨g, 4, none⟩ d4).heap[g]? = some (.cells #[d0, d1, d2, d3, d4, c5, c6, c7, c8, c9, c10, c11] t (0, 0)) := blk_put h3 4 _ rfl
 have h5 : ((((((W.setCell ⟨g, 0, none⟩ d0).setCell ⟨g, 1, none⟩ d1).setCell ⟨g, 2, none⟩ d2).setCell ⟨g, 3, none⟩ d3).setCell ⟨g, 4, none⟩ d4).setCell ⟨g, 5, none⟩ d5).heap[g]? = some (.cells #[d0, d1, d2, d3, d4, d5, c6, c7, c8, c9, c10, c11] t (0, 0)) := blk_put h4 5 _ rfl
 have h6 : (((((((W.setCell ⟨g, 0, none⟩ d0).setCell ⟨g, 1, none⟩ d1).setCell ⟨g, 2, none⟩ d2).setCell ⟨g, 3, none⟩ d3).setCell ⟨g, 4, none⟩ d4).setCell ⟨g, 5, none⟩ d5).setCell ⟨g, 6, none⟩ d6).heap[g]? = some (.cells #[d0, d1, d2, d3, d4, d5, d6, c7, c8, c9, c10, c11] t (0, 0)) := blk_put h5 6 _ rfl
 have h7 : ((((((((W.setCell ⟨g, 0, none⟩ d0).setCell ⟨g, 1, none⟩ d1).setCell ⟨g, 2, none⟩ d2).setCell ⟨g, 3, none⟩ d3).setCell ⟨g, 4, none⟩ d4).setCell ⟨g, 5, none⟩ d5).setCell ⟨g, 6, none⟩ d6).setCell ⟨g, 7, none⟩ d7).heap[g]? = some (.cells #[d0, d1, d2, d3, d4, d5, d6, d7, c8, c9, c10, c11] t (0, 0)) := blk_put h6 7 _ rfl
 have h8 : (((((((((W.setCell ⟨g, 0, none⟩ d0).setCell ⟨g, 1, none⟩ d1).setCell ⟨g, 2, none⟩ d2).setCell ⟨g, 3, none⟩ d3).setCell ⟨g, 4, none⟩ d4).setCell ⟨g, 5, none⟩ d5).setCell ⟨g, 6, none⟩ d6).setCell ⟨g, 7, none⟩ d7).setCell ⟨g, 8, none⟩ d8).heap[g]? = some (.cells #[d0, d1, d2, d3, d4, d5, d6, d7, d8, c9, c10, c11] t (0, 0)) := blk_put h7 8 _ rfl
 have h9 : ((((((((((W.setCell ⟨g, 0, none⟩ d0).setCell ⟨g, 1, none⟩ d1).setCell ⟨g, 2, none⟩ d2).setCell ⟨g, 3, none⟩ d3).setCell ⟨g, 4, none⟩ d4).setCell ⟨g, 5, none⟩ d5).setCell ⟨g, 6, none⟩ d6).setCell ⟨g, 7, none⟩ d7).setCell ⟨g, 8, none⟩ d8).setCell ⟨g, 9, none⟩ d9).heap[g]? = some (.cells #[d0, d1, d2, d3, d4, d5, d6, d7, d8, d9, c10, c11] t (0, 0)) := blk_put h8 9 _ rfl
 have h10 : (((((((((((W.setCell ⟨g, 0, none⟩ d0).setCell ⟨g, 1, none⟩ d1).setCell ⟨g, 2, none⟩ d2).setCell ⟨g, 3, none⟩ d3).setCell ⟨g, 4, none⟩ d4).setCell ⟨g, 5, none⟩ d5).setCell ⟨g, 6, none⟩ d6).setCell ⟨g, 7, none⟩ d7).setCell ⟨g, 8, none⟩ d8).setCell ⟨g, 9, none⟩ d9).setCell ⟨g, 10, none⟩ d10).heap[g]? = some (.cells #[d0, d1, d2, d3, d4, d5, d6, d7, d8, d9, d10, c11] t (0, 0)) := blk_put h9 10 _ rfl
 exact blk_put h10 11 _ rfl
def link_Link_Take.T6 : Bool × List (List Nat × List Nat) := (true, [([], []), ([0], [0]), ([1], [1]), ([2], [2]), ([3, 2], [2, 3]), ([4, 2], [2, 4]), ([2], [2]), ([6, 2], [2, 6]), ([7, 2], [2, 7]), ([8, 2], [2, 8]), ([5, 9, 2], [2, 5, 9]), ([2, 10], [2, 10])])
def link_Link_Take.B6 : List Nat := [0, 1, 3, 7, 15, 31, 7, 71, 199, 455, 1023, 2047]
theorem link_Link_Take.tab6 : rtab .any (opsOf Tryd.f12 6) = link_Link_Take.T6 := by kernel_rfl
theorem link_Link_Take.bits6 : waitsOk link_Link_Take.T6.2 link_Link_Take.B6 = true := by kernel_rfl
def link_Link_Take.T10 : Bool × List (List Nat × List Nat) := (true, [([], []), ([0], [0]), ([1], [1]), ([], []), ([3], [3]), ([4], [4]), ([5], [5]), ([2, 6], [2, 6])])
def link_Link_Take.B10 : List Nat := [0, 1, 3, 0, 8, 24, 56, 127]
theorem link_Link_Take.tab10 : rtab .any (opsOf Tryd.f12 10) = link_Link_Take.T10 := by kernel_rfl
theorem link_Link_Take.bits10 : waitsOk link_Link_Take.T10.2 link_Link_Take.B10 = true := by kernel_rfl
def link_Link_Take.T20 : Bool × List (List Nat × List Nat) := (true, [([], []), ([0], [0]), ([], []), ([2], [2]), ([3], [3]), ([1, 0, 1], [1]), ([4, 5, 0, 1, 2, 3, 4, 5], [4]), ([6, 0, 1, 2, 3, 4, 5, 6], [])])
def link_Link_Take.B20 : List Nat := [0, 1, 0, 4, 12, 3, 63, 127]
theorem link_Link_Take.tab20 : rtab .any (opsOf Tryd.f12 20) = link_Link_Take.T20 := by kernel_rfl
theorem link_Link_Take.bits20 : waitsOk link_Link_Take.T20.2 link_Link_Take.B20 = true := by kernel_rfl
def link_Link_Take.G2 (L1 : LK) (now : Int) (r : OpenR) : Bool × Int × LK :=
 if r.n1 ≠ 0 ∧ r.n1 ≠ L1.own then (false, 13, L1) else
 (fun q : Bool × LK => if q.1 = false then (false, 7, q.2) else
  (fun L3 : LK => (decide (r.kd = 1), 0, if r.kd = 2 then putL L3 3 [] else L3)) { q.2 with heard := if q.2.heard < now then now else q.2.heard }) (link_Link_fresh.F L1 r.n2)
def link_Link_Take.G (L : LK) (now : Int) (r : OpenR) : Bool × Int × LK :=
 if r.n0 < L.other then (false, 13, L) else link_Link_Take.G2 (if r.n0 > L.other then { L with other := r.n0, high := 0, taken := 0 } else L) now r
def link_Link_Take.F (L : LK) (now er : Int) (R : Option OpenR) : Option (Bool × Int × LK) := if er = 0 then R.map (link_Link_Take.G L now) else some (false, er, L)
attribute [local go_sem] max2_int max_two
set_option maxHeartbeats 100000000 in
set_option maxRecDepth 100000 in
theorem link_Link_Take.calls (k B g : Nat) (L : LK) (ok : Nat → Prop) (A0 : Option Addr) (c0 : Nat) (l0 : List Int) (now er : Int) (R : Option OpenR) (fl : Bool) (e1 : Int) (L' : LK) (w : World) (hr0 : Kd.C (Kd.int .u8) w A0 l0.length l0) (hc0 : l0.length ≤ c0) (ht : TabW w) (h : link_open.F k l0 = some (er, R)) (h2 : link_Link_Take.F L now er R = some (fl, e1, L')) (hn2 : ∀ r, R = some r → 1 ≤ r.n2 ∧ r.n2 ≤ 1099511627776)
 (hw0 : 0 ≤ now) (hw1 : now ≤ 1099511627776) (hh0 : 0 ≤ L.high) (hh1 : L.high ≤ 1099511627776) (hL : LKat w ok g L) (hlen : L.ws.length < 1000) (hB : ∀ k, ok k → B ≤ k) (hBw : B ≤ w.heap.size) :
 Calls Tryd.prog 12 #[.pointer (some ⟨g, 0, none⟩), .slice A0 l0.length c0, .int .i64 now] w fun e w' => ∃ p1 p2 p3 p4 p5 p6 A7 m7 c7 A8 m8 c8, e = .returned (.tuple #[.agg #[.int .i64 p1, .int .i64 p2, .int .i64 p3, .int .i64 p4, .int .i64 p5, .int .i64 p6, .slice A7 m7 c7, .slice A8 m8 c8], .bool fl, .int .i64 e1]) ∧
  (e1 = 0 → ∀ r, R = some r → OpenOk w' w.heap.size R r.kd r.n0 r.n1 r.n2 p1 p2 p3 p4 p5 p6 A7 m7 c7 A8 m8 c8) ∧ LKat w' (fun k => ok k ∨ w.heap.size ≤ k) g L' ∧ Kept w w' ok ∧ Below B w w' := by
 have hu := Tryd.underlying71
 have hu1 := Tryd.underlying85
 have hu3 := Tryd.underlying37
 have hu4 := Tryd.underlying83
 have HR0 := am_ hr0
 have HC0 := am_ hc0
 have HT := am_ ht
 have HF := am_ h
 have HN2 := am_ hn2
 have d1 : decide (now < 0) = false := decide_eq_false (by omega)
 have d2 : decide (now > 1099511627776) = false := decide_eq_false (by omega)
 have HH := am_ (And.intro hh0 hh1)
 clear hr0 hc0 ht h hn2 hh0 hh1
 obtain ⟨vs_, hv_⟩ := hL
 have BV0 := am_ hv_.bound
 have HS0 := am_ (Nat.le_refl w.heap.size)
 have HQ0 := am_ (Below.refl B w)
 have HK0 := am_ (kept_refl w ok)
 have HBB := am_ hB
 have HBW := am_ hBw
 have HN := am_ hlen
 clear hv_ hB hBw hlen
 have zV0_0 := (kc_ BV0.out.1 0).trans rfl
 have zV0_1 := (kc_ BV0.out.1 1).trans rfl
 unfold link_Link_Take.F at h2
 by_cases c1 : er = 0
 case neg =>
  rw [if_neg c1] at h2
  simp only [Option.some.injEq, Prod.mk.injEq] at h2
  obtain ⟨rfl, rfl, rfl⟩ := h2
  have b1 : (er == 0) = false := beq_eq_false_iff_ne.mpr c1
  have b1n : (er != 0) = true := bne_iff_ne.mpr c1
  have C1 := am_ c1
  clear c1
  go_enter Tryd.func12, Tryd.ntmps12
  go_wp2_with (first | ((with_reducible refine gd_ (N := 6) rfl ?_); refine bE 6 #[.int .i64 0, .int .i64 0, .int .i64 0, .int .i64 0, .int .i64 0, .int .i64 0, .slice none 0 0, .slice none 0 0] 37 ?_; intro gx hg w1 hbox hb; have HS1 := am_ (Nat.le_trans HS0.out hb.size); have HQ1 := am_ (HQ0.out.trans (hb.mono (Nat.le_trans HBW.out HS0.out))); have HK1 := am_ (kept_below HK0.out hb); have BV1 := am_ (BV0.out.keepB hb); have Ggx := am_ (show w.heap.size ≤ gx by (rw [hg]; exact HS0.out)); have Ngx_g := am_ (show gx ≠ g from fun e_ => by have h1_ := blk_lt BV0.out.1; have h2_ := Ggx.out; rw [e_] at h2_; omega); have Egx := am_ hg; have BX1 := am_ hbox; have HX1 := am_ hb; clear hb hbox hg) | ((with_reducible refine gd_ (N := 26) rfl ?_); (try (refine gate_guard (by rfl) ?_; dsimp only)); refine gL (some 26) Tryd.func28 #[.slice A0 l0.length c0] ?_; refine (link_open.calls k A0 c0 l0 er R _ (Kd.C_below HR0.out HX1.out) HC0.out (TabW.below HT.out HX1.out) HF.out).mono ?_; rintro e_ w2 ⟨kd, n0, n1, n2, p1, p2, p3, p4, p5, p6, A7, m7, c7, A8, m8, c8, rfl, hop, hb⟩; refine ⟨_, rfl, ?_⟩; have HS2 := am_ (Nat.le_trans HS1.out hb.size); have HQ2 := am_ (HQ1.out.trans (hb.mono (Nat.le_trans HBW.out HS1.out))); have HK2 := am_ (kept_below HK1.out hb); have BV2 := am_ (BV1.out.keepB hb); have BX2 := am_ (blk_below BX1.out hb); have HOP2 := am_ hop; clear hop hb) | ((with_reducible refine gd_ (N := 9) rfl ?_); refine bE 9 #[.int .u8 0, .int .i64 0, .int .i64 0, .int .i64 0, .int .i64 0, .int .i64 0, .int .i64 0, .int .i64 0, .int .i64 0, .int .i64 0, .slice none 0 0, .slice none 0 0] 85 ?_; intro gq hg w3 hbox hb; have HS3 := am_ (Nat.le_trans HS2.out hb.size); have HQ3 := am_ (HQ2.out.trans (hb.mono (Nat.le_trans HBW.out HS2.out))); have HK3 := am_ (kept_below HK2.out hb); have BV3 := am_ (BV2.out.keepB hb); have BX3 := am_ (blk_below BX2.out hb); have Ggq := am_ (show w.heap.size ≤ gq by (rw [hg]; exact HS2.out)); have Ngq_g := am_ (show gq ≠ g from fun e_ => by have h1_ := blk_lt BV0.out.1; have h2_ := Ggq.out; rw [e_] at h2_; omega); have Ngx_gq := am_ (show gx ≠ gq from fun e_ => absurd (blk_lt BX2.out) (by rw [e_, hg]; exact Nat.lt_irrefl _)); have Egq := am_ hg; have BQ3 := am_ hbox; obtain ⟨zBQ3_0, zBQ3_1, zBQ3_2, zBQ3_3, zBQ3_4, zBQ3_5, zBQ3_6, zBQ3_7, zBQ3_8, zBQ3_9, zBQ3_10, zBQ3_11, fBQ3_0, fBQ3_1, fBQ3_2, fBQ3_3, fBQ3_4, fBQ3_5, fBQ3_6, fBQ3_7, fBQ3_8, fBQ3_9, fBQ3_10, fBQ3_11⟩ := cz12 BQ3.out; clear hb hbox hg) | ((with_reducible refine gate_store (t := 85) (p := 9) (v := .tmp 27) rfl ?_); refine sE 85 9 (.tmp 27) (sets gq w3 0 [.int .u8 kd, .int .i64 n0, .int .i64 n1, .int .i64 n2, .int .i64 p1, .int .i64 p2, .int .i64 p3, .int .i64 p4, .int .i64 p5, .int .i64 p6, .slice A7 m7 c7, .slice A8 m8 c8]) ?_; intro w4 hw_; have BQ4 := am_ (show w4.heap[gq]? = some (.cells #[.int .u8 kd, .int .i64 n0, .int .i64 n1, .int .i64 n2, .int .i64 p1, .int .i64 p2, .int .i64 p3, .int .i64 p4, .int .i64 p5, .int .i64 p6, .slice A7 m7 c7, .slice A8 m8 c8] 85 (0, 0)) by (rw [hw_]; exact putT12_0_12 BQ3.out ..)); have hf_ : ∀ i, i ≠ gq → w4.heap[i]? = w3.heap[i]? := fun i hi => (by rw [hw_]; exact sets_far _ _ _ _ _ hi); have HS4 := am_ (show w.heap.size ≤ w4.heap.size by (rw [hw_]; rw [sets_size]; exact HS3.out)); have HQ4 := am_ (show Below B w w4 by (rw [hw_]; exact sets_below HQ3.out (Nat.le_trans HBW.out Ggq.out))); have HK4 := am_ (show Kept w w4 ok by (rw [hw_]; exact sets_kept (HK3.out) Ggq.out)); have BV4 := am_ (BV3.out.step (fun k_ hk_ hlt_ => hf_ k_ (by have := hk_.2; have := Ggq.out; omega))); have BX4 := am_ ((hf_ gx Ngx_gq.out).trans BX3.out); clear hf_; have zBQ4_1 : w4.cell? ⟨gq, 1, none⟩ = some (.int .i64 n0) := (kc_ BQ4.out 1).trans rfl; have fBQ4_1 := kf_ BQ4.out 1; clear hw_))
  refine start_ (n := 12) (S := fun w' => w'.heap[gq]? = some (.cells #[.int .u8 kd, .int .i64 n0, .int .i64 n1, .int .i64 n2, .int .i64 p1, .int .i64 p2, .int .i64 p3, .int .i64 p4, .int .i64 p5, .int .i64 p6, .slice A7 m7 c7, .slice A8 m8 c8] 85 (0, 0)) ∧ w'.heap[g]? = some (.cells #[.int .i64 L.own, .int .i64 L.other, .int .i64 L.queue, .int .i64 L.made, vs_, .int .i64 L.high, .int .i64 L.heard, .int .u64 L.taken] 71 (0, 0))) (ds := []) #[false, false, false, false, false, false, false, false, false, false, false, false] (by kernel_rfl) rfl rfl ⟨kd_ BQ4.out, kd_ BV4.out.1⟩ (fun hHeld => ?_)
  refine with_tabW link_Link_Take.tab6 link_Link_Take.bits6 (fun HT_ HW_ => ?_)
  have hb_ : Below w4.heap.size w4 w4.drew := below_drew (Below.refl _ _)
  have HS5 := am_ (Nat.le_trans HS4.out hb_.size)
  have HQ5 := am_ (HQ4.out.trans (hb_.mono (Nat.le_trans HBW.out HS4.out)))
  have HK5 := am_ (kept_below HK4.out hb_)
  have BV5 := am_ (BV4.out.keepB hb_)
  have BX5 := am_ (blk_below BX4.out hb_)
  have BQ5 := am_ (blk_below BQ4.out hb_)
  clear hb_
  generalize w4.drew = w5 at HS5 HQ5 HK5 BV5 BX5 BQ5 hHeld ⊢
  refine pA 0 (some 29) #[o1,o0,o0,o0,o0,o0,o0,o0,o0,o0,o0,o0] HT_ ?_
  refine pA 1 (some 30) #[o1,o1,o0,o0,o0,o0,o0,o0,o0,o0,o0,o0] HT_ ?_
  refine pA 2 (some 31) #[o1,o1,o1,o0,o0,o0,o0,o0,o0,o0,o0,o0] HT_ ?_
  refine pO 3 (some 32) #[o1,o1,o1,o1,o0,o0,o0,o0,o0,o0,o0,o0] HT_ ?_
  refine pO 4 (some 33) #[o1,o1,o1,o1,o1,o0,o0,o0,o0,o0,o0,o0] HT_ ?_
  refine pO 5 (some 34) #[o1,o1,o1,o1,o1,o1,o0,o0,o0,o0,o0,o0] HT_ ?_
  refine pO 6 (some 35) #[o1,o1,o1,o1,o1,o1,o1,o0,o0,o0,o0,o0] HT_ ?_
  refine pO 7 (some 36) #[o1,o1,o1,o1,o1,o1,o1,o1,o0,o0,o0,o0] HT_ ?_
  refine pO 8 (some 37) #[o1,o1,o1,o1,o1,o1,o1,o1,o1,o0,o0,o0] HT_ ?_
  refine pO 9 (some 38) #[o1,o1,o1,o1,o1,o1,o1,o1,o1,o1,o0,o0] HT_ ?_
  refine pO 10 (some 39) #[o1,o1,o1,o1,o1,o1,o1,o1,o1,o1,o1,o0] HT_ ?_
  refine pA 11 (some 40) #[o1,o1,o1,o1,o1,o1,o1,o1,o1,o1,o1,o1] HT_ ?_
  refine dA HT_ ?_
  have zBX5_0 : w5.cell? ⟨gx, 0, none⟩ = some (.int .i64 0) := (kc_ BX5.out 0).trans rfl
  have fBX5_0 := kf_ BX5.out 0
  have zBX5_1 : w5.cell? ⟨gx, 1, none⟩ = some (.int .i64 0) := (kc_ BX5.out 1).trans rfl
  have fBX5_1 := kf_ BX5.out 1
  have zBX5_2 : w5.cell? ⟨gx, 2, none⟩ = some (.int .i64 0) := (kc_ BX5.out 2).trans rfl
  have fBX5_2 := kf_ BX5.out 2
  have zBX5_3 : w5.cell? ⟨gx, 3, none⟩ = some (.int .i64 0) := (kc_ BX5.out 3).trans rfl
  have fBX5_3 := kf_ BX5.out 3
  have zBX5_4 : w5.cell? ⟨gx, 4, none⟩ = some (.int .i64 0) := (kc_ BX5.out 4).trans rfl
  have fBX5_4 := kf_ BX5.out 4
  have zBX5_5 : w5.cell? ⟨gx, 5, none⟩ = some (.int .i64 0) := (kc_ BX5.out 5).trans rfl
  have fBX5_5 := kf_ BX5.out 5
  have zBX5_6 : w5.cell? ⟨gx, 6, none⟩ = some (.slice none 0 0) := (kc_ BX5.out 6).trans rfl
  have fBX5_6 := kf_ BX5.out 6
  have zBX5_7 : w5.cell? ⟨gx, 7, none⟩ = some (.slice none 0 0) := (kc_ BX5.out 7).trans rfl
  have fBX5_7 := kf_ BX5.out 7
  go_wp2_with (((with_reducible refine gate_store (t := 37) (p := 6) (v := .tmp 43) rfl ?_); refine sE 37 6 (.tmp 43) (sets gx w5 0 [.int .i64 0, .int .i64 0, .int .i64 0, .int .i64 0, .int .i64 0, .int .i64 0, .slice none 0 0, .slice none 0 0]) ?_; intro w6 hw_; have BX6 := am_ (show w6.heap[gx]? = some (.cells #[.int .i64 0, .int .i64 0, .int .i64 0, .int .i64 0, .int .i64 0, .int .i64 0, .slice none 0 0, .slice none 0 0] 37 (0, 0)) by (rw [hw_]; exact putT8_0_8 BX5.out ..)); have hf_ : ∀ i, i ≠ gx → w6.heap[i]? = w5.heap[i]? := fun i hi => (by rw [hw_]; exact sets_far _ _ _ _ _ hi); have HS6 := am_ (show w.heap.size ≤ w6.heap.size by (rw [hw_]; rw [sets_size]; exact HS5.out)); have HQ6 := am_ (show Below B w w6 by (rw [hw_]; exact sets_below HQ5.out (Nat.le_trans HBW.out Ggx.out))); have HK6 := am_ (show Kept w w6 ok by (rw [hw_]; exact sets_kept (HK5.out) Ggx.out)); have BV6 := am_ (BV5.out.step (fun k_ hk_ hlt_ => hf_ k_ (by have := hk_.2; have := Ggx.out; omega))); have BQ6 := am_ ((hf_ gq (Ne.symm Ngx_gq.out)).trans BQ5.out); clear hf_; clear hw_))
  refine bodyPost_ret (results_ctt rfl _ _ gx 37 #[.int .i64 0, .int .i64 0, .int .i64 0, .int .i64 0, .int .i64 0, .int .i64 0, .slice none 0 0, .slice none 0 0] (0, 0) _ rfl BX6.out Tryd.underlying37 rfl (by kernel_rfl)) rfl ?_
  exact ⟨_, _, _, _, _, _, _, _, _, _, _, _, rfl, (fun h_ => absurd h_ C1.out), ⟨_, BV6.out.mono (fun _ hk => Or.inl hk.1)⟩, HK6.out, HQ6.out⟩
 rw [if_pos c1] at h2
 subst c1
 obtain ⟨r, hr_, h3⟩ := Option.map_eq_some_iff.mp h2
 clear h2
 subst hr_
 have h2 := h3
 clear h3
 have htriv := trivial
 have hn_ := HN2.out r rfl
 have HR2 := am_ hn_
 clear hn_ htriv HN2
 unfold link_Link_Take.G at h2
 by_cases c2 : r.n0 < L.other
 case pos =>
  rw [if_pos c2] at h2
  simp only [Prod.mk.injEq] at h2
  obtain ⟨rfl, rfl, rfl⟩ := h2
  have b2 := decide_eq_true c2
  clear c2
  go_enter Tryd.func12, Tryd.ntmps12
  go_wp2_with (first | ((with_reducible refine gd_ (N := 6) rfl ?_); refine bE 6 #[.int .i64 0, .int .i64 0, .int .i64 0, .int .i64 0, .int .i64 0, .int .i64 0, .slice none 0 0, .slice none 0 0] 37 ?_; intro gx hg w1 hbox hb; have HS1 := am_ (Nat.le_trans HS0.out hb.size); have HQ1 := am_ (HQ0.out.trans (hb.mono (Nat.le_trans HBW.out HS0.out))); have HK1 := am_ (kept_below HK0.out hb); have BV1 := am_ (BV0.out.keepB hb); have Ggx := am_ (show w.heap.size ≤ gx by (rw [hg]; exact HS0.out)); have Ngx_g := am_ (show gx ≠ g from fun e_ => by have h1_ := blk_lt BV0.out.1; have h2_ := Ggx.out; rw [e_] at h2_; omega); have Egx := am_ hg; have BX1 := am_ hbox; have HX1 := am_ hb; clear hb hbox hg) | ((with_reducible refine gd_ (N := 26) rfl ?_); (try (refine gate_guard (by rfl) ?_; dsimp only)); refine gL (some 26) Tryd.func28 #[.slice A0 l0.length c0] ?_; refine (link_open.calls k A0 c0 l0 0 (some r) _ (Kd.C_below HR0.out HX1.out) HC0.out (TabW.below HT.out HX1.out) HF.out).mono ?_; rintro e_ w2 ⟨kd, n0, n1, n2, p1, p2, p3, p4, p5, p6, A7, m7, c7, A8, m8, c8, rfl, hop, hb⟩; refine ⟨_, rfl, ?_⟩; obtain ⟨⟨rfl, rfl, rfl, rfl, rfl, rfl, rfl, rfl, rfl, rfl⟩, rfl, rfl, hv, hs⟩ := hop r rfl; have HV2 := am_ (Kd.V_mono (Kd.V_bound hv) (ok' := fun k_ => (w1.heap.size ≤ k_ ∧ some k_ ≠ (Value.slice A8 r.p8.length c8).ownBlock) ∧ k_ < w2.heap.size) (fun _ h_ => h_)); have HI2 := am_ (Kd.S_lower (Kd.S_mono (Kd.S_bound hs) (ok' := fun k_ => w1.heap.size ≤ k_ ∧ k_ < w2.heap.size) (fun _ h_ => ⟨h_.2.1, h_.2.2.1⟩)) HS1.out); have HX2_ := am_ HS1.out; have HGX := am_ (blk_lt BX1.out); have HG0 := am_ (blk_lt BV0.out.1); clear hv hs; have HS2 := am_ (Nat.le_trans HS1.out hb.size); have HQ2 := am_ (HQ1.out.trans (hb.mono (Nat.le_trans HBW.out HS1.out))); have HK2 := am_ (kept_below HK1.out hb); have BV2 := am_ (BV1.out.keepB hb); have BX2 := am_ (blk_below BX1.out hb); clear hop hb) | ((with_reducible refine gd_ (N := 9) rfl ?_); refine bE 9 #[.int .u8 0, .int .i64 0, .int .i64 0, .int .i64 0, .int .i64 0, .int .i64 0, .int .i64 0, .int .i64 0, .int .i64 0, .int .i64 0, .slice none 0 0, .slice none 0 0] 85 ?_; intro gq hg w3 hbox hb; have HS3 := am_ (Nat.le_trans HS2.out hb.size); have HQ3 := am_ (HQ2.out.trans (hb.mono (Nat.le_trans HBW.out HS2.out))); have HK3 := am_ (kept_below HK2.out hb); have BV3 := am_ (BV2.out.keepB hb); have BX3 := am_ (blk_below BX2.out hb); have HV3 := am_ (Kd.V_step HV2.out (fun k_ hk_ hlt_ => hb.block k_ hlt_)); have HI3 := am_ (Kd.S_step HI2.out (fun k_ hk_ hlt_ => hb.block k_ hlt_)); have Ggq := am_ (show w.heap.size ≤ gq by (rw [hg]; exact HS2.out)); have Ngq_g := am_ (show gq ≠ g from fun e_ => by have h1_ := blk_lt BV0.out.1; have h2_ := Ggq.out; rw [e_] at h2_; omega); have Ngx_gq := am_ (show gx ≠ gq from fun e_ => absurd (blk_lt BX2.out) (by rw [e_, hg]; exact Nat.lt_irrefl _)); have Egq := am_ hg; have BQ3 := am_ hbox; obtain ⟨zBQ3_0, zBQ3_1, zBQ3_2, zBQ3_3, zBQ3_4, zBQ3_5, zBQ3_6, zBQ3_7, zBQ3_8, zBQ3_9, zBQ3_10, zBQ3_11, fBQ3_0, fBQ3_1, fBQ3_2, fBQ3_3, fBQ3_4, fBQ3_5, fBQ3_6, fBQ3_7, fBQ3_8, fBQ3_9, fBQ3_10, fBQ3_11⟩ := cz12 BQ3.out; clear hb hbox hg) | ((with_reducible refine gate_store (t := 85) (p := 9) (v := .tmp 27) rfl ?_); refine sE 85 9 (.tmp 27) (sets gq w3 0 [.int .u8 r.kd, .int .i64 r.n0, .int .i64 r.n1, .int .i64 r.n2, .int .i64 r.p1, .int .i64 r.p2, .int .i64 r.p3, .int .i64 r.p4, .int .i64 r.p5, .int .i64 r.p6, .slice A7 r.p7.length c7, .slice A8 r.p8.length c8]) ?_; intro w4 hw_; have BQ4 := am_ (show w4.heap[gq]? = some (.cells #[.int .u8 r.kd, .int .i64 r.n0, .int .i64 r.n1, .int .i64 r.n2, .int .i64 r.p1, .int .i64 r.p2, .int .i64 r.p3, .int .i64 r.p4, .int .i64 r.p5, .int .i64 r.p6, .slice A7 r.p7.length c7, .slice A8 r.p8.length c8] 85 (0, 0)) by (rw [hw_]; exact putT12_0_12 BQ3.out ..)); have hf_ : ∀ i, i ≠ gq → w4.heap[i]? = w3.heap[i]? := fun i hi => (by rw [hw_]; exact sets_far _ _ _ _ _ hi); have HS4 := am_ (show w.heap.size ≤ w4.heap.size by (rw [hw_]; rw [sets_size]; exact HS3.out)); have HQ4 := am_ (show Below B w w4 by (rw [hw_]; exact sets_below HQ3.out (Nat.le_trans HBW.out Ggq.out))); have HK4 := am_ (show Kept w w4 ok by (rw [hw_]; exact sets_kept (HK3.out) Ggq.out)); have BV4 := am_ (BV3.out.step (fun k_ hk_ hlt_ => hf_ k_ (by have := hk_.2; have := Ggq.out; omega))); have BX4 := am_ ((hf_ gx Ngx_gq.out).trans BX3.out); have HV4 := am_ (Kd.V_step HV3.out (fun k_ hk_ hlt_ => hf_ k_ (by have := hk_.2; have := Egq.out; omega))); have HI4 := am_ (Kd.S_step HI3.out (fun k_ hk_ hlt_ => hf_ k_ (by have := hk_.2; have := Egq.out; omega))); clear hf_; have zBQ4_1 : w4.cell? ⟨gq, 1, none⟩ = some (.int .i64 r.n0) := (kc_ BQ4.out 1).trans rfl; have fBQ4_1 := kf_ BQ4.out 1; clear hw_))
  refine start_ (n := 12) (S := fun w' => w'.heap[gq]? = some (.cells #[.int .u8 r.kd, .int .i64 r.n0, .int .i64 r.n1, .int .i64 r.n2, .int .i64 r.p1, .int .i64 r.p2, .int .i64 r.p3, .int .i64 r.p4, .int .i64 r.p5, .int .i64 r.p6, .slice A7 r.p7.length c7, .slice A8 r.p8.length c8] 85 (0, 0)) ∧ w'.heap[g]? = some (.cells #[.int .i64 L.own, .int .i64 L.other, .int .i64 L.queue, .int .i64 L.made, vs_, .int .i64 L.high, .int .i64 L.heard, .int .u64 L.taken] 71 (0, 0))) (ds := []) #[false, false, false, false, false, false, false, false, false, false, false, false] (by kernel_rfl) rfl rfl ⟨kd_ BQ4.out, kd_ BV4.out.1⟩ (fun hHeld => ?_)
  refine with_tabW link_Link_Take.tab6 link_Link_Take.bits6 (fun HT_ HW_ => ?_)
  have hb_ : Below w4.heap.size w4 w4.drew := below_drew (Below.refl _ _)
  have HS5 := am_ (Nat.le_trans HS4.out hb_.size)
  have HQ5 := am_ (HQ4.out.trans (hb_.mono (Nat.le_trans HBW.out HS4.out)))
  have HK5 := am_ (kept_below HK4.out hb_)
  have BV5 := am_ (BV4.out.keepB hb_)
  have BX5 := am_ (blk_below BX4.out hb_)
  have HV5 := am_ (Kd.V_step HV4.out (fun k_ hk_ hlt_ => hb_.block k_ hlt_))
  have HI5 := am_ (Kd.S_step HI4.out (fun k_ hk_ hlt_ => hb_.block k_ hlt_))
  have BQ5 := am_ (blk_below BQ4.out hb_)
  clear hb_
  generalize w4.drew = w5 at HS5 HQ5 HK5 BV5 BX5 HV5 HI5 BQ5 hHeld ⊢
  refine pA 0 (some 29) #[o1,o0,o0,o0,o0,o0,o0,o0,o0,o0,o0,o0] HT_ ?_
  refine pA 1 (some 30) #[o1,o1,o0,o0,o0,o0,o0,o0,o0,o0,o0,o0] HT_ ?_
  refine pA 2 (some 31) #[o1,o1,o1,o0,o0,o0,o0,o0,o0,o0,o0,o0] HT_ ?_
  refine pA 3 (some 32) #[o1,o1,o1,o1,o0,o0,o0,o0,o0,o0,o0,o0] HT_ ?_
  refine pA 4 (some 33) #[o1,o1,o1,o1,o1,o0,o0,o0,o0,o0,o0,o0] HT_ ?_
  refine tA (v := ?_) 5 (some 34) #[o1,o1,o1,o1,o1,o1,o0,o0,o0,o0,o0,o0] HT_ HW_ hHeld ?_ ?_
  rotate_left
  ·
   rintro w' ⟨s0, s1⟩
   have q_ := (kc_ s0 1).trans rfl
   go_simp
   with_reducible rfl
  refine pA 6 (some 35) #[o1,o1,o1,o1,o1,o1,o1,o0,o0,o0,o0,o0] HT_ ?_
  refine pA 7 (some 36) #[o1,o1,o1,o1,o1,o1,o1,o1,o0,o0,o0,o0] HT_ ?_
  refine pA 8 (some 37) #[o1,o1,o1,o1,o1,o1,o1,o1,o1,o0,o0,o0] HT_ ?_
  refine tA (v := ?_) 9 (some 38) #[o1,o1,o1,o1,o1,o1,o1,o1,o1,o1,o0,o0] HT_ HW_ hHeld ?_ ?_
  rotate_left
  ·
   rintro w' ⟨s0, s1⟩
   have q_ := (kc_ s1 1).trans rfl
   go_simp
   with_reducible rfl
  refine pA 10 (some 39) #[o1,o1,o1,o1,o1,o1,o1,o1,o1,o1,o1,o0] HT_ ?_
  refine pA 11 (some 40) #[o1,o1,o1,o1,o1,o1,o1,o1,o1,o1,o1,o1] HT_ ?_
  refine dA HT_ ?_
  have zBX5_0 : w5.cell? ⟨gx, 0, none⟩ = some (.int .i64 0) := (kc_ BX5.out 0).trans rfl
  have fBX5_0 := kf_ BX5.out 0
  have zBX5_1 : w5.cell? ⟨gx, 1, none⟩ = some (.int .i64 0) := (kc_ BX5.out 1).trans rfl
  have fBX5_1 := kf_ BX5.out 1
  have zBX5_2 : w5.cell? ⟨gx, 2, none⟩ = some (.int .i64 0) := (kc_ BX5.out 2).trans rfl
  have fBX5_2 := kf_ BX5.out 2
  have zBX5_3 : w5.cell? ⟨gx, 3, none⟩ = some (.int .i64 0) := (kc_ BX5.out 3).trans rfl
  have fBX5_3 := kf_ BX5.out 3
  have zBX5_4 : w5.cell? ⟨gx, 4, none⟩ = some (.int .i64 0) := (kc_ BX5.out 4).trans rfl
  have fBX5_4 := kf_ BX5.out 4
  have zBX5_5 : w5.cell? ⟨gx, 5, none⟩ = some (.int .i64 0) := (kc_ BX5.out 5).trans rfl
  have fBX5_5 := kf_ BX5.out 5
  have zBX5_6 : w5.cell? ⟨gx, 6, none⟩ = some (.slice none 0 0) := (kc_ BX5.out 6).trans rfl
  have fBX5_6 := kf_ BX5.out 6
  have zBX5_7 : w5.cell? ⟨gx, 7, none⟩ = some (.slice none 0 0) := (kc_ BX5.out 7).trans rfl
  have fBX5_7 := kf_ BX5.out 7
  go_wp2_with (((with_reducible refine gate_store (t := 37) (p := 6) (v := .tmp 43) rfl ?_); refine sE 37 6 (.tmp 43) (sets gx w5 0 [.int .i64 0, .int .i64 0, .int .i64 0, .int .i64 0, .int .i64 0, .int .i64 0, .slice none 0 0, .slice none 0 0]) ?_; intro w6 hw_; have BX6 := am_ (show w6.heap[gx]? = some (.cells #[.int .i64 0, .int .i64 0, .int .i64 0, .int .i64 0, .int .i64 0, .int .i64 0, .slice none 0 0, .slice none 0 0] 37 (0, 0)) by (rw [hw_]; exact putT8_0_8 BX5.out ..)); have hf_ : ∀ i, i ≠ gx → w6.heap[i]? = w5.heap[i]? := fun i hi => (by rw [hw_]; exact sets_far _ _ _ _ _ hi); have HS6 := am_ (show w.heap.size ≤ w6.heap.size by (rw [hw_]; rw [sets_size]; exact HS5.out)); have HQ6 := am_ (show Below B w w6 by (rw [hw_]; exact sets_below HQ5.out (Nat.le_trans HBW.out Ggx.out))); have HK6 := am_ (show Kept w w6 ok by (rw [hw_]; exact sets_kept (HK5.out) Ggx.out)); have BV6 := am_ (BV5.out.step (fun k_ hk_ hlt_ => hf_ k_ (by have := hk_.2; have := Ggx.out; omega))); have HV6 := am_ (Kd.V_step HV5.out (fun k_ hk_ hlt_ => hf_ k_ (by have := hk_.1.1; have := HGX.out; omega))); have HI6 := am_ (Kd.S_step HI5.out (fun k_ hk_ hlt_ => hf_ k_ (by have := hk_.1; have := HGX.out; omega))); have BQ6 := am_ ((hf_ gq (Ne.symm Ngx_gq.out)).trans BQ5.out); clear hf_; clear hw_))
  refine bodyPost_ret (results_ctt rfl _ _ gx 37 #[.int .i64 0, .int .i64 0, .int .i64 0, .int .i64 0, .int .i64 0, .int .i64 0, .slice none 0 0, .slice none 0 0] (0, 0) _ rfl BX6.out Tryd.underlying37 rfl (by kernel_rfl)) rfl ?_
  exact ⟨_, _, _, _, _, _, _, _, _, _, _, _, rfl, (fun h_ => absurd h_ (by decide)), ⟨_, BV6.out.mono (fun _ hk => Or.inl hk.1)⟩, HK6.out, HQ6.out⟩
 rw [if_neg c2] at h2
 have b2 := decide_eq_false c2
 have H2 := am_ h2
 clear h2
 go_enter Tryd.func12, Tryd.ntmps12
 go_wp2_with (first | ((with_reducible refine gd_ (N := 6) rfl ?_); refine bE 6 #[.int .i64 0, .int .i64 0, .int .i64 0, .int .i64 0, .int .i64 0, .int .i64 0, .slice none 0 0, .slice none 0 0] 37 ?_; intro gx hg w1 hbox hb; have HS1 := am_ (Nat.le_trans HS0.out hb.size); have HQ1 := am_ (HQ0.out.trans (hb.mono (Nat.le_trans HBW.out HS0.out))); have HK1 := am_ (kept_below HK0.out hb); have BV1 := am_ (BV0.out.keepB hb); have Ggx := am_ (show w.heap.size ≤ gx by (rw [hg]; exact HS0.out)); have Ngx_g := am_ (show gx ≠ g from fun e_ => by have h1_ := blk_lt BV0.out.1; have h2_ := Ggx.out; rw [e_] at h2_; omega); have Egx := am_ hg; have BX1 := am_ hbox; have HX1 := am_ hb; clear hb hbox hg) | ((with_reducible refine gd_ (N := 26) rfl ?_); (try (refine gate_guard (by rfl) ?_; dsimp only)); refine gL (some 26) Tryd.func28 #[.slice A0 l0.length c0] ?_; refine (link_open.calls k A0 c0 l0 0 (some r) _ (Kd.C_below HR0.out HX1.out) HC0.out (TabW.below HT.out HX1.out) HF.out).mono ?_; rintro e_ w2 ⟨kd, n0, n1, n2, p1, p2, p3, p4, p5, p6, A7, m7, c7, A8, m8, c8, rfl, hop, hb⟩; refine ⟨_, rfl, ?_⟩; obtain ⟨⟨rfl, rfl, rfl, rfl, rfl, rfl, rfl, rfl, rfl, rfl⟩, rfl, rfl, hv, hs⟩ := hop r rfl; have HV2 := am_ (Kd.V_mono (Kd.V_bound hv) (ok' := fun k_ => (w1.heap.size ≤ k_ ∧ some k_ ≠ (Value.slice A8 r.p8.length c8).ownBlock) ∧ k_ < w2.heap.size) (fun _ h_ => h_)); have HI2 := am_ (Kd.S_lower (Kd.S_mono (Kd.S_bound hs) (ok' := fun k_ => w1.heap.size ≤ k_ ∧ k_ < w2.heap.size) (fun _ h_ => ⟨h_.2.1, h_.2.2.1⟩)) HS1.out); have HX2_ := am_ HS1.out; have HGX := am_ (blk_lt BX1.out); have HG0 := am_ (blk_lt BV0.out.1); clear hv hs; have HS2 := am_ (Nat.le_trans HS1.out hb.size); have HQ2 := am_ (HQ1.out.trans (hb.mono (Nat.le_trans HBW.out HS1.out))); have HK2 := am_ (kept_below HK1.out hb); have BV2 := am_ (BV1.out.keepB hb); have BX2 := am_ (blk_below BX1.out hb); clear hop hb) | ((with_reducible refine gd_ (N := 9) rfl ?_); refine bE 9 #[.int .u8 0, .int .i64 0, .int .i64 0, .int .i64 0, .int .i64 0, .int .i64 0, .int .i64 0, .int .i64 0, .int .i64 0, .int .i64 0, .slice none 0 0, .slice none 0 0] 85 ?_; intro gq hg w3 hbox hb; have HS3 := am_ (Nat.le_trans HS2.out hb.size); have HQ3 := am_ (HQ2.out.trans (hb.mono (Nat.le_trans HBW.out HS2.out))); have HK3 := am_ (kept_below HK2.out hb); have BV3 := am_ (BV2.out.keepB hb); have BX3 := am_ (blk_below BX2.out hb); have HV3 := am_ (Kd.V_step HV2.out (fun k_ hk_ hlt_ => hb.block k_ hlt_)); have HI3 := am_ (Kd.S_step HI2.out (fun k_ hk_ hlt_ => hb.block k_ hlt_)); have Ggq := am_ (show w.heap.size ≤ gq by (rw [hg]; exact HS2.out)); have Ngq_g := am_ (show gq ≠ g from fun e_ => by have h1_ := blk_lt BV0.out.1; have h2_ := Ggq.out; rw [e_] at h2_; omega); have Ngx_gq := am_ (show gx ≠ gq from fun e_ => absurd (blk_lt BX2.out) (by rw [e_, hg]; exact Nat.lt_irrefl _)); have Egq := am_ hg; have BQ3 := am_ hbox; obtain ⟨zBQ3_0, zBQ3_1, zBQ3_2, zBQ3_3, zBQ3_4, zBQ3_5, zBQ3_6, zBQ3_7, zBQ3_8, zBQ3_9, zBQ3_10, zBQ3_11, fBQ3_0, fBQ3_1, fBQ3_2, fBQ3_3, fBQ3_4, fBQ3_5, fBQ3_6, fBQ3_7, fBQ3_8, fBQ3_9, fBQ3_10, fBQ3_11⟩ := cz12 BQ3.out; clear hb hbox hg) | ((with_reducible refine gate_store (t := 85) (p := 9) (v := .tmp 27) rfl ?_); refine sE 85 9 (.tmp 27) (sets gq w3 0 [.int .u8 r.kd, .int .i64 r.n0, .int .i64 r.n1, .int .i64 r.n2, .int .i64 r.p1, .int .i64 r.p2, .int .i64 r.p3, .int .i64 r.p4, .int .i64 r.p5, .int .i64 r.p6, .slice A7 r.p7.length c7, .slice A8 r.p8.length c8]) ?_; intro w4 hw_; have BQ4 := am_ (show w4.heap[gq]? = some (.cells #[.int .u8 r.kd, .int .i64 r.n0, .int .i64 r.n1, .int .i64 r.n2, .int .i64 r.p1, .int .i64 r.p2, .int .i64 r.p3, .int .i64 r.p4, .int .i64 r.p5, .int .i64 r.p6, .slice A7 r.p7.length c7, .slice A8 r.p8.length c8] 85 (0, 0)) by (rw [hw_]; exact putT12_0_12 BQ3.out ..)); have hf_ : ∀ i, i ≠ gq → w4.heap[i]? = w3.heap[i]? := fun i hi => (by rw [hw_]; exact sets_far _ _ _ _ _ hi); have HS4 := am_ (show w.heap.size ≤ w4.heap.size by (rw [hw_]; rw [sets_size]; exact HS3.out)); have HQ4 := am_ (show Below B w w4 by (rw [hw_]; exact sets_below HQ3.out (Nat.le_trans HBW.out Ggq.out))); have HK4 := am_ (show Kept w w4 ok by (rw [hw_]; exact sets_kept (HK3.out) Ggq.out)); have BV4 := am_ (BV3.out.step (fun k_ hk_ hlt_ => hf_ k_ (by have := hk_.2; have := Ggq.out; omega))); have BX4 := am_ ((hf_ gx Ngx_gq.out).trans BX3.out); have HV4 := am_ (Kd.V_step HV3.out (fun k_ hk_ hlt_ => hf_ k_ (by have := hk_.2; have := Egq.out; omega))); have HI4 := am_ (Kd.S_step HI3.out (fun k_ hk_ hlt_ => hf_ k_ (by have := hk_.2; have := Egq.out; omega))); clear hf_; have zBQ4_1 : w4.cell? ⟨gq, 1, none⟩ = some (.int .i64 r.n0) := (kc_ BQ4.out 1).trans rfl; have fBQ4_1 := kf_ BQ4.out 1; clear hw_))
 refine start_ (n := 12) (S := fun w' => w'.heap[gq]? = some (.cells #[.int .u8 r.kd, .int .i64 r.n0, .int .i64 r.n1, .int .i64 r.n2, .int .i64 r.p1, .int .i64 r.p2, .int .i64 r.p3, .int .i64 r.p4, .int .i64 r.p5, .int .i64 r.p6, .slice A7 r.p7.length c7, .slice A8 r.p8.length c8] 85 (0, 0)) ∧ w'.heap[g]? = some (.cells #[.int .i64 L.own, .int .i64 L.other, .int .i64 L.queue, .int .i64 L.made, vs_, .int .i64 L.high, .int .i64 L.heard, .int .u64 L.taken] 71 (0, 0))) (ds := []) #[false, false, false, false, false, false, false, false, false, false, false, false] (by kernel_rfl) rfl rfl ⟨kd_ BQ4.out, kd_ BV4.out.1⟩ (fun hHeld => ?_)
 refine with_tabW link_Link_Take.tab6 link_Link_Take.bits6 (fun HT_ HW_ => ?_)
 have hb_ : Below w4.heap.size w4 w4.drew := below_drew (Below.refl _ _)
 have HS5 := am_ (Nat.le_trans HS4.out hb_.size)
 have HQ5 := am_ (HQ4.out.trans (hb_.mono (Nat.le_trans HBW.out HS4.out)))
 have HK5 := am_ (kept_below HK4.out hb_)
 have BV5 := am_ (BV4.out.keepB hb_)
 have BX5 := am_ (blk_below BX4.out hb_)
 have HV5 := am_ (Kd.V_step HV4.out (fun k_ hk_ hlt_ => hb_.block k_ hlt_))
 have HI5 := am_ (Kd.S_step HI4.out (fun k_ hk_ hlt_ => hb_.block k_ hlt_))
 have BQ5 := am_ (blk_below BQ4.out hb_)
 clear hb_
 generalize w4.drew = w5 at HS5 HQ5 HK5 BV5 BX5 HV5 HI5 BQ5 hHeld ⊢
 refine pA 0 (some 29) #[o1,o0,o0,o0,o0,o0,o0,o0,o0,o0,o0,o0] HT_ ?_
 refine pA 1 (some 30) #[o1,o1,o0,o0,o0,o0,o0,o0,o0,o0,o0,o0] HT_ ?_
 refine pA 2 (some 31) #[o1,o1,o1,o0,o0,o0,o0,o0,o0,o0,o0,o0] HT_ ?_
 refine pA 3 (some 32) #[o1,o1,o1,o1,o0,o0,o0,o0,o0,o0,o0,o0] HT_ ?_
 refine pA 4 (some 33) #[o1,o1,o1,o1,o1,o0,o0,o0,o0,o0,o0,o0] HT_ ?_
 refine tA (v := ?_) 5 (some 34) #[o1,o1,o1,o1,o1,o1,o0,o0,o0,o0,o0,o0] HT_ HW_ hHeld ?_ ?_
 rotate_left
 ·
  rintro w' ⟨s0, s1⟩
  have q_ := (kc_ s0 1).trans rfl
  go_simp
  with_reducible rfl
 refine pA 6 (some 35) #[o1,o1,o1,o1,o1,o1,o1,o0,o0,o0,o0,o0] HT_ ?_
 refine pA 7 (some 36) #[o1,o1,o1,o1,o1,o1,o1,o1,o0,o0,o0,o0] HT_ ?_
 refine pA 8 (some 37) #[o1,o1,o1,o1,o1,o1,o1,o1,o1,o0,o0,o0] HT_ ?_
 refine tA (v := ?_) 9 (some 38) #[o1,o1,o1,o1,o1,o1,o1,o1,o1,o1,o0,o0] HT_ HW_ hHeld ?_ ?_
 rotate_left
 ·
  rintro w' ⟨s0, s1⟩
  have q_ := (kc_ s1 1).trans rfl
  go_simp
  with_reducible rfl
 refine pA 10 (some 39) #[o1,o1,o1,o1,o1,o1,o1,o1,o1,o1,o1,o0] HT_ ?_
 refine pA 11 (some 40) #[o1,o1,o1,o1,o1,o1,o1,o1,o1,o1,o1,o1] HT_ ?_
 refine dA HT_ ?_
 go_wp2
 refine start_ (n := 8) (S := fun w' => w'.heap[gq]? = some (.cells #[.int .u8 r.kd, .int .i64 r.n0, .int .i64 r.n1, .int .i64 r.n2, .int .i64 r.p1, .int .i64 r.p2, .int .i64 r.p3, .int .i64 r.p4, .int .i64 r.p5, .int .i64 r.p6, .slice A7 r.p7.length c7, .slice A8 r.p8.length c8] 85 (0, 0)) ∧ w'.heap[g]? = some (.cells #[.int .i64 L.own, .int .i64 L.other, .int .i64 L.queue, .int .i64 L.made, vs_, .int .i64 L.high, .int .i64 L.heard, .int .u64 L.taken] 71 (0, 0))) (ds := []) #[false, false, false, false, false, false, false, false] (by kernel_rfl) rfl rfl ⟨kd_ BQ5.out, kd_ BV5.out.1⟩ (fun hHeld => ?_)
 refine with_tabW link_Link_Take.tab10 link_Link_Take.bits10 (fun HT_ HW_ => ?_)
 have hb_ : Below w5.heap.size w5 w5.drew := below_drew (Below.refl _ _)
 have HS6 := am_ (Nat.le_trans HS5.out hb_.size)
 have HQ6 := am_ (HQ5.out.trans (hb_.mono (Nat.le_trans HBW.out HS5.out)))
 have HK6 := am_ (kept_below HK5.out hb_)
 have BV6 := am_ (BV5.out.keepB hb_)
 have BX6 := am_ (blk_below BX5.out hb_)
 have HV6 := am_ (Kd.V_step HV5.out (fun k_ hk_ hlt_ => hb_.block k_ hlt_))
 have HI6 := am_ (Kd.S_step HI5.out (fun k_ hk_ hlt_ => hb_.block k_ hlt_))
 have BQ6 := am_ (blk_below BQ5.out hb_)
 clear hb_
 generalize w5.drew = w6 at HS6 HQ6 HK6 BV6 BX6 HV6 HI6 BQ6 hHeld ⊢
 refine pA 0 (some 45) #[o1,o0,o0,o0,o0,o0,o0,o0] HT_ ?_
 refine pA 1 (some 46) #[o1,o1,o0,o0,o0,o0,o0,o0] HT_ ?_
 refine tA (v := ?_) 2 (some 47) #[o1,o1,o1,o0,o0,o0,o0,o0] HT_ HW_ hHeld ?_ ?_
 rotate_left
 ·
  rintro w' ⟨s0, s1⟩
  have q_ := (kc_ s0 1).trans rfl
  go_simp
  with_reducible rfl
 refine pA 3 (some 48) #[o1,o1,o1,o1,o0,o0,o0,o0] HT_ ?_
 refine pA 4 (some 49) #[o1,o1,o1,o1,o1,o0,o0,o0] HT_ ?_
 refine pA 5 (some 50) #[o1,o1,o1,o1,o1,o1,o0,o0] HT_ ?_
 refine tA (v := ?_) 6 (some 51) #[o1,o1,o1,o1,o1,o1,o1,o0] HT_ HW_ hHeld ?_ ?_
 rotate_left
 ·
  rintro w' ⟨s0, s1⟩
  have q_ := (kc_ s1 1).trans rfl
  go_simp
  with_reducible rfl
 refine pA 7 (some 52) #[o1,o1,o1,o1,o1,o1,o1,o1] HT_ ?_
 refine dA HT_ ?_
 go_upto_if 52 with (fail)
 (try simp only [Act.put, qa_, qb_, qc_])
 go_cut [] (fun wc => ∃ L1 : LK, Aside0 (link_Link_Take.G2 L1 now r = (fl, e1, L')) ∧ Aside0 ((0 ≤ L1.high ∧ L1.high ≤ 1099511627776) ∧ L1.ws.length < 1000) ∧ Aside0 (w.heap.size ≤ wc.heap.size) ∧ Aside0 (Below B w wc) ∧ Aside0 (Kept w wc ok) ∧ Aside0 (LKv wc (fun k => ok k ∧ k < w.heap.size) g L1 vs_) ∧ Aside0 (wc.heap[gx]? = some (.cells #[.int .i64 0, .int .i64 0, .int .i64 0, .int .i64 0, .int .i64 0, .int .i64 0, .slice none 0 0, .slice none 0 0] 37 (0, 0))) ∧ Aside0 (wc.heap[gq]? = some (.cells #[.int .u8 r.kd, .int .i64 r.n0, .int .i64 r.n1, .int .i64 r.n2, .int .i64 r.p1, .int .i64 r.p2, .int .i64 r.p3, .int .i64 r.p4, .int .i64 r.p5, .int .i64 r.p6, .slice A7 r.p7.length c7, .slice A8 r.p8.length c8] 85 (0, 0))) ∧ Aside0 (Kd.V k110 110 wc w1.heap.size (fun k_ => (w1.heap.size ≤ k_ ∧ some k_ ≠ (Value.slice A8 r.p8.length c8).ownBlock) ∧ k_ < w2.heap.size) (.slice A7 r.p7.length c7) r.p7) ∧ Aside0 (Kd.S k77 77 wc w.heap.size (fun k_ => w1.heap.size ≤ k_ ∧ k_ < w2.heap.size) (.slice A8 r.p8.length c8) r.p8))
 case first =>
  by_cases c3 : r.n0 > L.other
  case pos =>
   have b3 : decide (L.other < r.n0) = true := decide_eq_true c3
   have C3 := am_ c3
   clear c3
   have zBQ6_1 : w6.cell? ⟨gq, 1, none⟩ = some (.int .i64 r.n0) := (kc_ BQ6.out 1).trans rfl
   have fV_1 := kf_ BV6.out.1 1
   have zV_1 := (kc_ BV6.out.1 1).trans rfl
   go_wp2_with (first | ((with_reducible refine gate_store (t := 3) (p := 60) (v := .tmp 58) rfl ?_); refine sE 3 60 (.tmp 58) (w6.setCell ⟨g, 1, none⟩ (.int .i64 r.n0)) ?_; intro w7 hw_; have BV7 := am_ (show LKv w7 (fun k => ok k ∧ k < w.heap.size) g ({ L with other := r.n0 }) vs_ by (rw [hw_]; exact BV6.out.put (L' := { L with other := r.n0 }) rfl 1 (.int .i64 r.n0) rfl)); have hf_ : ∀ i, i ≠ g → w7.heap[i]? = w6.heap[i]? := fun i hi => (by rw [hw_]; rw [far1L _ _ _ _ _ hi]); have HS7 := am_ (show w.heap.size ≤ w7.heap.size by (rw [hw_]; simpa [World.setCell] using HS6.out)); have HQ7 := am_ (show Below B w w7 by (rw [hw_]; exact (HQ6.out).setCell (HBB.out g BV0.out.2.2.1) _)); have HK7 := am_ (show Kept w w7 ok by (rw [hw_]; exact kept_set (HK6.out) BV0.out.2.2.1 _)); have BX7 := am_ ((hf_ gx Ngx_g.out).trans BX6.out); have HV7 := am_ (Kd.V_step HV6.out (fun k_ hk_ hlt_ => hf_ k_ (by have := hk_.1.1; have := HX2_.out; have := HG0.out; omega))); have HI7 := am_ (Kd.S_step HI6.out (fun k_ hk_ hlt_ => hf_ k_ (by have := hk_.1; have := HX2_.out; have := HG0.out; omega))); have BQ7 := am_ ((hf_ gq Ngq_g.out).trans BQ6.out); clear hf_; have zBV7_5 := (kc_ BV7.out.1 5).trans rfl; have fBV7_5 := kf_ BV7.out.1 5; clear hw_) | ((with_reducible refine gate_store (t := 3) (p := 62) (v := .const (.int .i64 0)) rfl ?_); refine store_event rfl (t := 3) (p := 62) (v := .const (.int .i64 0)) rfl rfl (w1 := w7.setCell ⟨g, 5, none⟩ (.int .i64 0)) ?hr ?_; (case hr => (go_simp; done)); intro w8 hw_; have BV8 := am_ (show LKv w8 (fun k => ok k ∧ k < w.heap.size) g ({ L with other := r.n0, high := 0 }) vs_ by (rw [hw_]; exact BV7.out.put (L' := { L with other := r.n0, high := 0 }) rfl 5 (.int .i64 0) rfl)); have hf_ : ∀ i, i ≠ g → w8.heap[i]? = w7.heap[i]? := fun i hi => (by rw [hw_]; rw [far1L _ _ _ _ _ hi]); have HS8 := am_ (show w.heap.size ≤ w8.heap.size by (rw [hw_]; simpa [World.setCell] using HS7.out)); have HQ8 := am_ (show Below B w w8 by (rw [hw_]; exact (HQ7.out).setCell (HBB.out g BV0.out.2.2.1) _)); have HK8 := am_ (show Kept w w8 ok by (rw [hw_]; exact kept_set (HK7.out) BV0.out.2.2.1 _)); have BX8 := am_ ((hf_ gx Ngx_g.out).trans BX7.out); have HV8 := am_ (Kd.V_step HV7.out (fun k_ hk_ hlt_ => hf_ k_ (by have := hk_.1.1; have := HX2_.out; have := HG0.out; omega))); have HI8 := am_ (Kd.S_step HI7.out (fun k_ hk_ hlt_ => hf_ k_ (by have := hk_.1; have := HX2_.out; have := HG0.out; omega))); have BQ8 := am_ ((hf_ gq Ngq_g.out).trans BQ7.out); clear hf_; have zBV8_7 := (kc_ BV8.out.1 7).trans rfl; have fBV8_7 := kf_ BV8.out.1 7; clear hw_) | ((with_reducible refine gate_store (t := 48) (p := 64) (v := .const (.int .u64 0)) rfl ?_); refine store_event rfl (t := 48) (p := 64) (v := .const (.int .u64 0)) rfl rfl (w1 := w8.setCell ⟨g, 7, none⟩ (.int .u64 0)) ?hr ?_; (case hr => (go_simp; done)); intro w9 hw_; have BV9 := am_ (show LKv w9 (fun k => ok k ∧ k < w.heap.size) g ({ L with other := r.n0, high := 0, taken := 0 }) vs_ by (rw [hw_]; exact BV8.out.put (L' := { L with other := r.n0, high := 0, taken := 0 }) rfl 7 (.int .u64 0) rfl)); have hf_ : ∀ i, i ≠ g → w9.heap[i]? = w8.heap[i]? := fun i hi => (by rw [hw_]; rw [far1L _ _ _ _ _ hi]); have HS9 := am_ (show w.heap.size ≤ w9.heap.size by (rw [hw_]; simpa [World.setCell] using HS8.out)); have HQ9 := am_ (show Below B w w9 by (rw [hw_]; exact (HQ8.out).setCell (HBB.out g BV0.out.2.2.1) _)); have HK9 := am_ (show Kept w w9 ok by (rw [hw_]; exact kept_set (HK8.out) BV0.out.2.2.1 _)); have BX9 := am_ ((hf_ gx Ngx_g.out).trans BX8.out); have HV9 := am_ (Kd.V_step HV8.out (fun k_ hk_ hlt_ => hf_ k_ (by have := hk_.1.1; have := HX2_.out; have := HG0.out; omega))); have HI9 := am_ (Kd.S_step HI8.out (fun k_ hk_ hlt_ => hf_ k_ (by have := hk_.1; have := HX2_.out; have := HG0.out; omega))); have BQ9 := am_ ((hf_ gq Ngq_g.out).trans BQ8.out); clear hf_; clear hw_))
   any_goals (exfalso; have h_ := C3.out; omega)
   go_meet
   case rel => exact ⟨{ L with other := r.n0, high := 0, taken := 0 }, ⟨by have h_ := H2.out; rw [if_pos (by have h1_ := C3.out; omega)] at h_; exact h_⟩, ⟨⟨by show (0 : Int) ≤ 0 ∧ (0 : Int) ≤ 1099511627776; omega, HN.out⟩⟩, HS9, HQ9, HK9, BV9, BX9, BQ9, HV9, HI9⟩
  have b3 : decide (L.other < r.n0) = false := decide_eq_false c3
  have C3 := am_ c3
  clear c3
  have fV_1 := kf_ BV6.out.1 1
  go_wp2
  any_goals (exfalso; have h_ := C3.out; omega)
  go_meet
  case rel => exact ⟨L, ⟨by have h_ := H2.out; rw [if_neg (by have h1_ := C3.out; omega)] at h_; exact h_⟩, ⟨⟨HH.out, HN.out⟩⟩, HS6, HQ6, HK6, BV6, BX6, BQ6, HV6, HI6⟩
 case rest =>
 clear H2 HH HN HS6 HQ6 HK6 BV6 BX6 BQ6 HV6 HI6
 obtain ⟨L1, H2, HH, HS0_, HQ0_, HK0_, BV0_, BX0_, BQ0_, HV0_, HI0_⟩ := hcut
 have b4 : link_Link_Take.G2 L1 now r = (fl, e1, L') := H2.out
 unfold link_Link_Take.G2 at b4
 have H4 := am_ b4
 clear b4 H2
 have zBQ0_0 : wc.cell? ⟨gq, 0, none⟩ = some (.int .u8 r.kd) := (kc_ BQ0_.out 0).trans rfl
 have zBQ0_1 : wc.cell? ⟨gq, 1, none⟩ = some (.int .i64 r.n0) := (kc_ BQ0_.out 1).trans rfl
 have zBQ0_2 : wc.cell? ⟨gq, 2, none⟩ = some (.int .i64 r.n1) := (kc_ BQ0_.out 2).trans rfl
 have zBQ0_3 : wc.cell? ⟨gq, 3, none⟩ = some (.int .i64 r.n2) := (kc_ BQ0_.out 3).trans rfl
 have zBQ0_4 : wc.cell? ⟨gq, 4, none⟩ = some (.int .i64 r.p1) := (kc_ BQ0_.out 4).trans rfl
 have zBQ0_5 : wc.cell? ⟨gq, 5, none⟩ = some (.int .i64 r.p2) := (kc_ BQ0_.out 5).trans rfl
 have zBQ0_6 : wc.cell? ⟨gq, 6, none⟩ = some (.int .i64 r.p3) := (kc_ BQ0_.out 6).trans rfl
 have zBQ0_7 : wc.cell? ⟨gq, 7, none⟩ = some (.int .i64 r.p4) := (kc_ BQ0_.out 7).trans rfl
 have zBQ0_8 : wc.cell? ⟨gq, 8, none⟩ = some (.int .i64 r.p5) := (kc_ BQ0_.out 8).trans rfl
 have zBQ0_9 : wc.cell? ⟨gq, 9, none⟩ = some (.int .i64 r.p6) := (kc_ BQ0_.out 9).trans rfl
 have zBQ0_10 : wc.cell? ⟨gq, 10, none⟩ = some (.slice A7 r.p7.length c7) := (kc_ BQ0_.out 10).trans rfl
 have zBQ0_11 : wc.cell? ⟨gq, 11, none⟩ = some (.slice A8 r.p8.length c8) := (kc_ BQ0_.out 11).trans rfl
 have zBVc_0 := (kc_ BV0_.out.1 0).trans rfl
 have fBVc_0 := kf_ BV0_.out.1 0
 by_cases c4 : r.n1 ≠ 0 ∧ r.n1 ≠ L1.own
 case pos =>
  have h4 := H4.out
  rw [if_pos c4] at h4
  simp only [Prod.mk.injEq] at h4
  obtain ⟨rfl, rfl, rfl⟩ := h4
  have b5 : (r.n1 != 0) = true := bne_iff_ne.mpr c4.1
  have b6 : (r.n1 != L1.own) = true := bne_iff_ne.mpr c4.2
  clear c4
  have zBX0_0 : wc.cell? ⟨gx, 0, none⟩ = some (.int .i64 0) := (kc_ BX0_.out 0).trans rfl
  have fBX0_0 := kf_ BX0_.out 0
  have zBX0_1 : wc.cell? ⟨gx, 1, none⟩ = some (.int .i64 0) := (kc_ BX0_.out 1).trans rfl
  have fBX0_1 := kf_ BX0_.out 1
  have zBX0_2 : wc.cell? ⟨gx, 2, none⟩ = some (.int .i64 0) := (kc_ BX0_.out 2).trans rfl
  have fBX0_2 := kf_ BX0_.out 2
  have zBX0_3 : wc.cell? ⟨gx, 3, none⟩ = some (.int .i64 0) := (kc_ BX0_.out 3).trans rfl
  have fBX0_3 := kf_ BX0_.out 3
  have zBX0_4 : wc.cell? ⟨gx, 4, none⟩ = some (.int .i64 0) := (kc_ BX0_.out 4).trans rfl
  have fBX0_4 := kf_ BX0_.out 4
  have zBX0_5 : wc.cell? ⟨gx, 5, none⟩ = some (.int .i64 0) := (kc_ BX0_.out 5).trans rfl
  have fBX0_5 := kf_ BX0_.out 5
  have zBX0_6 : wc.cell? ⟨gx, 6, none⟩ = some (.slice none 0 0) := (kc_ BX0_.out 6).trans rfl
  have fBX0_6 := kf_ BX0_.out 6
  have zBX0_7 : wc.cell? ⟨gx, 7, none⟩ = some (.slice none 0 0) := (kc_ BX0_.out 7).trans rfl
  have fBX0_7 := kf_ BX0_.out 7
  go_wp2_with (((with_reducible refine gate_store (t := 37) (p := 6) (v := .tmp 78) rfl ?_); refine sE 37 6 (.tmp 78) (sets gx wc 0 [.int .i64 0, .int .i64 0, .int .i64 0, .int .i64 0, .int .i64 0, .int .i64 0, .slice none 0 0, .slice none 0 0]) ?_; intro w1 hw_; have BX1 := am_ (show w1.heap[gx]? = some (.cells #[.int .i64 0, .int .i64 0, .int .i64 0, .int .i64 0, .int .i64 0, .int .i64 0, .slice none 0 0, .slice none 0 0] 37 (0, 0)) by (rw [hw_]; exact putT8_0_8 BX0_.out ..)); have hf_ : ∀ i, i ≠ gx → w1.heap[i]? = wc.heap[i]? := fun i hi => (by rw [hw_]; exact sets_far _ _ _ _ _ hi); have HS1 := am_ (show w.heap.size ≤ w1.heap.size by (rw [hw_]; rw [sets_size]; exact HS0_.out)); have HQ1 := am_ (show Below B w w1 by (rw [hw_]; exact sets_below HQ0_.out (Nat.le_trans HBW.out Ggx.out))); have HK1 := am_ (show Kept w w1 ok by (rw [hw_]; exact sets_kept (HK0_.out) Ggx.out)); have BV1 := am_ (BV0_.out.step (fun k_ hk_ hlt_ => hf_ k_ (by have := hk_.2; have := Ggx.out; omega))); have BQ1 := am_ ((hf_ gq (Ne.symm Ngx_gq.out)).trans BQ0_.out); have HV1 := am_ (Kd.V_step HV0_.out (fun k_ hk_ hlt_ => hf_ k_ (by have := hk_.1.1; have := HGX.out; omega))); have HI1 := am_ (Kd.S_step HI0_.out (fun k_ hk_ hlt_ => hf_ k_ (by have := hk_.1; have := HGX.out; omega))); clear hf_; clear hw_))
  refine bodyPost_ret (results_ctt rfl _ _ gx 37 #[.int .i64 0, .int .i64 0, .int .i64 0, .int .i64 0, .int .i64 0, .int .i64 0, .slice none 0 0, .slice none 0 0] (0, 0) _ rfl BX1.out Tryd.underlying37 rfl (by kernel_rfl)) rfl ?_
  exact ⟨⟨_, _, _, _, _, _, _, _, _, _, _, _, rfl⟩, ⟨_, BV1.out.mono (fun _ hk => Or.inl hk.1)⟩, HK1.out, HQ1.out⟩
 by_cases c5 : r.n1 = 0
 case pos =>
  have h4 := H4.out
  rw [if_neg c4] at h4
  have HF4 := am_ h4
  clear h4 c4 H4
  have b5 : (r.n1 != 0) = false := bne_eq_false_iff_eq.mpr c5
  clear c5
  obtain ⟨⟨fb, L2⟩, hfr⟩ : ∃ q, link_Link_fresh.F L1 r.n2 = q := ⟨_, rfl⟩
  have HFR := am_ hfr
  clear hfr
  have HF5 := am_ (HFR.out ▸ HF4.out)
  clear HF4
  cases fb with
  | false =>
   have h5 := HF5.out
   have h5 : (false, (7 : Int), L2) = (fl, e1, L') := h5
   simp only [Prod.mk.injEq] at h5
   obtain ⟨rfl, rfl, rfl⟩ := h5
   go_wp2_with (first | ((with_reducible refine gd_ (N := 83) rfl ?_); refine gL (some 83) Tryd.func29 #[.pointer (some ⟨g, 0, none⟩), .int .i64 r.n2] ?_; refine (link_Link_fresh.calls B g L1 (fun k => ok k ∧ k < w.heap.size) r.n2 _ ⟨_, BV0_.out⟩ HR2.out.1 HR2.out.2 HH.out.1.1 HH.out.1.2 (fun k_ hk_ => HBB.out k_ hk_.1) (Nat.le_trans HBW.out HS0_.out)).mono ?_; rintro e w1_ ⟨he, hL, hk, hb⟩; rw [HFR.out] at he hL; subst he; refine ⟨_, rfl, ?_⟩; have HS1 := am_ (Nat.le_trans HS0_.out hk.1); have HQ1 := am_ (HQ0_.out.trans hb); have HK1 := am_ (kept_trans HK0_.out hk (fun k_ hk_ _ => hk_.1)); have BX1 := am_ ((hk.2 gx (blk_lt BX0_.out) (fun h_ => by have := h_.2; have := Ggx.out; omega)).trans BX0_.out); have BQ1 := am_ ((hk.2 gq (blk_lt BQ0_.out) (fun h_ => by have := h_.2; have := Ggq.out; omega)).trans BQ0_.out); have HV1 := am_ (Kd.V_step HV0_.out (fun k_ hk_ hlt_ => hk.2 k_ hlt_ (fun h_ => by have := hk_.1.1; have := hk_.2; have := h_.2; have := HX2_.out; omega))); have HI1 := am_ (Kd.S_step HI0_.out (fun k_ hk_ hlt_ => hk.2 k_ hlt_ (fun h_ => by have := hk_.1; have := hk_.2; have := h_.2; have := HX2_.out; omega))); obtain ⟨vs2_, hL2⟩ := hL; have BV1 := am_ hL2; clear hk hb hL2; obtain ⟨zBX1_0, zBX1_1, zBX1_2, zBX1_3, zBX1_4, zBX1_5, zBX1_6, zBX1_7, fBX1_0, fBX1_1, fBX1_2, fBX1_3, fBX1_4, fBX1_5, fBX1_6, fBX1_7⟩ := cz8 BX1.out) | ((with_reducible refine gate_store (t := 37) (p := 6) (v := .tmp 85) rfl ?_); refine sE 37 6 (.tmp 85) (sets gx w1_ 0 [.int .i64 0, .int .i64 0, .int .i64 0, .int .i64 0, .int .i64 0, .int .i64 0, .slice none 0 0, .slice none 0 0]) ?_; intro w2 hw_; have BX2 := am_ (show w2.heap[gx]? = some (.cells #[.int .i64 0, .int .i64 0, .int .i64 0, .int .i64 0, .int .i64 0, .int .i64 0, .slice none 0 0, .slice none 0 0] 37 (0, 0)) by (rw [hw_]; exact putT8_0_8 BX1.out ..)); have hf_ : ∀ i, i ≠ gx → w2.heap[i]? = w1_.heap[i]? := fun i hi => (by rw [hw_]; exact sets_far _ _ _ _ _ hi); have HS2 := am_ (show w.heap.size ≤ w2.heap.size by (rw [hw_]; rw [sets_size]; exact HS1.out)); have HQ2 := am_ (show Below B w w2 by (rw [hw_]; exact sets_below HQ1.out (Nat.le_trans HBW.out Ggx.out))); have HK2 := am_ (show Kept w w2 ok by (rw [hw_]; exact sets_kept (HK1.out) Ggx.out)); have BV2 := am_ (BV1.out.step (fun k_ hk_ hlt_ => hf_ k_ (by have := hk_.2; have := Ggx.out; omega))); have BQ2 := am_ ((hf_ gq (Ne.symm Ngx_gq.out)).trans BQ1.out); have HV2 := am_ (Kd.V_step HV1.out (fun k_ hk_ hlt_ => hf_ k_ (by have := hk_.1.1; have := HGX.out; omega))); have HI2 := am_ (Kd.S_step HI1.out (fun k_ hk_ hlt_ => hf_ k_ (by have := hk_.1; have := HGX.out; omega))); clear hf_; clear hw_))
   refine bodyPost_ret (results_ctt rfl _ _ gx 37 #[.int .i64 0, .int .i64 0, .int .i64 0, .int .i64 0, .int .i64 0, .int .i64 0, .slice none 0 0, .slice none 0 0] (0, 0) _ rfl BX2.out Tryd.underlying37 rfl (by kernel_rfl)) rfl ?_
   exact ⟨⟨_, _, _, _, _, _, _, _, _, _, _, _, rfl⟩, ⟨_, BV2.out.mono (fun _ hk => Or.inl hk.1)⟩, HK2.out, HQ2.out⟩
  | true =>
  obtain ⟨hx, hhx⟩ : ∃ x, (if L2.heard < now then now else L2.heard) = x := ⟨_, rfl⟩
  have h5 := HF5.out
  have h5 : (fun L3 : LK => (decide (r.kd = 1), (0 : Int), if r.kd = 2 then putL L3 3 [] else L3)) { L2 with heard := if L2.heard < now then now else L2.heard } = (fl, e1, L') := h5
  rw [hhx] at h5
  dsimp only at h5
  simp only [Prod.mk.injEq] at h5
  obtain ⟨rfl, rfl, h6⟩ := h5
  have H6 := am_ h6
  clear h6 HF5
  by_cases c7 : r.kd = 2
  case pos =>
   have d7 : (r.kd == 2) = true := beq_iff_eq.mpr c7
   have h6 := H6.out
   rw [if_pos c7] at h6
   subst h6
   have HW2 := am_ (show ({ L2 with heard := hx } : LK).ws.length < 1000 by have h_ := congrArg (fun q => q.2.ws.length) HFR.out; simp only [fresh_ws] at h_; show L2.ws.length < 1000; rw [← h_]; exact HH.out.2)
   have H7 := am_ c7
   clear c7
   go_wp2_with (first | ((with_reducible refine gd_ (N := 83) rfl ?_); refine gL (some 83) Tryd.func29 #[.pointer (some ⟨g, 0, none⟩), .int .i64 r.n2] ?_; refine (link_Link_fresh.calls B g L1 (fun k => ok k ∧ k < w.heap.size) r.n2 _ ⟨_, BV0_.out⟩ HR2.out.1 HR2.out.2 HH.out.1.1 HH.out.1.2 (fun k_ hk_ => HBB.out k_ hk_.1) (Nat.le_trans HBW.out HS0_.out)).mono ?_; rintro e w1_ ⟨he, hL, hk, hb⟩; rw [HFR.out] at he hL; subst he; refine ⟨_, rfl, ?_⟩; have HS1 := am_ (Nat.le_trans HS0_.out hk.1); have HQ1 := am_ (HQ0_.out.trans hb); have HK1 := am_ (kept_trans HK0_.out hk (fun k_ hk_ _ => hk_.1)); have BX1 := am_ ((hk.2 gx (blk_lt BX0_.out) (fun h_ => by have := h_.2; have := Ggx.out; omega)).trans BX0_.out); have BQ1 := am_ ((hk.2 gq (blk_lt BQ0_.out) (fun h_ => by have := h_.2; have := Ggq.out; omega)).trans BQ0_.out); have HV1 := am_ (Kd.V_step HV0_.out (fun k_ hk_ hlt_ => hk.2 k_ hlt_ (fun h_ => by have := hk_.1.1; have := hk_.2; have := h_.2; have := HX2_.out; omega))); have HI1 := am_ (Kd.S_step HI0_.out (fun k_ hk_ hlt_ => hk.2 k_ hlt_ (fun h_ => by have := hk_.1; have := hk_.2; have := h_.2; have := HX2_.out; omega))); obtain ⟨vs2_, hL2⟩ := hL; have BV1 := am_ hL2; clear hk hb hL2; have zh_ := (kc_ BV1.out.1 6).trans rfl; have fh_ := kf_ BV1.out.1 6) | ((with_reducible refine gate_store (t := 3) (p := 94) (v := .tmp 92) rfl ?_); refine sE 3 94 (.tmp 92) (w1_.setCell ⟨g, 6, none⟩ (.int .i64 hx)) ?_; intro w2 hw_; have BV2 := am_ (show LKv w2 (fun k => ok k ∧ k < w.heap.size) g ({ L2 with heard := hx }) vs2_ by (rw [hw_]; exact BV1.out.put (L' := { L2 with heard := hx }) rfl 6 (.int .i64 hx) rfl)); have hf_ : ∀ i, i ≠ g → w2.heap[i]? = w1_.heap[i]? := fun i hi => (by rw [hw_]; rw [far1L _ _ _ _ _ hi]); have HS2 := am_ (show w.heap.size ≤ w2.heap.size by (rw [hw_]; simpa [World.setCell] using HS1.out)); have HQ2 := am_ (show Below B w w2 by (rw [hw_]; exact (HQ1.out).setCell (HBB.out g BV1.out.2.2.1) _)); have HK2 := am_ (show Kept w w2 ok by (rw [hw_]; exact kept_set (HK1.out) BV1.out.2.2.1 _)); have BX2 := am_ ((hf_ gx Ngx_g.out).trans BX1.out); have BQ2 := am_ ((hf_ gq Ngq_g.out).trans BQ1.out); have HV2 := am_ (Kd.V_step HV1.out (fun k_ hk_ hlt_ => hf_ k_ (by have := hk_.1.1; have := HX2_.out; have := HG0.out; omega))); have HI2 := am_ (Kd.S_step HI1.out (fun k_ hk_ hlt_ => hf_ k_ (by have := hk_.1; have := HX2_.out; have := HG0.out; omega))); clear hf_; clear hw_; have zBQ2_0 : w2.cell? ⟨gq, 0, none⟩ = some (.int .u8 r.kd) := (kc_ BQ2.out 0).trans rfl; have zBQ2_1 : w2.cell? ⟨gq, 1, none⟩ = some (.int .i64 r.n0) := (kc_ BQ2.out 1).trans rfl; have zBQ2_2 : w2.cell? ⟨gq, 2, none⟩ = some (.int .i64 r.n1) := (kc_ BQ2.out 2).trans rfl; have zBQ2_3 : w2.cell? ⟨gq, 3, none⟩ = some (.int .i64 r.n2) := (kc_ BQ2.out 3).trans rfl; have zBQ2_4 : w2.cell? ⟨gq, 4, none⟩ = some (.int .i64 r.p1) := (kc_ BQ2.out 4).trans rfl; have zBQ2_5 : w2.cell? ⟨gq, 5, none⟩ = some (.int .i64 r.p2) := (kc_ BQ2.out 5).trans rfl; have zBQ2_6 : w2.cell? ⟨gq, 6, none⟩ = some (.int .i64 r.p3) := (kc_ BQ2.out 6).trans rfl; have zBQ2_7 : w2.cell? ⟨gq, 7, none⟩ = some (.int .i64 r.p4) := (kc_ BQ2.out 7).trans rfl; have zBQ2_8 : w2.cell? ⟨gq, 8, none⟩ = some (.int .i64 r.p5) := (kc_ BQ2.out 8).trans rfl; have zBQ2_9 : w2.cell? ⟨gq, 9, none⟩ = some (.int .i64 r.p6) := (kc_ BQ2.out 9).trans rfl; have zBQ2_10 : w2.cell? ⟨gq, 10, none⟩ = some (.slice A7 r.p7.length c7) := (kc_ BQ2.out 10).trans rfl; have zBQ2_11 : w2.cell? ⟨gq, 11, none⟩ = some (.slice A8 r.p8.length c8) := (kc_ BQ2.out 11).trans rfl) | ((with_reducible refine gd_ (N := 99) rfl ?_); refine gL (some 99) Tryd.func22 #[.pointer (some ⟨g, 0, none⟩), .int .u8 3, .slice none ([] : List Int).length 0] ?_; refine (link_Link_put.calls B g ({ L2 with heard := hx }) (fun k => ok k ∧ k < w.heap.size) (fun _ => False) 3 none 0 [] _ ⟨_, BV2.out⟩ (Kd.R_nil _ _ _ _ _) (fun _ h_ => h_.elim) HW2.out (fun k_ hk_ => HBB.out k_ hk_.1) (Nat.le_trans HBW.out HS2.out)).mono ?_; rintro e w3 ⟨he, hL, hk, hb⟩; subst he; refine ⟨_, rfl, ?_⟩; have HS3 := am_ (Nat.le_trans HS2.out hk.1); have HQ3 := am_ (HQ2.out.trans hb); have HK3 := am_ (kept_trans HK2.out hk (fun k_ hk_ _ => hk_.1)); have BX3 := am_ ((hk.2 gx (blk_lt BX2.out) (fun h_ => by have := h_.2; have := Ggx.out; omega)).trans BX2.out); have BQ3 := am_ ((hk.2 gq (blk_lt BQ2.out) (fun h_ => by have := h_.2; have := Ggq.out; omega)).trans BQ2.out); have HV3 := am_ (Kd.V_step HV2.out (fun k_ hk_ hlt_ => hk.2 k_ hlt_ (fun h_ => by have := hk_.1.1; have := hk_.2; have := h_.2; have := HX2_.out; omega))); have HI3 := am_ (Kd.S_step HI2.out (fun k_ hk_ hlt_ => hk.2 k_ hlt_ (fun h_ => by have := hk_.1; have := hk_.2; have := h_.2; have := HX2_.out; omega))); have HL3 := am_ hL; clear hL hk hb))
   refine start_ (n := 8) (S := fun w' => w'.heap[gq]? = some (.cells #[.int .u8 r.kd, .int .i64 r.n0, .int .i64 r.n1, .int .i64 r.n2, .int .i64 r.p1, .int .i64 r.p2, .int .i64 r.p3, .int .i64 r.p4, .int .i64 r.p5, .int .i64 r.p6, .slice A7 r.p7.length c7, .slice A8 r.p8.length c8] 85 (0, 0))) (ds := []) #[false, false, false, false, false, false, false, false] (by kernel_rfl) rfl rfl (kd_ BQ3.out) (fun hHeld => ?_)
   refine with_tabW link_Link_Take.tab20 link_Link_Take.bits20 (fun HT_ HW_ => ?_)
   have hb_ : Below w3.heap.size w3 w3.drew := below_drew (Below.refl _ _)
   have HS4 := am_ (Nat.le_trans HS3.out hb_.size)
   have HQ4 := am_ (HQ3.out.trans (hb_.mono (Nat.le_trans HBW.out HS3.out)))
   have HK4 := am_ (kept_below HK3.out hb_)
   have BX4 := am_ (blk_below BX3.out hb_)
   have BQ4 := am_ (blk_below BQ3.out hb_)
   have HV4 := am_ (Kd.V_step HV3.out (fun k_ hk_ hlt_ => hb_.block k_ hlt_))
   have HI4 := am_ (Kd.S_step HI3.out (fun k_ hk_ hlt_ => hb_.block k_ hlt_))
   have HL4 := am_ (HL3.out.below hb_)
   clear hb_
   generalize w3.drew = w4 at HS4 HQ4 HK4 BX4 BQ4 HV4 HI4 HL4 hHeld ⊢
   refine pA 0 (some 100) #[o1,o0,o0,o0,o0,o0,o0,o0] HT_ ?_
   refine tA (v := ?_) 1 (some 101) #[o1,o1,o0,o0,o0,o0,o0,o0] HT_ HW_ hHeld ?_ ?_
   rotate_left
   ·
    rintro w' s0
    have q4_ := (kc_ s0 4).trans rfl
    have q5_ := (kc_ s0 5).trans rfl
    have q6_ := (kc_ s0 6).trans rfl
    have q7_ := (kc_ s0 7).trans rfl
    have q8_ := (kc_ s0 8).trans rfl
    have q9_ := (kc_ s0 9).trans rfl
    have q10_ := (kc_ s0 10).trans rfl
    have q11_ := (kc_ s0 11).trans rfl
    go_simp
    with_reducible rfl
   refine pA 2 (some 102) #[o1,o1,o1,o0,o0,o0,o0,o0] HT_ ?_
   refine tA (v := ?_) 3 (some 103) #[o1,o1,o1,o1,o0,o0,o0,o0] HT_ HW_ hHeld ?_ ?_
   rotate_left
   ·
    rintro w' s0
    have q_ := (kc_ s0 0).trans rfl
    go_simp
    with_reducible rfl
   refine pA 4 (some 104) #[o1,o1,o1,o1,o1,o0,o0,o0] HT_ ?_
   have zBX4_0 : w4.cell? ⟨gx, 0, none⟩ = some (.int .i64 0) := (kc_ BX4.out 0).trans rfl
   have fBX4_0 := kf_ BX4.out 0
   have zBX4_1 : w4.cell? ⟨gx, 1, none⟩ = some (.int .i64 0) := (kc_ BX4.out 1).trans rfl
   have fBX4_1 := kf_ BX4.out 1
   have zBX4_2 : w4.cell? ⟨gx, 2, none⟩ = some (.int .i64 0) := (kc_ BX4.out 2).trans rfl
   have fBX4_2 := kf_ BX4.out 2
   have zBX4_3 : w4.cell? ⟨gx, 3, none⟩ = some (.int .i64 0) := (kc_ BX4.out 3).trans rfl
   have fBX4_3 := kf_ BX4.out 3
   have zBX4_4 : w4.cell? ⟨gx, 4, none⟩ = some (.int .i64 0) := (kc_ BX4.out 4).trans rfl
   have fBX4_4 := kf_ BX4.out 4
   have zBX4_5 : w4.cell? ⟨gx, 5, none⟩ = some (.int .i64 0) := (kc_ BX4.out 5).trans rfl
   have fBX4_5 := kf_ BX4.out 5
   have zBX4_6 : w4.cell? ⟨gx, 6, none⟩ = some (.slice none 0 0) := (kc_ BX4.out 6).trans rfl
   have fBX4_6 := kf_ BX4.out 6
   have zBX4_7 : w4.cell? ⟨gx, 7, none⟩ = some (.slice none 0 0) := (kc_ BX4.out 7).trans rfl
   have fBX4_7 := kf_ BX4.out 7
   refine nO 5 none #[o1,o1,o1,o1,o1,o1,o0,o0] HT_ (fun K hK => ?_)
   refine skip_ (w1 := ((((((((w4.setCell ⟨gx, 0, none⟩ (.int .i64 r.p1)).setCell ⟨gx, 1, none⟩ (.int .i64 r.p2)).setCell ⟨gx, 2, none⟩ (.int .i64 r.p3)).setCell ⟨gx, 3, none⟩ (.int .i64 r.p4)).setCell ⟨gx, 4, none⟩ (.int .i64 r.p5)).setCell ⟨gx, 5, none⟩ (.int .i64 r.p6)).setCell ⟨gx, 6, none⟩ (.slice A7 r.p7.length c7)).setCell ⟨gx, 7, none⟩ (.slice A8 r.p8.length c8))) (by rfl) rfl ?_ ?_
   ·
    go_simp
   refine hK.out _ _ (show (((((((((w4.setCell ⟨gx, 0, none⟩ (.int .i64 r.p1)).setCell ⟨gx, 1, none⟩ (.int .i64 r.p2)).setCell ⟨gx, 2, none⟩ (.int .i64 r.p3)).setCell ⟨gx, 3, none⟩ (.int .i64 r.p4)).setCell ⟨gx, 4, none⟩ (.int .i64 r.p5)).setCell ⟨gx, 5, none⟩ (.int .i64 r.p6)).setCell ⟨gx, 6, none⟩ (.slice A7 r.p7.length c7)).setCell ⟨gx, 7, none⟩ (.slice A8 r.p8.length c8))).heap[gq]? = some (.cells #[.int .u8 r.kd, .int .i64 r.n0, .int .i64 r.n1, .int .i64 r.n2, .int .i64 r.p1, .int .i64 r.p2, .int .i64 r.p3, .int .i64 r.p4, .int .i64 r.p5, .int .i64 r.p6, .slice A7 r.p7.length c7, .slice A8 r.p8.length c8] 85 (0, 0)) by (rw [far1L _ _ _ _ _ (Ne.symm Ngx_gq.out), far1L _ _ _ _ _ (Ne.symm Ngx_gq.out), far1L _ _ _ _ _ (Ne.symm Ngx_gq.out), far1L _ _ _ _ _ (Ne.symm Ngx_gq.out), far1L _ _ _ _ _ (Ne.symm Ngx_gq.out), far1L _ _ _ _ _ (Ne.symm Ngx_gq.out), far1L _ _ _ _ _ (Ne.symm Ngx_gq.out), far1L _ _ _ _ _ (Ne.symm Ngx_gq.out)]; exact BQ4.out)) (fun hHeld => ?_)
   clear hK K
   clear hHeld
   obtain ⟨w5, hw_⟩ : ∃ x, x = ((((((((w4.setCell ⟨gx, 0, none⟩ (.int .i64 r.p1)).setCell ⟨gx, 1, none⟩ (.int .i64 r.p2)).setCell ⟨gx, 2, none⟩ (.int .i64 r.p3)).setCell ⟨gx, 3, none⟩ (.int .i64 r.p4)).setCell ⟨gx, 4, none⟩ (.int .i64 r.p5)).setCell ⟨gx, 5, none⟩ (.int .i64 r.p6)).setCell ⟨gx, 6, none⟩ (.slice A7 r.p7.length c7)).setCell ⟨gx, 7, none⟩ (.slice A8 r.p8.length c8)) := ⟨_, rfl⟩
   rw [← hw_]
   have BX5 := am_ (show w5.heap[gx]? = some (.cells #[.int .i64 r.p1, .int .i64 r.p2, .int .i64 r.p3, .int .i64 r.p4, .int .i64 r.p5, .int .i64 r.p6, .slice A7 r.p7.length c7, .slice A8 r.p8.length c8] 37 (0, 0)) by (rw [hw_]; exact putT8_0_8 BX4.out (.int .i64 r.p1) (.int .i64 r.p2) (.int .i64 r.p3) (.int .i64 r.p4) (.int .i64 r.p5) (.int .i64 r.p6) (.slice A7 r.p7.length c7) (.slice A8 r.p8.length c8)))
   have hf_ : ∀ i, i ≠ gx → w5.heap[i]? = w4.heap[i]? := fun i hi => (by rw [hw_]; rw [far1L _ _ _ _ _ hi, far1L _ _ _ _ _ hi, far1L _ _ _ _ _ hi, far1L _ _ _ _ _ hi, far1L _ _ _ _ _ hi, far1L _ _ _ _ _ hi, far1L _ _ _ _ _ hi, far1L _ _ _ _ _ hi])
   have HS5 := am_ (show w.heap.size ≤ w5.heap.size by (rw [hw_]; simpa [World.setCell] using HS4.out))
   have HQ5 := am_ (show Below B w w5 by (rw [hw_]; exact ((((((((HQ4.out).setCell (Nat.le_trans HBW.out Ggx.out) _).setCell (Nat.le_trans HBW.out Ggx.out) _).setCell (Nat.le_trans HBW.out Ggx.out) _).setCell (Nat.le_trans HBW.out Ggx.out) _).setCell (Nat.le_trans HBW.out Ggx.out) _).setCell (Nat.le_trans HBW.out Ggx.out) _).setCell (Nat.le_trans HBW.out Ggx.out) _).setCell (Nat.le_trans HBW.out Ggx.out) _))
   have HK5 := am_ (show Kept w w5 ok by (rw [hw_]; exact kept_new (kept_new (kept_new (kept_new (kept_new (kept_new (kept_new (kept_new (HK4.out) Ggx.out _) Ggx.out _) Ggx.out _) Ggx.out _) Ggx.out _) Ggx.out _) Ggx.out _) Ggx.out _))
   have BQ5 := am_ ((hf_ gq (Ne.symm Ngx_gq.out)).trans BQ4.out)
   have HV5 := am_ (Kd.V_step HV4.out (fun k_ hk_ hlt_ => hf_ k_ (by have := hk_.1.1; have := HGX.out; omega)))
   have HI5 := am_ (Kd.S_step HI4.out (fun k_ hk_ hlt_ => hf_ k_ (by have := hk_.1; have := HGX.out; omega)))
   have HL5 := am_ (HL4.out.step (fun k_ hk_ hlt_ => hf_ k_ (by obtain hk_ | hk_ | hk_ := hk_; (· exact fun e_ => (by have h1_ := hk_.2; have h2_ := Ggx.out; omega)); (· exact hk_.elim); (· exact fun e_ => (by have h1_ := blk_lt BX2.out; omega)))))
   clear hf_
   clear hw_
   refine pA 6 (some 7) #[o1,o1,o1,o1,o1,o1,o1,o0] HT_ ?_
   refine pA 7 (some 8) #[o1,o1,o1,o1,o1,o1,o1,o1] HT_ ?_
   refine dA HT_ ?_
   go_wp2
   refine bodyPost_ret (results_ctt rfl _ _ gx 37 #[.int .i64 r.p1, .int .i64 r.p2, .int .i64 r.p3, .int .i64 r.p4, .int .i64 r.p5, .int .i64 r.p6, .slice A7 r.p7.length c7, .slice A8 r.p8.length c8] (0, 0) _ rfl BX5.out Tryd.underlying37 rfl (by kernel_rfl)) rfl ?_
   exact ⟨_, _, _, _, _, _, _, _, _, _, _, _, rfl, (by exact fun r3_ hr3_ => (by cases hr3_; exact ⟨⟨rfl, rfl, rfl, rfl, rfl, rfl, rfl, rfl, rfl, rfl⟩, rfl, rfl, Kd.V_mono (Kd.V_lower HV5.out HX2_.out) (fun _ h_ => ⟨Nat.le_trans HX2_.out h_.1.1, h_.1.2⟩), Kd.S_mono HI5.out (fun _ _ => trivial)⟩)), HL5.out.mono (fun k_ hk_ => by rcases hk_ with hk_ | hk_ | hk_; exact Or.inl hk_.1; exact hk_.elim; exact Or.inr (Nat.le_trans HS2.out hk_)), HK5.out, HQ5.out⟩
  have d7 : (r.kd == 2) = false := beq_eq_false_iff_ne.mpr c7
  have h6 := H6.out
  rw [if_neg c7] at h6
  subst h6
  clear c7
  go_wp2_with (first | ((with_reducible refine gd_ (N := 83) rfl ?_); refine gL (some 83) Tryd.func29 #[.pointer (some ⟨g, 0, none⟩), .int .i64 r.n2] ?_; refine (link_Link_fresh.calls B g L1 (fun k => ok k ∧ k < w.heap.size) r.n2 _ ⟨_, BV0_.out⟩ HR2.out.1 HR2.out.2 HH.out.1.1 HH.out.1.2 (fun k_ hk_ => HBB.out k_ hk_.1) (Nat.le_trans HBW.out HS0_.out)).mono ?_; rintro e w1_ ⟨he, hL, hk, hb⟩; rw [HFR.out] at he hL; subst he; refine ⟨_, rfl, ?_⟩; have HS1 := am_ (Nat.le_trans HS0_.out hk.1); have HQ1 := am_ (HQ0_.out.trans hb); have HK1 := am_ (kept_trans HK0_.out hk (fun k_ hk_ _ => hk_.1)); have BX1 := am_ ((hk.2 gx (blk_lt BX0_.out) (fun h_ => by have := h_.2; have := Ggx.out; omega)).trans BX0_.out); have BQ1 := am_ ((hk.2 gq (blk_lt BQ0_.out) (fun h_ => by have := h_.2; have := Ggq.out; omega)).trans BQ0_.out); have HV1 := am_ (Kd.V_step HV0_.out (fun k_ hk_ hlt_ => hk.2 k_ hlt_ (fun h_ => by have := hk_.1.1; have := hk_.2; have := h_.2; have := HX2_.out; omega))); have HI1 := am_ (Kd.S_step HI0_.out (fun k_ hk_ hlt_ => hk.2 k_ hlt_ (fun h_ => by have := hk_.1; have := hk_.2; have := h_.2; have := HX2_.out; omega))); obtain ⟨vs2_, hL2⟩ := hL; have BV1 := am_ hL2; clear hk hb hL2; have zh_ := (kc_ BV1.out.1 6).trans rfl; have fh_ := kf_ BV1.out.1 6) | ((with_reducible refine gate_store (t := 3) (p := 94) (v := .tmp 92) rfl ?_); refine sE 3 94 (.tmp 92) (w1_.setCell ⟨g, 6, none⟩ (.int .i64 hx)) ?_; intro w2 hw_; have BV2 := am_ (show LKv w2 (fun k => ok k ∧ k < w.heap.size) g ({ L2 with heard := hx }) vs2_ by (rw [hw_]; exact BV1.out.put (L' := { L2 with heard := hx }) rfl 6 (.int .i64 hx) rfl)); have hf_ : ∀ i, i ≠ g → w2.heap[i]? = w1_.heap[i]? := fun i hi => (by rw [hw_]; rw [far1L _ _ _ _ _ hi]); have HS2 := am_ (show w.heap.size ≤ w2.heap.size by (rw [hw_]; simpa [World.setCell] using HS1.out)); have HQ2 := am_ (show Below B w w2 by (rw [hw_]; exact (HQ1.out).setCell (HBB.out g BV1.out.2.2.1) _)); have HK2 := am_ (show Kept w w2 ok by (rw [hw_]; exact kept_set (HK1.out) BV1.out.2.2.1 _)); have BX2 := am_ ((hf_ gx Ngx_g.out).trans BX1.out); have BQ2 := am_ ((hf_ gq Ngq_g.out).trans BQ1.out); have HV2 := am_ (Kd.V_step HV1.out (fun k_ hk_ hlt_ => hf_ k_ (by have := hk_.1.1; have := HX2_.out; have := HG0.out; omega))); have HI2 := am_ (Kd.S_step HI1.out (fun k_ hk_ hlt_ => hf_ k_ (by have := hk_.1; have := HX2_.out; have := HG0.out; omega))); clear hf_; clear hw_; have zBQ2_0 : w2.cell? ⟨gq, 0, none⟩ = some (.int .u8 r.kd) := (kc_ BQ2.out 0).trans rfl; have zBQ2_1 : w2.cell? ⟨gq, 1, none⟩ = some (.int .i64 r.n0) := (kc_ BQ2.out 1).trans rfl; have zBQ2_2 : w2.cell? ⟨gq, 2, none⟩ = some (.int .i64 r.n1) := (kc_ BQ2.out 2).trans rfl; have zBQ2_3 : w2.cell? ⟨gq, 3, none⟩ = some (.int .i64 r.n2) := (kc_ BQ2.out 3).trans rfl; have zBQ2_4 : w2.cell? ⟨gq, 4, none⟩ = some (.int .i64 r.p1) := (kc_ BQ2.out 4).trans rfl; have zBQ2_5 : w2.cell? ⟨gq, 5, none⟩ = some (.int .i64 r.p2) := (kc_ BQ2.out 5).trans rfl; have zBQ2_6 : w2.cell? ⟨gq, 6, none⟩ = some (.int .i64 r.p3) := (kc_ BQ2.out 6).trans rfl; have zBQ2_7 : w2.cell? ⟨gq, 7, none⟩ = some (.int .i64 r.p4) := (kc_ BQ2.out 7).trans rfl; have zBQ2_8 : w2.cell? ⟨gq, 8, none⟩ = some (.int .i64 r.p5) := (kc_ BQ2.out 8).trans rfl; have zBQ2_9 : w2.cell? ⟨gq, 9, none⟩ = some (.int .i64 r.p6) := (kc_ BQ2.out 9).trans rfl; have zBQ2_10 : w2.cell? ⟨gq, 10, none⟩ = some (.slice A7 r.p7.length c7) := (kc_ BQ2.out 10).trans rfl; have zBQ2_11 : w2.cell? ⟨gq, 11, none⟩ = some (.slice A8 r.p8.length c8) := (kc_ BQ2.out 11).trans rfl))
  refine start_ (n := 8) (S := fun w' => w'.heap[gq]? = some (.cells #[.int .u8 r.kd, .int .i64 r.n0, .int .i64 r.n1, .int .i64 r.n2, .int .i64 r.p1, .int .i64 r.p2, .int .i64 r.p3, .int .i64 r.p4, .int .i64 r.p5, .int .i64 r.p6, .slice A7 r.p7.length c7, .slice A8 r.p8.length c8] 85 (0, 0))) (ds := []) #[false, false, false, false, false, false, false, false] (by kernel_rfl) rfl rfl (kd_ BQ2.out) (fun hHeld => ?_)
  refine with_tabW link_Link_Take.tab20 link_Link_Take.bits20 (fun HT_ HW_ => ?_)
  have hb_ : Below w2.heap.size w2 w2.drew := below_drew (Below.refl _ _)
  have HS3 := am_ (Nat.le_trans HS2.out hb_.size)
  have HQ3 := am_ (HQ2.out.trans (hb_.mono (Nat.le_trans HBW.out HS2.out)))
  have HK3 := am_ (kept_below HK2.out hb_)
  have BX3 := am_ (blk_below BX2.out hb_)
  have BQ3 := am_ (blk_below BQ2.out hb_)
  have HV3 := am_ (Kd.V_step HV2.out (fun k_ hk_ hlt_ => hb_.block k_ hlt_))
  have HI3 := am_ (Kd.S_step HI2.out (fun k_ hk_ hlt_ => hb_.block k_ hlt_))
  have BV3 := am_ (BV2.out.keepB hb_)
  clear hb_
  generalize w2.drew = w3 at HS3 HQ3 HK3 BX3 BQ3 HV3 HI3 BV3 hHeld ⊢
  refine pA 0 (some 100) #[o1,o0,o0,o0,o0,o0,o0,o0] HT_ ?_
  refine tA (v := ?_) 1 (some 101) #[o1,o1,o0,o0,o0,o0,o0,o0] HT_ HW_ hHeld ?_ ?_
  rotate_left
  ·
   rintro w' s0
   have q4_ := (kc_ s0 4).trans rfl
   have q5_ := (kc_ s0 5).trans rfl
   have q6_ := (kc_ s0 6).trans rfl
   have q7_ := (kc_ s0 7).trans rfl
   have q8_ := (kc_ s0 8).trans rfl
   have q9_ := (kc_ s0 9).trans rfl
   have q10_ := (kc_ s0 10).trans rfl
   have q11_ := (kc_ s0 11).trans rfl
   go_simp
   with_reducible rfl
  refine pA 2 (some 102) #[o1,o1,o1,o0,o0,o0,o0,o0] HT_ ?_
  refine tA (v := ?_) 3 (some 103) #[o1,o1,o1,o1,o0,o0,o0,o0] HT_ HW_ hHeld ?_ ?_
  rotate_left
  ·
   rintro w' s0
   have q_ := (kc_ s0 0).trans rfl
   go_simp
   with_reducible rfl
  refine pA 4 (some 104) #[o1,o1,o1,o1,o1,o0,o0,o0] HT_ ?_
  have zBX3_0 : w3.cell? ⟨gx, 0, none⟩ = some (.int .i64 0) := (kc_ BX3.out 0).trans rfl
  have fBX3_0 := kf_ BX3.out 0
  have zBX3_1 : w3.cell? ⟨gx, 1, none⟩ = some (.int .i64 0) := (kc_ BX3.out 1).trans rfl
  have fBX3_1 := kf_ BX3.out 1
  have zBX3_2 : w3.cell? ⟨gx, 2, none⟩ = some (.int .i64 0) := (kc_ BX3.out 2).trans rfl
  have fBX3_2 := kf_ BX3.out 2
  have zBX3_3 : w3.cell? ⟨gx, 3, none⟩ = some (.int .i64 0) := (kc_ BX3.out 3).trans rfl
  have fBX3_3 := kf_ BX3.out 3
  have zBX3_4 : w3.cell? ⟨gx, 4, none⟩ = some (.int .i64 0) := (kc_ BX3.out 4).trans rfl
  have fBX3_4 := kf_ BX3.out 4
  have zBX3_5 : w3.cell? ⟨gx, 5, none⟩ = some (.int .i64 0) := (kc_ BX3.out 5).trans rfl
  have fBX3_5 := kf_ BX3.out 5
  have zBX3_6 : w3.cell? ⟨gx, 6, none⟩ = some (.slice none 0 0) := (kc_ BX3.out 6).trans rfl
  have fBX3_6 := kf_ BX3.out 6
  have zBX3_7 : w3.cell? ⟨gx, 7, none⟩ = some (.slice none 0 0) := (kc_ BX3.out 7).trans rfl
  have fBX3_7 := kf_ BX3.out 7
  refine nO 5 none #[o1,o1,o1,o1,o1,o1,o0,o0] HT_ (fun K hK => ?_)
  refine skip_ (w1 := ((((((((w3.setCell ⟨gx, 0, none⟩ (.int .i64 r.p1)).setCell ⟨gx, 1, none⟩ (.int .i64 r.p2)).setCell ⟨gx, 2, none⟩ (.int .i64 r.p3)).setCell ⟨gx, 3, none⟩ (.int .i64 r.p4)).setCell ⟨gx, 4, none⟩ (.int .i64 r.p5)).setCell ⟨gx, 5, none⟩ (.int .i64 r.p6)).setCell ⟨gx, 6, none⟩ (.slice A7 r.p7.length c7)).setCell ⟨gx, 7, none⟩ (.slice A8 r.p8.length c8))) (by rfl) rfl ?_ ?_
  ·
   go_simp
  refine hK.out _ _ (show (((((((((w3.setCell ⟨gx, 0, none⟩ (.int .i64 r.p1)).setCell ⟨gx, 1, none⟩ (.int .i64 r.p2)).setCell ⟨gx, 2, none⟩ (.int .i64 r.p3)).setCell ⟨gx, 3, none⟩ (.int .i64 r.p4)).setCell ⟨gx, 4, none⟩ (.int .i64 r.p5)).setCell ⟨gx, 5, none⟩ (.int .i64 r.p6)).setCell ⟨gx, 6, none⟩ (.slice A7 r.p7.length c7)).setCell ⟨gx, 7, none⟩ (.slice A8 r.p8.length c8))).heap[gq]? = some (.cells #[.int .u8 r.kd, .int .i64 r.n0, .int .i64 r.n1, .int .i64 r.n2, .int .i64 r.p1, .int .i64 r.p2, .int .i64 r.p3, .int .i64 r.p4, .int .i64 r.p5, .int .i64 r.p6, .slice A7 r.p7.length c7, .slice A8 r.p8.length c8] 85 (0, 0)) by (rw [far1L _ _ _ _ _ (Ne.symm Ngx_gq.out), far1L _ _ _ _ _ (Ne.symm Ngx_gq.out), far1L _ _ _ _ _ (Ne.symm Ngx_gq.out), far1L _ _ _ _ _ (Ne.symm Ngx_gq.out), far1L _ _ _ _ _ (Ne.symm Ngx_gq.out), far1L _ _ _ _ _ (Ne.symm Ngx_gq.out), far1L _ _ _ _ _ (Ne.symm Ngx_gq.out), far1L _ _ _ _ _ (Ne.symm Ngx_gq.out)]; exact BQ3.out)) (fun hHeld => ?_)
  clear hK K
  clear hHeld
  obtain ⟨w4, hw_⟩ : ∃ x, x = ((((((((w3.setCell ⟨gx, 0, none⟩ (.int .i64 r.p1)).setCell ⟨gx, 1, none⟩ (.int .i64 r.p2)).setCell ⟨gx, 2, none⟩ (.int .i64 r.p3)).setCell ⟨gx, 3, none⟩ (.int .i64 r.p4)).setCell ⟨gx, 4, none⟩ (.int .i64 r.p5)).setCell ⟨gx, 5, none⟩ (.int .i64 r.p6)).setCell ⟨gx, 6, none⟩ (.slice A7 r.p7.length c7)).setCell ⟨gx, 7, none⟩ (.slice A8 r.p8.length c8)) := ⟨_, rfl⟩
  rw [← hw_]
  have BX4 := am_ (show w4.heap[gx]? = some (.cells #[.int .i64 r.p1, .int .i64 r.p2, .int .i64 r.p3, .int .i64 r.p4, .int .i64 r.p5, .int .i64 r.p6, .slice A7 r.p7.length c7, .slice A8 r.p8.length c8] 37 (0, 0)) by (rw [hw_]; exact putT8_0_8 BX3.out (.int .i64 r.p1) (.int .i64 r.p2) (.int .i64 r.p3) (.int .i64 r.p4) (.int .i64 r.p5) (.int .i64 r.p6) (.slice A7 r.p7.length c7) (.slice A8 r.p8.length c8)))
  have hf_ : ∀ i, i ≠ gx → w4.heap[i]? = w3.heap[i]? := fun i hi => (by rw [hw_]; rw [far1L _ _ _ _ _ hi, far1L _ _ _ _ _ hi, far1L _ _ _ _ _ hi, far1L _ _ _ _ _ hi, far1L _ _ _ _ _ hi, far1L _ _ _ _ _ hi, far1L _ _ _ _ _ hi, far1L _ _ _ _ _ hi])
  have HS4 := am_ (show w.heap.size ≤ w4.heap.size by (rw [hw_]; simpa [World.setCell] using HS3.out))
  have HQ4 := am_ (show Below B w w4 by (rw [hw_]; exact ((((((((HQ3.out).setCell (Nat.le_trans HBW.out Ggx.out) _).setCell (Nat.le_trans HBW.out Ggx.out) _).setCell (Nat.le_trans HBW.out Ggx.out) _).setCell (Nat.le_trans HBW.out Ggx.out) _).setCell (Nat.le_trans HBW.out Ggx.out) _).setCell (Nat.le_trans HBW.out Ggx.out) _).setCell (Nat.le_trans HBW.out Ggx.out) _).setCell (Nat.le_trans HBW.out Ggx.out) _))
  have HK4 := am_ (show Kept w w4 ok by (rw [hw_]; exact kept_new (kept_new (kept_new (kept_new (kept_new (kept_new (kept_new (kept_new (HK3.out) Ggx.out _) Ggx.out _) Ggx.out _) Ggx.out _) Ggx.out _) Ggx.out _) Ggx.out _) Ggx.out _))
  have BQ4 := am_ ((hf_ gq (Ne.symm Ngx_gq.out)).trans BQ3.out)
  have HV4 := am_ (Kd.V_step HV3.out (fun k_ hk_ hlt_ => hf_ k_ (by have := hk_.1.1; have := HGX.out; omega)))
  have HI4 := am_ (Kd.S_step HI3.out (fun k_ hk_ hlt_ => hf_ k_ (by have := hk_.1; have := HGX.out; omega)))
  have BV4 := am_ (BV3.out.step (fun k_ hk_ hlt_ => hf_ k_ (by have := hk_.2; have := Ggx.out; omega)))
  clear hf_
  clear hw_
  refine pA 6 (some 7) #[o1,o1,o1,o1,o1,o1,o1,o0] HT_ ?_
  refine pA 7 (some 8) #[o1,o1,o1,o1,o1,o1,o1,o1] HT_ ?_
  refine dA HT_ ?_
  go_wp2
  refine bodyPost_ret (results_ctt rfl _ _ gx 37 #[.int .i64 r.p1, .int .i64 r.p2, .int .i64 r.p3, .int .i64 r.p4, .int .i64 r.p5, .int .i64 r.p6, .slice A7 r.p7.length c7, .slice A8 r.p8.length c8] (0, 0) _ rfl BX4.out Tryd.underlying37 rfl (by kernel_rfl)) rfl ?_
  exact ⟨_, _, _, _, _, _, _, _, _, _, _, _, rfl, (by exact fun r3_ hr3_ => (by cases hr3_; exact ⟨⟨rfl, rfl, rfl, rfl, rfl, rfl, rfl, rfl, rfl, rfl⟩, rfl, rfl, Kd.V_mono (Kd.V_lower HV4.out HX2_.out) (fun _ h_ => ⟨Nat.le_trans HX2_.out h_.1.1, h_.1.2⟩), Kd.S_mono HI4.out (fun _ _ => trivial)⟩)), ⟨_, BV4.out.mono (fun _ hk_ => Or.inl hk_.1)⟩, HK4.out, HQ4.out⟩
 have c6 : r.n1 = L1.own := by rcases Classical.em (r.n1 = L1.own) with h_ | h_; exact h_; exact absurd ⟨c5, h_⟩ c4
 have h4 := H4.out
 rw [if_neg c4] at h4
 have HF4 := am_ h4
 clear h4 c4 H4
 have b5 : (r.n1 != 0) = true := bne_iff_ne.mpr c5
 have b6 : (r.n1 != L1.own) = false := bne_eq_false_iff_eq.mpr c6
 clear c5 c6
 obtain ⟨⟨fb, L2⟩, hfr⟩ : ∃ q, link_Link_fresh.F L1 r.n2 = q := ⟨_, rfl⟩
 have HFR := am_ hfr
 clear hfr
 have HF5 := am_ (HFR.out ▸ HF4.out)
 clear HF4
 cases fb with
 | false =>
  have h5 := HF5.out
  have h5 : (false, (7 : Int), L2) = (fl, e1, L') := h5
  simp only [Prod.mk.injEq] at h5
  obtain ⟨rfl, rfl, rfl⟩ := h5
  go_wp2_with (first | ((with_reducible refine gd_ (N := 83) rfl ?_); refine gL (some 83) Tryd.func29 #[.pointer (some ⟨g, 0, none⟩), .int .i64 r.n2] ?_; refine (link_Link_fresh.calls B g L1 (fun k => ok k ∧ k < w.heap.size) r.n2 _ ⟨_, BV0_.out⟩ HR2.out.1 HR2.out.2 HH.out.1.1 HH.out.1.2 (fun k_ hk_ => HBB.out k_ hk_.1) (Nat.le_trans HBW.out HS0_.out)).mono ?_; rintro e w1_ ⟨he, hL, hk, hb⟩; rw [HFR.out] at he hL; subst he; refine ⟨_, rfl, ?_⟩; have HS1 := am_ (Nat.le_trans HS0_.out hk.1); have HQ1 := am_ (HQ0_.out.trans hb); have HK1 := am_ (kept_trans HK0_.out hk (fun k_ hk_ _ => hk_.1)); have BX1 := am_ ((hk.2 gx (blk_lt BX0_.out) (fun h_ => by have := h_.2; have := Ggx.out; omega)).trans BX0_.out); have BQ1 := am_ ((hk.2 gq (blk_lt BQ0_.out) (fun h_ => by have := h_.2; have := Ggq.out; omega)).trans BQ0_.out); have HV1 := am_ (Kd.V_step HV0_.out (fun k_ hk_ hlt_ => hk.2 k_ hlt_ (fun h_ => by have := hk_.1.1; have := hk_.2; have := h_.2; have := HX2_.out; omega))); have HI1 := am_ (Kd.S_step HI0_.out (fun k_ hk_ hlt_ => hk.2 k_ hlt_ (fun h_ => by have := hk_.1; have := hk_.2; have := h_.2; have := HX2_.out; omega))); obtain ⟨vs2_, hL2⟩ := hL; have BV1 := am_ hL2; clear hk hb hL2; obtain ⟨zBX1_0, zBX1_1, zBX1_2, zBX1_3, zBX1_4, zBX1_5, zBX1_6, zBX1_7, fBX1_0, fBX1_1, fBX1_2, fBX1_3, fBX1_4, fBX1_5, fBX1_6, fBX1_7⟩ := cz8 BX1.out) | ((with_reducible refine gate_store (t := 37) (p := 6) (v := .tmp 85) rfl ?_); refine sE 37 6 (.tmp 85) (sets gx w1_ 0 [.int .i64 0, .int .i64 0, .int .i64 0, .int .i64 0, .int .i64 0, .int .i64 0, .slice none 0 0, .slice none 0 0]) ?_; intro w2 hw_; have BX2 := am_ (show w2.heap[gx]? = some (.cells #[.int .i64 0, .int .i64 0, .int .i64 0, .int .i64 0, .int .i64 0, .int .i64 0, .slice none 0 0, .slice none 0 0] 37 (0, 0)) by (rw [hw_]; exact putT8_0_8 BX1.out ..)); have hf_ : ∀ i, i ≠ gx → w2.heap[i]? = w1_.heap[i]? := fun i hi => (by rw [hw_]; exact sets_far _ _ _ _ _ hi); have HS2 := am_ (show w.heap.size ≤ w2.heap.size by (rw [hw_]; rw [sets_size]; exact HS1.out)); have HQ2 := am_ (show Below B w w2 by (rw [hw_]; exact sets_below HQ1.out (Nat.le_trans HBW.out Ggx.out))); have HK2 := am_ (show Kept w w2 ok by (rw [hw_]; exact sets_kept (HK1.out) Ggx.out)); have BV2 := am_ (BV1.out.step (fun k_ hk_ hlt_ => hf_ k_ (by have := hk_.2; have := Ggx.out; omega))); have BQ2 := am_ ((hf_ gq (Ne.symm Ngx_gq.out)).trans BQ1.out); have HV2 := am_ (Kd.V_step HV1.out (fun k_ hk_ hlt_ => hf_ k_ (by have := hk_.1.1; have := HGX.out; omega))); have HI2 := am_ (Kd.S_step HI1.out (fun k_ hk_ hlt_ => hf_ k_ (by have := hk_.1; have := HGX.out; omega))); clear hf_; clear hw_))
  refine bodyPost_ret (results_ctt rfl _ _ gx 37 #[.int .i64 0, .int .i64 0, .int .i64 0, .int .i64 0, .int .i64 0, .int .i64 0, .slice none 0 0, .slice none 0 0] (0, 0) _ rfl BX2.out Tryd.underlying37 rfl (by kernel_rfl)) rfl ?_
  exact ⟨⟨_, _, _, _, _, _, _, _, _, _, _, _, rfl⟩, ⟨_, BV2.out.mono (fun _ hk => Or.inl hk.1)⟩, HK2.out, HQ2.out⟩
 | true =>
 obtain ⟨hx, hhx⟩ : ∃ x, (if L2.heard < now then now else L2.heard) = x := ⟨_, rfl⟩
 have h5 := HF5.out
 have h5 : (fun L3 : LK => (decide (r.kd = 1), (0 : Int), if r.kd = 2 then putL L3 3 [] else L3)) { L2 with heard := if L2.heard < now then now else L2.heard } = (fl, e1, L') := h5
 rw [hhx] at h5
 dsimp only at h5
 simp only [Prod.mk.injEq] at h5
 obtain ⟨rfl, rfl, h6⟩ := h5
 have H6 := am_ h6
 clear h6 HF5
 by_cases c7 : r.kd = 2
 case pos =>
  have d7 : (r.kd == 2) = true := beq_iff_eq.mpr c7
  have h6 := H6.out
  rw [if_pos c7] at h6
  subst h6
  have HW2 := am_ (show ({ L2 with heard := hx } : LK).ws.length < 1000 by have h_ := congrArg (fun q => q.2.ws.length) HFR.out; simp only [fresh_ws] at h_; show L2.ws.length < 1000; rw [← h_]; exact HH.out.2)
  have H7 := am_ c7
  clear c7
  go_wp2_with (first | ((with_reducible refine gd_ (N := 83) rfl ?_); refine gL (some 83) Tryd.func29 #[.pointer (some ⟨g, 0, none⟩), .int .i64 r.n2] ?_; refine (link_Link_fresh.calls B g L1 (fun k => ok k ∧ k < w.heap.size) r.n2 _ ⟨_, BV0_.out⟩ HR2.out.1 HR2.out.2 HH.out.1.1 HH.out.1.2 (fun k_ hk_ => HBB.out k_ hk_.1) (Nat.le_trans HBW.out HS0_.out)).mono ?_; rintro e w1_ ⟨he, hL, hk, hb⟩; rw [HFR.out] at he hL; subst he; refine ⟨_, rfl, ?_⟩; have HS1 := am_ (Nat.le_trans HS0_.out hk.1); have HQ1 := am_ (HQ0_.out.trans hb); have HK1 := am_ (kept_trans HK0_.out hk (fun k_ hk_ _ => hk_.1)); have BX1 := am_ ((hk.2 gx (blk_lt BX0_.out) (fun h_ => by have := h_.2; have := Ggx.out; omega)).trans BX0_.out); have BQ1 := am_ ((hk.2 gq (blk_lt BQ0_.out) (fun h_ => by have := h_.2; have := Ggq.out; omega)).trans BQ0_.out); have HV1 := am_ (Kd.V_step HV0_.out (fun k_ hk_ hlt_ => hk.2 k_ hlt_ (fun h_ => by have := hk_.1.1; have := hk_.2; have := h_.2; have := HX2_.out; omega))); have HI1 := am_ (Kd.S_step HI0_.out (fun k_ hk_ hlt_ => hk.2 k_ hlt_ (fun h_ => by have := hk_.1; have := hk_.2; have := h_.2; have := HX2_.out; omega))); obtain ⟨vs2_, hL2⟩ := hL; have BV1 := am_ hL2; clear hk hb hL2; have zh_ := (kc_ BV1.out.1 6).trans rfl; have fh_ := kf_ BV1.out.1 6) | ((with_reducible refine gate_store (t := 3) (p := 94) (v := .tmp 92) rfl ?_); refine sE 3 94 (.tmp 92) (w1_.setCell ⟨g, 6, none⟩ (.int .i64 hx)) ?_; intro w2 hw_; have BV2 := am_ (show LKv w2 (fun k => ok k ∧ k < w.heap.size) g ({ L2 with heard := hx }) vs2_ by (rw [hw_]; exact BV1.out.put (L' := { L2 with heard := hx }) rfl 6 (.int .i64 hx) rfl)); have hf_ : ∀ i, i ≠ g → w2.heap[i]? = w1_.heap[i]? := fun i hi => (by rw [hw_]; rw [far1L _ _ _ _ _ hi]); have HS2 := am_ (show w.heap.size ≤ w2.heap.size by (rw [hw_]; simpa [World.setCell] using HS1.out)); have HQ2 := am_ (show Below B w w2 by (rw [hw_]; exact (HQ1.out).setCell (HBB.out g BV1.out.2.2.1) _)); have HK2 := am_ (show Kept w w2 ok by (rw [hw_]; exact kept_set (HK1.out) BV1.out.2.2.1 _)); have BX2 := am_ ((hf_ gx Ngx_g.out).trans BX1.out); have BQ2 := am_ ((hf_ gq Ngq_g.out).trans BQ1.out); have HV2 := am_ (Kd.V_step HV1.out (fun k_ hk_ hlt_ => hf_ k_ (by have := hk_.1.1; have := HX2_.out; have := HG0.out; omega))); have HI2 := am_ (Kd.S_step HI1.out (fun k_ hk_ hlt_ => hf_ k_ (by have := hk_.1; have := HX2_.out; have := HG0.out; omega))); clear hf_; clear hw_; have zBQ2_0 : w2.cell? ⟨gq, 0, none⟩ = some (.int .u8 r.kd) := (kc_ BQ2.out 0).trans rfl; have zBQ2_1 : w2.cell? ⟨gq, 1, none⟩ = some (.int .i64 r.n0) := (kc_ BQ2.out 1).trans rfl; have zBQ2_2 : w2.cell? ⟨gq, 2, none⟩ = some (.int .i64 r.n1) := (kc_ BQ2.out 2).trans rfl; have zBQ2_3 : w2.cell? ⟨gq, 3, none⟩ = some (.int .i64 r.n2) := (kc_ BQ2.out 3).trans rfl; have zBQ2_4 : w2.cell? ⟨gq, 4, none⟩ = some (.int .i64 r.p1) := (kc_ BQ2.out 4).trans rfl; have zBQ2_5 : w2.cell? ⟨gq, 5, none⟩ = some (.int .i64 r.p2) := (kc_ BQ2.out 5).trans rfl; have zBQ2_6 : w2.cell? ⟨gq, 6, none⟩ = some (.int .i64 r.p3) := (kc_ BQ2.out 6).trans rfl; have zBQ2_7 : w2.cell? ⟨gq, 7, none⟩ = some (.int .i64 r.p4) := (kc_ BQ2.out 7).trans rfl; have zBQ2_8 : w2.cell? ⟨gq, 8, none⟩ = some (.int .i64 r.p5) := (kc_ BQ2.out 8).trans rfl; have zBQ2_9 : w2.cell? ⟨gq, 9, none⟩ = some (.int .i64 r.p6) := (kc_ BQ2.out 9).trans rfl; have zBQ2_10 : w2.cell? ⟨gq, 10, none⟩ = some (.slice A7 r.p7.length c7) := (kc_ BQ2.out 10).trans rfl; have zBQ2_11 : w2.cell? ⟨gq, 11, none⟩ = some (.slice A8 r.p8.length c8) := (kc_ BQ2.out 11).trans rfl) | ((with_reducible refine gd_ (N := 99) rfl ?_); refine gL (some 99) Tryd.func22 #[.pointer (some ⟨g, 0, none⟩), .int .u8 3, .slice none ([] : List Int).length 0] ?_; refine (link_Link_put.calls B g ({ L2 with heard := hx }) (fun k => ok k ∧ k < w.heap.size) (fun _ => False) 3 none 0 [] _ ⟨_, BV2.out⟩ (Kd.R_nil _ _ _ _ _) (fun _ h_ => h_.elim) HW2.out (fun k_ hk_ => HBB.out k_ hk_.1) (Nat.le_trans HBW.out HS2.out)).mono ?_; rintro e w3 ⟨he, hL, hk, hb⟩; subst he; refine ⟨_, rfl, ?_⟩; have HS3 := am_ (Nat.le_trans HS2.out hk.1); have HQ3 := am_ (HQ2.out.trans hb); have HK3 := am_ (kept_trans HK2.out hk (fun k_ hk_ _ => hk_.1)); have BX3 := am_ ((hk.2 gx (blk_lt BX2.out) (fun h_ => by have := h_.2; have := Ggx.out; omega)).trans BX2.out); have BQ3 := am_ ((hk.2 gq (blk_lt BQ2.out) (fun h_ => by have := h_.2; have := Ggq.out; omega)).trans BQ2.out); have HV3 := am_ (Kd.V_step HV2.out (fun k_ hk_ hlt_ => hk.2 k_ hlt_ (fun h_ => by have := hk_.1.1; have := hk_.2; have := h_.2; have := HX2_.out; omega))); have HI3 := am_ (Kd.S_step HI2.out (fun k_ hk_ hlt_ => hk.2 k_ hlt_ (fun h_ => by have := hk_.1; have := hk_.2; have := h_.2; have := HX2_.out; omega))); have HL3 := am_ hL; clear hL hk hb))
  refine start_ (n := 8) (S := fun w' => w'.heap[gq]? = some (.cells #[.int .u8 r.kd, .int .i64 r.n0, .int .i64 r.n1, .int .i64 r.n2, .int .i64 r.p1, .int .i64 r.p2, .int .i64 r.p3, .int .i64 r.p4, .int .i64 r.p5, .int .i64 r.p6, .slice A7 r.p7.length c7, .slice A8 r.p8.length c8] 85 (0, 0))) (ds := []) #[false, false, false, false, false, false, false, false] (by kernel_rfl) rfl rfl (kd_ BQ3.out) (fun hHeld => ?_)
  refine with_tabW link_Link_Take.tab20 link_Link_Take.bits20 (fun HT_ HW_ => ?_)
  have hb_ : Below w3.heap.size w3 w3.drew := below_drew (Below.refl _ _)
  have HS4 := am_ (Nat.le_trans HS3.out hb_.size)
  have HQ4 := am_ (HQ3.out.trans (hb_.mono (Nat.le_trans HBW.out HS3.out)))
  have HK4 := am_ (kept_below HK3.out hb_)
  have BX4 := am_ (blk_below BX3.out hb_)
  have BQ4 := am_ (blk_below BQ3.out hb_)
  have HV4 := am_ (Kd.V_step HV3.out (fun k_ hk_ hlt_ => hb_.block k_ hlt_))
  have HI4 := am_ (Kd.S_step HI3.out (fun k_ hk_ hlt_ => hb_.block k_ hlt_))
  have HL4 := am_ (HL3.out.below hb_)
  clear hb_
  generalize w3.drew = w4 at HS4 HQ4 HK4 BX4 BQ4 HV4 HI4 HL4 hHeld ⊢
  refine pA 0 (some 100) #[o1,o0,o0,o0,o0,o0,o0,o0] HT_ ?_
  refine tA (v := ?_) 1 (some 101) #[o1,o1,o0,o0,o0,o0,o0,o0] HT_ HW_ hHeld ?_ ?_
  rotate_left
  ·
   rintro w' s0
   have q4_ := (kc_ s0 4).trans rfl
   have q5_ := (kc_ s0 5).trans rfl
   have q6_ := (kc_ s0 6).trans rfl
   have q7_ := (kc_ s0 7).trans rfl
   have q8_ := (kc_ s0 8).trans rfl
   have q9_ := (kc_ s0 9).trans rfl
   have q10_ := (kc_ s0 10).trans rfl
   have q11_ := (kc_ s0 11).trans rfl
   go_simp
   with_reducible rfl
  refine pA 2 (some 102) #[o1,o1,o1,o0,o0,o0,o0,o0] HT_ ?_
  refine tA (v := ?_) 3 (some 103) #[o1,o1,o1,o1,o0,o0,o0,o0] HT_ HW_ hHeld ?_ ?_
  rotate_left
  ·
   rintro w' s0
   have q_ := (kc_ s0 0).trans rfl
   go_simp
   with_reducible rfl
  refine pA 4 (some 104) #[o1,o1,o1,o1,o1,o0,o0,o0] HT_ ?_
  have zBX4_0 : w4.cell? ⟨gx, 0, none⟩ = some (.int .i64 0) := (kc_ BX4.out 0).trans rfl
  have fBX4_0 := kf_ BX4.out 0
  have zBX4_1 : w4.cell? ⟨gx, 1, none⟩ = some (.int .i64 0) := (kc_ BX4.out 1).trans rfl
  have fBX4_1 := kf_ BX4.out 1
  have zBX4_2 : w4.cell? ⟨gx, 2, none⟩ = some (.int .i64 0) := (kc_ BX4.out 2).trans rfl
  have fBX4_2 := kf_ BX4.out 2
  have zBX4_3 : w4.cell? ⟨gx, 3, none⟩ = some (.int .i64 0) := (kc_ BX4.out 3).trans rfl
  have fBX4_3 := kf_ BX4.out 3
  have zBX4_4 : w4.cell? ⟨gx, 4, none⟩ = some (.int .i64 0) := (kc_ BX4.out 4).trans rfl
  have fBX4_4 := kf_ BX4.out 4
  have zBX4_5 : w4.cell? ⟨gx, 5, none⟩ = some (.int .i64 0) := (kc_ BX4.out 5).trans rfl
  have fBX4_5 := kf_ BX4.out 5
  have zBX4_6 : w4.cell? ⟨gx, 6, none⟩ = some (.slice none 0 0) := (kc_ BX4.out 6).trans rfl
  have fBX4_6 := kf_ BX4.out 6
  have zBX4_7 : w4.cell? ⟨gx, 7, none⟩ = some (.slice none 0 0) := (kc_ BX4.out 7).trans rfl
  have fBX4_7 := kf_ BX4.out 7
  refine nO 5 none #[o1,o1,o1,o1,o1,o1,o0,o0] HT_ (fun K hK => ?_)
  refine skip_ (w1 := ((((((((w4.setCell ⟨gx, 0, none⟩ (.int .i64 r.p1)).setCell ⟨gx, 1, none⟩ (.int .i64 r.p2)).setCell ⟨gx, 2, none⟩ (.int .i64 r.p3)).setCell ⟨gx, 3, none⟩ (.int .i64 r.p4)).setCell ⟨gx, 4, none⟩ (.int .i64 r.p5)).setCell ⟨gx, 5, none⟩ (.int .i64 r.p6)).setCell ⟨gx, 6, none⟩ (.slice A7 r.p7.length c7)).setCell ⟨gx, 7, none⟩ (.slice A8 r.p8.length c8))) (by rfl) rfl ?_ ?_
  ·
   go_simp
  refine hK.out _ _ (show (((((((((w4.setCell ⟨gx, 0, none⟩ (.int .i64 r.p1)).setCell ⟨gx, 1, none⟩ (.int .i64 r.p2)).setCell ⟨gx, 2, none⟩ (.int .i64 r.p3)).setCell ⟨gx, 3, none⟩ (.int .i64 r.p4)).setCell ⟨gx, 4, none⟩ (.int .i64 r.p5)).setCell ⟨gx, 5, none⟩ (.int .i64 r.p6)).setCell ⟨gx, 6, none⟩ (.slice A7 r.p7.length c7)).setCell ⟨gx, 7, none⟩ (.slice A8 r.p8.length c8))).heap[gq]? = some (.cells #[.int .u8 r.kd, .int .i64 r.n0, .int .i64 r.n1, .int .i64 r.n2, .int .i64 r.p1, .int .i64 r.p2, .int .i64 r.p3, .int .i64 r.p4, .int .i64 r.p5, .int .i64 r.p6, .slice A7 r.p7.length c7, .slice A8 r.p8.length c8] 85 (0, 0)) by (rw [far1L _ _ _ _ _ (Ne.symm Ngx_gq.out), far1L _ _ _ _ _ (Ne.symm Ngx_gq.out), far1L _ _ _ _ _ (Ne.symm Ngx_gq.out), far1L _ _ _ _ _ (Ne.symm Ngx_gq.out), far1L _ _ _ _ _ (Ne.symm Ngx_gq.out), far1L _ _ _ _ _ (Ne.symm Ngx_gq.out), far1L _ _ _ _ _ (Ne.symm Ngx_gq.out), far1L _ _ _ _ _ (Ne.symm Ngx_gq.out)]; exact BQ4.out)) (fun hHeld => ?_)
  clear hK K
  clear hHeld
  obtain ⟨w5, hw_⟩ : ∃ x, x = ((((((((w4.setCell ⟨gx, 0, none⟩ (.int .i64 r.p1)).setCell ⟨gx, 1, none⟩ (.int .i64 r.p2)).setCell ⟨gx, 2, none⟩ (.int .i64 r.p3)).setCell ⟨gx, 3, none⟩ (.int .i64 r.p4)).setCell ⟨gx, 4, none⟩ (.int .i64 r.p5)).setCell ⟨gx, 5, none⟩ (.int .i64 r.p6)).setCell ⟨gx, 6, none⟩ (.slice A7 r.p7.length c7)).setCell ⟨gx, 7, none⟩ (.slice A8 r.p8.length c8)) := ⟨_, rfl⟩
  rw [← hw_]
  have BX5 := am_ (show w5.heap[gx]? = some (.cells #[.int .i64 r.p1, .int .i64 r.p2, .int .i64 r.p3, .int .i64 r.p4, .int .i64 r.p5, .int .i64 r.p6, .slice A7 r.p7.length c7, .slice A8 r.p8.length c8] 37 (0, 0)) by (rw [hw_]; exact putT8_0_8 BX4.out (.int .i64 r.p1) (.int .i64 r.p2) (.int .i64 r.p3) (.int .i64 r.p4) (.int .i64 r.p5) (.int .i64 r.p6) (.slice A7 r.p7.length c7) (.slice A8 r.p8.length c8)))
  have hf_ : ∀ i, i ≠ gx → w5.heap[i]? = w4.heap[i]? := fun i hi => (by rw [hw_]; rw [far1L _ _ _ _ _ hi, far1L _ _ _ _ _ hi, far1L _ _ _ _ _ hi, far1L _ _ _ _ _ hi, far1L _ _ _ _ _ hi, far1L _ _ _ _ _ hi, far1L _ _ _ _ _ hi, far1L _ _ _ _ _ hi])
  have HS5 := am_ (show w.heap.size ≤ w5.heap.size by (rw [hw_]; simpa [World.setCell] using HS4.out))
  have HQ5 := am_ (show Below B w w5 by (rw [hw_]; exact ((((((((HQ4.out).setCell (Nat.le_trans HBW.out Ggx.out) _).setCell (Nat.le_trans HBW.out Ggx.out) _).setCell (Nat.le_trans HBW.out Ggx.out) _).setCell (Nat.le_trans HBW.out Ggx.out) _).setCell (Nat.le_trans HBW.out Ggx.out) _).setCell (Nat.le_trans HBW.out Ggx.out) _).setCell (Nat.le_trans HBW.out Ggx.out) _).setCell (Nat.le_trans HBW.out Ggx.out) _))
  have HK5 := am_ (show Kept w w5 ok by (rw [hw_]; exact kept_new (kept_new (kept_new (kept_new (kept_new (kept_new (kept_new (kept_new (HK4.out) Ggx.out _) Ggx.out _) Ggx.out _) Ggx.out _) Ggx.out _) Ggx.out _) Ggx.out _) Ggx.out _))
  have BQ5 := am_ ((hf_ gq (Ne.symm Ngx_gq.out)).trans BQ4.out)
  have HV5 := am_ (Kd.V_step HV4.out (fun k_ hk_ hlt_ => hf_ k_ (by have := hk_.1.1; have := HGX.out; omega)))
  have HI5 := am_ (Kd.S_step HI4.out (fun k_ hk_ hlt_ => hf_ k_ (by have := hk_.1; have := HGX.out; omega)))
  have HL5 := am_ (HL4.out.step (fun k_ hk_ hlt_ => hf_ k_ (by obtain hk_ | hk_ | hk_ := hk_; (· exact fun e_ => (by have h1_ := hk_.2; have h2_ := Ggx.out; omega)); (· exact hk_.elim); (· exact fun e_ => (by have h1_ := blk_lt BX2.out; omega)))))
  clear hf_
  clear hw_
  refine pA 6 (some 7) #[o1,o1,o1,o1,o1,o1,o1,o0] HT_ ?_
  refine pA 7 (some 8) #[o1,o1,o1,o1,o1,o1,o1,o1] HT_ ?_
  refine dA HT_ ?_
  go_wp2
  refine bodyPost_ret (results_ctt rfl _ _ gx 37 #[.int .i64 r.p1, .int .i64 r.p2, .int .i64 r.p3, .int .i64 r.p4, .int .i64 r.p5, .int .i64 r.p6, .slice A7 r.p7.length c7, .slice A8 r.p8.length c8] (0, 0) _ rfl BX5.out Tryd.underlying37 rfl (by kernel_rfl)) rfl ?_
  exact ⟨_, _, _, _, _, _, _, _, _, _, _, _, rfl, (by exact fun r3_ hr3_ => (by cases hr3_; exact ⟨⟨rfl, rfl, rfl, rfl, rfl, rfl, rfl, rfl, rfl, rfl⟩, rfl, rfl, Kd.V_mono (Kd.V_lower HV5.out HX2_.out) (fun _ h_ => ⟨Nat.le_trans HX2_.out h_.1.1, h_.1.2⟩), Kd.S_mono HI5.out (fun _ _ => trivial)⟩)), HL5.out.mono (fun k_ hk_ => by rcases hk_ with hk_ | hk_ | hk_; exact Or.inl hk_.1; exact hk_.elim; exact Or.inr (Nat.le_trans HS2.out hk_)), HK5.out, HQ5.out⟩
 have d7 : (r.kd == 2) = false := beq_eq_false_iff_ne.mpr c7
 have h6 := H6.out
 rw [if_neg c7] at h6
 subst h6
 clear c7
 go_wp2_with (first | ((with_reducible refine gd_ (N := 83) rfl ?_); refine gL (some 83) Tryd.func29 #[.pointer (some ⟨g, 0, none⟩), .int .i64 r.n2] ?_; refine (link_Link_fresh.calls B g L1 (fun k => ok k ∧ k < w.heap.size) r.n2 _ ⟨_, BV0_.out⟩ HR2.out.1 HR2.out.2 HH.out.1.1 HH.out.1.2 (fun k_ hk_ => HBB.out k_ hk_.1) (Nat.le_trans HBW.out HS0_.out)).mono ?_; rintro e w1_ ⟨he, hL, hk, hb⟩; rw [HFR.out] at he hL; subst he; refine ⟨_, rfl, ?_⟩; have HS1 := am_ (Nat.le_trans HS0_.out hk.1); have HQ1 := am_ (HQ0_.out.trans hb); have HK1 := am_ (kept_trans HK0_.out hk (fun k_ hk_ _ => hk_.1)); have BX1 := am_ ((hk.2 gx (blk_lt BX0_.out) (fun h_ => by have := h_.2; have := Ggx.out; omega)).trans BX0_.out); have BQ1 := am_ ((hk.2 gq (blk_lt BQ0_.out) (fun h_ => by have := h_.2; have := Ggq.out; omega)).trans BQ0_.out); have HV1 := am_ (Kd.V_step HV0_.out (fun k_ hk_ hlt_ => hk.2 k_ hlt_ (fun h_ => by have := hk_.1.1; have := hk_.2; have := h_.2; have := HX2_.out; omega))); have HI1 := am_ (Kd.S_step HI0_.out (fun k_ hk_ hlt_ => hk.2 k_ hlt_ (fun h_ => by have := hk_.1; have := hk_.2; have := h_.2; have := HX2_.out; omega))); obtain ⟨vs2_, hL2⟩ := hL; have BV1 := am_ hL2; clear hk hb hL2; have zh_ := (kc_ BV1.out.1 6).trans rfl; have fh_ := kf_ BV1.out.1 6) | ((with_reducible refine gate_store (t := 3) (p := 94) (v := .tmp 92) rfl ?_); refine sE 3 94 (.tmp 92) (w1_.setCell ⟨g, 6, none⟩ (.int .i64 hx)) ?_; intro w2 hw_; have BV2 := am_ (show LKv w2 (fun k => ok k ∧ k < w.heap.size) g ({ L2 with heard := hx }) vs2_ by (rw [hw_]; exact BV1.out.put (L' := { L2 with heard := hx }) rfl 6 (.int .i64 hx) rfl)); have hf_ : ∀ i, i ≠ g → w2.heap[i]? = w1_.heap[i]? := fun i hi => (by rw [hw_]; rw [far1L _ _ _ _ _ hi]); have HS2 := am_ (show w.heap.size ≤ w2.heap.size by (rw [hw_]; simpa [World.setCell] using HS1.out)); have HQ2 := am_ (show Below B w w2 by (rw [hw_]; exact (HQ1.out).setCell (HBB.out g BV1.out.2.2.1) _)); have HK2 := am_ (show Kept w w2 ok by (rw [hw_]; exact kept_set (HK1.out) BV1.out.2.2.1 _)); have BX2 := am_ ((hf_ gx Ngx_g.out).trans BX1.out); have BQ2 := am_ ((hf_ gq Ngq_g.out).trans BQ1.out); have HV2 := am_ (Kd.V_step HV1.out (fun k_ hk_ hlt_ => hf_ k_ (by have := hk_.1.1; have := HX2_.out; have := HG0.out; omega))); have HI2 := am_ (Kd.S_step HI1.out (fun k_ hk_ hlt_ => hf_ k_ (by have := hk_.1; have := HX2_.out; have := HG0.out; omega))); clear hf_; clear hw_; have zBQ2_0 : w2.cell? ⟨gq, 0, none⟩ = some (.int .u8 r.kd) := (kc_ BQ2.out 0).trans rfl; have zBQ2_1 : w2.cell? ⟨gq, 1, none⟩ = some (.int .i64 r.n0) := (kc_ BQ2.out 1).trans rfl; have zBQ2_2 : w2.cell? ⟨gq, 2, none⟩ = some (.int .i64 r.n1) := (kc_ BQ2.out 2).trans rfl; have zBQ2_3 : w2.cell? ⟨gq, 3, none⟩ = some (.int .i64 r.n2) := (kc_ BQ2.out 3).trans rfl; have zBQ2_4 : w2.cell? ⟨gq, 4, none⟩ = some (.int .i64 r.p1) := (kc_ BQ2.out 4).trans rfl; have zBQ2_5 : w2.cell? ⟨gq, 5, none⟩ = some (.int .i64 r.p2) := (kc_ BQ2.out 5).trans rfl; have zBQ2_6 : w2.cell? ⟨gq, 6, none⟩ = some (.int .i64 r.p3) := (kc_ BQ2.out 6).trans rfl; have zBQ2_7 : w2.cell? ⟨gq, 7, none⟩ = some (.int .i64 r.p4) := (kc_ BQ2.out 7).trans rfl; have zBQ2_8 : w2.cell? ⟨gq, 8, none⟩ = some (.int .i64 r.p5) := (kc_ BQ2.out 8).trans rfl; have zBQ2_9 : w2.cell? ⟨gq, 9, none⟩ = some (.int .i64 r.p6) := (kc_ BQ2.out 9).trans rfl; have zBQ2_10 : w2.cell? ⟨gq, 10, none⟩ = some (.slice A7 r.p7.length c7) := (kc_ BQ2.out 10).trans rfl; have zBQ2_11 : w2.cell? ⟨gq, 11, none⟩ = some (.slice A8 r.p8.length c8) := (kc_ BQ2.out 11).trans rfl))
 refine start_ (n := 8) (S := fun w' => w'.heap[gq]? = some (.cells #[.int .u8 r.kd, .int .i64 r.n0, .int .i64 r.n1, .int .i64 r.n2, .int .i64 r.p1, .int .i64 r.p2, .int .i64 r.p3, .int .i64 r.p4, .int .i64 r.p5, .int .i64 r.p6, .slice A7 r.p7.length c7, .slice A8 r.p8.length c8] 85 (0, 0))) (ds := []) #[false, false, false, false, false, false, false, false] (by kernel_rfl) rfl rfl (kd_ BQ2.out) (fun hHeld => ?_)
 refine with_tabW link_Link_Take.tab20 link_Link_Take.bits20 (fun HT_ HW_ => ?_)
 have hb_ : Below w2.heap.size w2 w2.drew := below_drew (Below.refl _ _)
 have HS3 := am_ (Nat.le_trans HS2.out hb_.size)
 have HQ3 := am_ (HQ2.out.trans (hb_.mono (Nat.le_trans HBW.out HS2.out)))
 have HK3 := am_ (kept_below HK2.out hb_)
 have BX3 := am_ (blk_below BX2.out hb_)
 have BQ3 := am_ (blk_below BQ2.out hb_)
 have HV3 := am_ (Kd.V_step HV2.out (fun k_ hk_ hlt_ => hb_.block k_ hlt_))
 have HI3 := am_ (Kd.S_step HI2.out (fun k_ hk_ hlt_ => hb_.block k_ hlt_))
 have BV3 := am_ (BV2.out.keepB hb_)
 clear hb_
 generalize w2.drew = w3 at HS3 HQ3 HK3 BX3 BQ3 HV3 HI3 BV3 hHeld ⊢
 refine pA 0 (some 100) #[o1,o0,o0,o0,o0,o0,o0,o0] HT_ ?_
 refine tA (v := ?_) 1 (some 101) #[o1,o1,o0,o0,o0,o0,o0,o0] HT_ HW_ hHeld ?_ ?_
 rotate_left
 ·
  rintro w' s0
  have q4_ := (kc_ s0 4).trans rfl
  have q5_ := (kc_ s0 5).trans rfl
  have q6_ := (kc_ s0 6).trans rfl
  have q7_ := (kc_ s0 7).trans rfl
  have q8_ := (kc_ s0 8).trans rfl
  have q9_ := (kc_ s0 9).trans rfl
  have q10_ := (kc_ s0 10).trans rfl
  have q11_ := (kc_ s0 11).trans rfl
  go_simp
  with_reducible rfl
 refine pA 2 (some 102) #[o1,o1,o1,o0,o0,o0,o0,o0] HT_ ?_
 refine tA (v := ?_) 3 (some 103) #[o1,o1,o1,o1,o0,o0,o0,o0] HT_ HW_ hHeld ?_ ?_
 rotate_left
 ·
  rintro w' s0
  have q_ := (kc_ s0 0).trans rfl
  go_simp
  with_reducible rfl
 refine pA 4 (some 104) #[o1,o1,o1,o1,o1,o0,o0,o0] HT_ ?_
 have zBX3_0 : w3.cell? ⟨gx, 0, none⟩ = some (.int .i64 0) := (kc_ BX3.out 0).trans rfl
 have fBX3_0 := kf_ BX3.out 0
 have zBX3_1 : w3.cell? ⟨gx, 1, none⟩ = some (.int .i64 0) := (kc_ BX3.out 1).trans rfl
 have fBX3_1 := kf_ BX3.out 1
 have zBX3_2 : w3.cell? ⟨gx, 2, none⟩ = some (.int .i64 0) := (kc_ BX3.out 2).trans rfl
 have fBX3_2 := kf_ BX3.out 2
 have zBX3_3 : w3.cell? ⟨gx, 3, none⟩ = some (.int .i64 0) := (kc_ BX3.out 3).trans rfl
 have fBX3_3 := kf_ BX3.out 3
 have zBX3_4 : w3.cell? ⟨gx, 4, none⟩ = some (.int .i64 0) := (kc_ BX3.out 4).trans rfl
 have fBX3_4 := kf_ BX3.out 4
 have zBX3_5 : w3.cell? ⟨gx, 5, none⟩ = some (.int .i64 0) := (kc_ BX3.out 5).trans rfl
 have fBX3_5 := kf_ BX3.out 5
 have zBX3_6 : w3.cell? ⟨gx, 6, none⟩ = some (.slice none 0 0) := (kc_ BX3.out 6).trans rfl
 have fBX3_6 := kf_ BX3.out 6
 have zBX3_7 : w3.cell? ⟨gx, 7, none⟩ = some (.slice none 0 0) := (kc_ BX3.out 7).trans rfl
 have fBX3_7 := kf_ BX3.out 7
 refine nO 5 none #[o1,o1,o1,o1,o1,o1,o0,o0] HT_ (fun K hK => ?_)
 refine skip_ (w1 := ((((((((w3.setCell ⟨gx, 0, none⟩ (.int .i64 r.p1)).setCell ⟨gx, 1, none⟩ (.int .i64 r.p2)).setCell ⟨gx, 2, none⟩ (.int .i64 r.p3)).setCell ⟨gx, 3, none⟩ (.int .i64 r.p4)).setCell ⟨gx, 4, none⟩ (.int .i64 r.p5)).setCell ⟨gx, 5, none⟩ (.int .i64 r.p6)).setCell ⟨gx, 6, none⟩ (.slice A7 r.p7.length c7)).setCell ⟨gx, 7, none⟩ (.slice A8 r.p8.length c8))) (by rfl) rfl ?_ ?_
 ·
  go_simp
 refine hK.out _ _ (show (((((((((w3.setCell ⟨gx, 0, none⟩ (.int .i64 r.p1)).setCell ⟨gx, 1, none⟩ (.int .i64 r.p2)).setCell ⟨gx, 2, none⟩ (.int .i64 r.p3)).setCell ⟨gx, 3, none⟩ (.int .i64 r.p4)).setCell ⟨gx, 4, none⟩ (.int .i64 r.p5)).setCell ⟨gx, 5, none⟩ (.int .i64 r.p6)).setCell ⟨gx, 6, none⟩ (.slice A7 r.p7.length c7)).setCell ⟨gx, 7, none⟩ (.slice A8 r.p8.length c8))).heap[gq]? = some (.cells #[.int .u8 r.kd, .int .i64 r.n0, .int .i64 r.n1, .int .i64 r.n2, .int .i64 r.p1, .int .i64 r.p2, .int .i64 r.p3, .int .i64 r.p4, .int .i64 r.p5, .int .i64 r.p6, .slice A7 r.p7.length c7, .slice A8 r.p8.length c8] 85 (0, 0)) by (rw [far1L _ _ _ _ _ (Ne.symm Ngx_gq.out), far1L _ _ _ _ _ (Ne.symm Ngx_gq.out), far1L _ _ _ _ _ (Ne.symm Ngx_gq.out), far1L _ _ _ _ _ (Ne.symm Ngx_gq.out), far1L _ _ _ _ _ (Ne.symm Ngx_gq.out), far1L _ _ _ _ _ (Ne.symm Ngx_gq.out), far1L _ _ _ _ _ (Ne.symm Ngx_gq.out), far1L _ _ _ _ _ (Ne.symm Ngx_gq.out)]; exact BQ3.out)) (fun hHeld => ?_)
 clear hK K
 clear hHeld
 obtain ⟨w4, hw_⟩ : ∃ x, x = ((((((((w3.setCell ⟨gx, 0, none⟩ (.int .i64 r.p1)).setCell ⟨gx, 1, none⟩ (.int .i64 r.p2)).setCell ⟨gx, 2, none⟩ (.int .i64 r.p3)).setCell ⟨gx, 3, none⟩ (.int .i64 r.p4)).setCell ⟨gx, 4, none⟩ (.int .i64 r.p5)).setCell ⟨gx, 5, none⟩ (.int .i64 r.p6)).setCell ⟨gx, 6, none⟩ (.slice A7 r.p7.length c7)).setCell ⟨gx, 7, none⟩ (.slice A8 r.p8.length c8)) := ⟨_, rfl⟩
 rw [← hw_]
 have BX4 := am_ (show w4.heap[gx]? = some (.cells #[.int .i64 r.p1, .int .i64 r.p2, .int .i64 r.p3, .int .i64 r.p4, .int .i64 r.p5, .int .i64 r.p6, .slice A7 r.p7.length c7, .slice A8 r.p8.length c8] 37 (0, 0)) by (rw [hw_]; exact putT8_0_8 BX3.out (.int .i64 r.p1) (.int .i64 r.p2) (.int .i64 r.p3) (.int .i64 r.p4) (.int .i64 r.p5) (.int .i64 r.p6) (.slice A7 r.p7.length c7) (.slice A8 r.p8.length c8)))
 have hf_ : ∀ i, i ≠ gx → w4.heap[i]? = w3.heap[i]? := fun i hi => (by rw [hw_]; rw [far1L _ _ _ _ _ hi, far1L _ _ _ _ _ hi, far1L _ _ _ _ _ hi, far1L _ _ _ _ _ hi, far1L _ _ _ _ _ hi, far1L _ _ _ _ _ hi, far1L _ _ _ _ _ hi, far1L _ _ _ _ _ hi])
 have HS4 := am_ (show w.heap.size ≤ w4.heap.size by (rw [hw_]; simpa [World.setCell] using HS3.out))
 have HQ4 := am_ (show Below B w w4 by (rw [hw_]; exact ((((((((HQ3.out).setCell (Nat.le_trans HBW.out Ggx.out) _).setCell (Nat.le_trans HBW.out Ggx.out) _).setCell (Nat.le_trans HBW.out Ggx.out) _).setCell (Nat.le_trans HBW.out Ggx.out) _).setCell (Nat.le_trans HBW.out Ggx.out) _).setCell (Nat.le_trans HBW.out Ggx.out) _).setCell (Nat.le_trans HBW.out Ggx.out) _).setCell (Nat.le_trans HBW.out Ggx.out) _))
 have HK4 := am_ (show Kept w w4 ok by (rw [hw_]; exact kept_new (kept_new (kept_new (kept_new (kept_new (kept_new (kept_new (kept_new (HK3.out) Ggx.out _) Ggx.out _) Ggx.out _) Ggx.out _) Ggx.out _) Ggx.out _) Ggx.out _) Ggx.out _))
 have BQ4 := am_ ((hf_ gq (Ne.symm Ngx_gq.out)).trans BQ3.out)
 have HV4 := am_ (Kd.V_step HV3.out (fun k_ hk_ hlt_ => hf_ k_ (by have := hk_.1.1; have := HGX.out; omega)))
 have HI4 := am_ (Kd.S_step HI3.out (fun k_ hk_ hlt_ => hf_ k_ (by have := hk_.1; have := HGX.out; omega)))
 have BV4 := am_ (BV3.out.step (fun k_ hk_ hlt_ => hf_ k_ (by have := hk_.2; have := Ggx.out; omega)))
 clear hf_
 clear hw_
 refine pA 6 (some 7) #[o1,o1,o1,o1,o1,o1,o1,o0] HT_ ?_
 refine pA 7 (some 8) #[o1,o1,o1,o1,o1,o1,o1,o1] HT_ ?_
 refine dA HT_ ?_
 go_wp2
 refine bodyPost_ret (results_ctt rfl _ _ gx 37 #[.int .i64 r.p1, .int .i64 r.p2, .int .i64 r.p3, .int .i64 r.p4, .int .i64 r.p5, .int .i64 r.p6, .slice A7 r.p7.length c7, .slice A8 r.p8.length c8] (0, 0) _ rfl BX4.out Tryd.underlying37 rfl (by kernel_rfl)) rfl ?_
 exact ⟨_, _, _, _, _, _, _, _, _, _, _, _, rfl, (by exact fun r3_ hr3_ => (by cases hr3_; exact ⟨⟨rfl, rfl, rfl, rfl, rfl, rfl, rfl, rfl, rfl, rfl⟩, rfl, rfl, Kd.V_mono (Kd.V_lower HV4.out HX2_.out) (fun _ h_ => ⟨Nat.le_trans HX2_.out h_.1.1, h_.1.2⟩), Kd.S_mono HI4.out (fun _ _ => trivial)⟩)), ⟨_, BV4.out.mono (fun _ hk_ => Or.inl hk_.1)⟩, HK4.out, HQ4.out⟩
end Go.Proofs.YtoandmnefgimoaaDoor.PL
