-- PRINTED by gprint.py (a session's own driver over the kit's print): not trusted; Lean checks it.
import Derived.Test.YtpeacoppclmmlaaPNPPx0
import Derived.Test.YtpeacoppclmmlaaPNPPx4
import Derived.Test.YtpeacoppclmmlaaPNPPx6
import Derived.Test.YtpeacoppclmmlaaPNPPx7
import Derived.Test.YtpeacoppclmmlaaPNPPx13
import Derived.Test.YtpeacoppclmmlaaPNPPx17
import Derived.Test.YtpeacoppclmmlaaPNPPx18
namespace Go.Proofs.Ytpeacoppclmmlaa.PP
open Go.RowKit Go.Proofs.YtpeacoppclmmlaaW.PrintWords Go.Proofs.YtpeacoppclmmlaaW.PrintLast Go.Proofs.YtpeacoppclmmlaaW.PrintMore
set_option linter.unusedVariables false
set_option linter.unusedSimpArgs false

/-! ### grapevinelaw13_ParcelPlain: function 17 -/
-- GIVEN-ALONE: typed by mk_plainlaw.py: the true path alone
def grapevinelaw13_ParcelPlain.f (k : Nat) (a0 a1 a2 a3 a4 a5 : Int) (l6 : List S43) (l7 : List S62) : Option Bool :=
 (parcel_Plain.f a0 a1 a2 a3 a4 a5 l6 l7).bind fun x => (grapevineref13_Plain.f k a0 a1 a2 a3 a4 a5 l6 l7).bind fun y => (grapevineref13_Same.f k x.1 x.2.1 x.2.2.1 x.2.2.2.1 x.2.2.2.2.1 x.2.2.2.2.2.1 x.2.2.2.2.2.2.1 x.2.2.2.2.2.2.2 y.1 y.2.1 y.2.2.1 y.2.2.2.1 y.2.2.2.2.1 y.2.2.2.2.2.1 y.2.2.2.2.2.2.1 y.2.2.2.2.2.2.2).bind fun s1 => (parcel_Plain.f x.1 x.2.1 x.2.2.1 x.2.2.2.1 x.2.2.2.2.1 x.2.2.2.2.2.1 x.2.2.2.2.2.2.1 x.2.2.2.2.2.2.2).bind fun z => (grapevineref13_Same.f k z.1 z.2.1 z.2.2.1 z.2.2.2.1 z.2.2.2.2.1 z.2.2.2.2.2.1 z.2.2.2.2.2.2.1 z.2.2.2.2.2.2.2 x.1 x.2.1 x.2.2.1 x.2.2.2.1 x.2.2.2.2.1 x.2.2.2.2.2.1 x.2.2.2.2.2.2.1 x.2.2.2.2.2.2.2).bind fun s2 =>
 (grapevinelaw13_live.f k).bind fun t => (grapevineref13_Same.f k y.1 y.2.1 y.2.2.1 y.2.2.2.1 y.2.2.2.2.1 y.2.2.2.2.2.1 y.2.2.2.2.2.2.1 y.2.2.2.2.2.2.2 y.1 y.2.1 y.2.2.1 y.2.2.2.1 y.2.2.2.2.1 y.2.2.2.2.2.1 y.2.2.2.2.2.2.1 y.2.2.2.2.2.2.2).bind fun s3 => (parcel_Check.f k a0 a1 a2 a3 a4 a5 l6 l7).bind fun c => (parcel_Check.f k y.1 y.2.1 y.2.2.1 y.2.2.2.1 y.2.2.2.2.1 y.2.2.2.2.2.1 y.2.2.2.2.2.2.1 y.2.2.2.2.2.2.2).bind fun d => if s1 = true ∧ s2 = true ∧ t = true ∧ s3 = true ∧ (c = 0 → d = 0) then some true else none
/-- A number's cell that may be written, in a block of [lo, hi). -/
def CellI (W : World) (p : Addr) (k : IntKind) (lo hi : Nat) : Prop := (∃ m, W.cell? p = some (.int k m)) ∧ W.frozen? p = false ∧ lo ≤ p.block ∧ p.block < hi
theorem CellI.set {W : World} {p : Addr} {k : IntKind} {lo hi : Nat} (h : CellI W p k lo hi) {q : Addr} {kk : IntKind} {lo' hi' : Nat} (hq : CellI W q kk lo' hi') (m : Int) : CellI (W.setCell q (.int kk m)) p k lo hi := by
 obtain ⟨⟨a, ha⟩, hf, h1, h2⟩ := h
 obtain ⟨⟨b, hb⟩, _⟩ := hq
 refine ⟨?_, (World.frozen?_setCell _ _ _ _).trans hf, h1, h2⟩
 by_cases e : q = p
 ·
  subst e
  rw [ha] at hb
  injection hb with hb
  injection hb with hk _
  subst hk
  exact ⟨m, World.cell?_setCell_same _ _ _ ha⟩
 exact ⟨a, (World.cell?_setCell_other _ _ _ _ e).trans ha⟩
theorem CellI.slice {W : World} {p q : Addr} {kk : IntKind} {lo hi n c : Nat} {A : Option Addr} (h : W.cell? p = some (.slice A n c)) (hq : CellI W q kk lo hi) (m : Int) : (W.setCell q (.int kk m)).cell? p = some (.slice A n c) := by
 obtain ⟨⟨b, hb⟩, _⟩ := hq
 have e : q ≠ p := fun e => by rw [e, h] at hb; cases hb
 exact (World.cell?_setCell_other _ _ _ _ e).trans h
def XSp (W : World) (lo hi : Nat) (A : Option Addr) (n : Nat) : Prop := ∀ i : Int, 0 ≤ i → i < n → ∃ ad, A = some ad ∧ CellI W ⟨(ad.add (i.toNat * 3)).block, (ad.add (i.toNat * 3)).off + 1, none⟩ .i64 lo hi
def XIt (W : World) (lo hi : Nat) (A : Option Addr) (xs : List S62) : Prop := ∀ i : Int, 0 ≤ i → i < xs.length → ∃ ad Ab c, A = some ad ∧ CellI W (ad.add (i.toNat * 3)) .i64 lo hi ∧ W.cell? ⟨(ad.add (i.toNat * 3)).block, (ad.add (i.toNat * 3)).off + 2, none⟩ = some (.slice Ab (rd_T62 xs i).f2.length c) ∧ (rd_T62 xs i).f2.length ≤ 9223372036854775807 ∧
 ∀ j : Int, 0 ≤ j → j < (rd_T62 xs i).f2.length → ∃ bd, Ab = some bd ∧ CellI W (bd.add j.toNat) .u8 lo hi
theorem XSp_of {W : World} {lo hi c : Nat} {A : Option Addr} {xs : List S43} (h : Kd.R k43 43 W lo (fun k => k < hi) (.slice A xs.length c) xs) : XSp W lo hi A xs.length := by
 intro i h0 h1
 obtain ⟨g, cap, e, hge, hlt, _⟩ := Kd.R_form h (by omega)
 injection e with e1 _ e3
 subst e1
 subst e3
 obtain ⟨cs, hcl, hM, hcc, hfr⟩ := Kd.R_elem h z43 i h0 h1
 obtain rfl := k43_openM hM
 have hh : g < hi := h.1 g (by simp [Value.ownBlock])
 refine ⟨⟨g, 0, none⟩, rfl, ?_⟩
 rw [add_plain]
 exact ⟨⟨_, hcc 1 _ rfl⟩, hfr 1, hge, hh⟩
theorem XIt_of {W : World} {lo hi c : Nat} {A : Option Addr} {xs : List S62} (h : Kd.R k62 62 W lo (fun k => k < hi) (.slice A xs.length c) xs) : XIt W lo hi A xs := by
 intro i h0 h1
 obtain ⟨g, cap, e, hge, hlt, _⟩ := Kd.R_form h (by omega)
 injection e with e1 _ e3
 subst e1
 subst e3
 obtain ⟨cs, hcl, hM, hcc, hfr⟩ := Kd.R_elem h z62 i h0 h1
 obtain ⟨v2, rfl, g2⟩ := k62_openM hM
 obtain ⟨Ab, cb, eb⟩ := Kd.R_slice g2
 subst eb
 have hh : g < hi := h.1 g (by simp [Value.ownBlock])
 refine ⟨⟨g, 0, none⟩, Ab, cb, rfl, ?_, ?_, len_C (Kd.R_reads' g2).2.2, fun j hj0 hj1 => ?_⟩
 ·
  rw [add_plain]
  exact ⟨⟨_, hcc 0 _ rfl⟩, hfr 0, hge, hh⟩
 ·
  rw [add_plain]
  exact hcc 2 _ rfl
 have hj1' : j < ((xs.getD i.toNat z62).f2.length : Int) := hj1
 obtain ⟨gb, cap2, e2, hge2, hlt2, _⟩ := Kd.R_form g2 (by omega)
 injection e2 with e4 _ e5
 subst e4
 subst e5
 have hc := Kd.R_celln (0 : Int) g2 j hj0 hj1'
 refine ⟨⟨gb, 0, none⟩, rfl, ?_⟩
 rw [add_plain]
 exact ⟨⟨_, hc.1⟩, hc.2, hge2, (g2.1 gb (by simp [Value.ownBlock])).1⟩
/-- The state in the loops that write over x. -/
structure St (w W : World) (N0 N1 gp gx gy : Nat) (cp cx cy : Array Value) (A6 A7 : Option Addr) (n7 : Nat) (x8 : List S62) (v6 v7 : Value) (y7 : List S43) (y8 : List S62) : Prop where
 hb : Below w.heap.size w W
 bp : W.heap[gp]? = some (.cells cp 51 (0, 0))
 bx : W.heap[gx]? = some (.cells cx 51 (0, 0))
 byy : W.heap[gy]? = some (.cells cy 51 (0, 0))
 ys : Kd.R k43 43 W 0 (fun k => N1 ≤ k) v6 y7
 yi : Kd.S k62 62 W 0 (fun k => N1 ≤ k) v7 y8
 xs : XSp W N0 N1 A6 n7
 xi : XIt W N0 N1 A7 x8
 sz : w.heap.size ≤ N0 ∧ gp < N0 ∧ N1 ≤ gx ∧ N1 ≤ gy
theorem St.set {w W : World} {N0 N1 gp gx gy : Nat} {cp cx cy : Array Value} {A6 A7 : Option Addr} {n7 : Nat} {x8 : List S62} {v6 v7 : Value} {y7 : List S43} {y8 : List S62} (h : St w W N0 N1 gp gx gy cp cx cy A6 A7 n7 x8 v6 v7 y7 y8) {q : Addr} {kk : IntKind} (hq : CellI W q kk N0 N1) (m : Int) {W1 : World} (hw : W1 = W.setCell q (.int kk m)) : St w W1 N0 N1 gp gx gy cp cx cy A6 A7 n7 x8 v6 v7 y7 y8 := by
 subst hw
 obtain ⟨z1, z2, z3, z4⟩ := h.sz
 have q1 := hq.2.2.1
 have q2 := hq.2.2.2
 refine ⟨h.hb.setCell (by omega) _, (Below.heap_setCell W q _ gp (by omega)).trans h.bp, (Below.heap_setCell W q _ gx (by omega)).trans h.bx, (Below.heap_setCell W q _ gy (by omega)).trans h.byy, Kd.R_step h.ys (fun k hk _ => Below.heap_setCell W q _ k (by omega)), Kd.S_step h.yi (fun k hk _ => Below.heap_setCell W q _ k (by omega)), fun i h0 h1 => ?_, fun i h0 h1 => ?_, h.sz⟩
 ·
  obtain ⟨ad, hA, hc⟩ := h.xs i h0 h1
  exact ⟨ad, hA, hc.set hq m⟩
 obtain ⟨ad, Ab, c, hA, hc, hs, hln, hbt⟩ := h.xi i h0 h1
 refine ⟨ad, Ab, c, hA, hc.set hq m, CellI.slice hs hq m, hln, fun j hj0 hj1 => ?_⟩
 obtain ⟨bd, hB, hcb⟩ := hbt j hj0 hj1
 exact ⟨bd, hB, hcb.set hq m⟩
def grapevinelaw13_ParcelPlain.T2 : Bool × List (List Nat × List Nat) := (true, [([], []), ([], []), ([1], [1]), ([0, 2, 2], [0, 2]), ([3], [3]), ([4, 3], [4]), ([5], [5]), ([6, 5, 5], [5, 6]), ([5], [5]), ([7, 8, 7, 5], [5, 7, 8]), ([9, 5], [5, 9]), ([5, 10], [5, 10])])
def grapevinelaw13_ParcelPlain.B2 : List Nat := [0, 0, 2, 7, 15, 31, 63, 127, 63, 511, 1023, 2047]
theorem grapevinelaw13_ParcelPlain.tab2 : rtab .any (opsOf Try.f17 2) = grapevinelaw13_ParcelPlain.T2 := by kernel_rfl
theorem grapevinelaw13_ParcelPlain.bits2 : waitsOk grapevinelaw13_ParcelPlain.T2.2 grapevinelaw13_ParcelPlain.B2 = true := by kernel_rfl
def grapevinelaw13_ParcelPlain.T17 : Bool × List (List Nat × List Nat) := (true, [([], []), ([0, 0], [0]), ([1], [1]), ([1], [1]), ([3, 1, 1], [1, 3]), ([2, 4, 4, 1], [1, 2, 4]), ([1, 5], [1, 5]), ([6, 5], [6]), ([7], [7]), ([8, 7, 7], [7, 8]), ([9, 7], [7, 9]), ([10, 9, 7], [7, 10]), ([11], [11]), ([12, 11, 11], [11, 12]), ([13, 11], [11, 13]), ([11, 14, 7], [7, 11, 14]), ([7, 15], [7, 15]), ([16, 13, 0, 1, 2, 3, 4, 5, 6, 7, 8, 9, 10, 11, 12, 13, 14, 15, 16], [16])])
def grapevinelaw13_ParcelPlain.B17 : List Nat := [0, 1, 3, 3, 11, 31, 63, 127, 255, 511, 1023, 2047, 4095, 8191, 16383, 32767, 65535, 131071]
theorem grapevinelaw13_ParcelPlain.tab17 : rtab .any (opsOf Try.f17 17) = grapevinelaw13_ParcelPlain.T17 := by kernel_rfl
theorem grapevinelaw13_ParcelPlain.bits17 : waitsOk grapevinelaw13_ParcelPlain.T17.2 grapevinelaw13_ParcelPlain.B17 = true := by kernel_rfl
theorem putLW8_0_8 {W : World} {g t : Nat} {c0 c1 c2 c3 c4 c5 c6 c7 : Value} (h : W.heap[g]? = some (.cells #[c0, c1, c2, c3, c4, c5, c6, c7] t (0, 0))) (d0 d1 d2 d3 d4 d5 d6 d7 : Value) : ((((((((W.setCell ⟨g, 0, none⟩ d0).setCell ⟨g, 1, none⟩ d1).setCell ⟨g, 2, none⟩ d2).setCell ⟨g, 3, none⟩ d3).setCell ⟨g, 4, none⟩ d4).setCell ⟨g, 5, none⟩ d5).setCell ⟨g, 6, none⟩ d6).setCell ⟨g, 7, none⟩ d7).heap[g]? = some (.cells #[d0, d1, d2, d3, d4, d5, d6, d7] t (0, 0)) := by
 have h0 : (W.setCell ⟨g, 0, none⟩ d0).heap[g]? = some (.cells #[d0, c1, c2, c3, c4, c5, c6, c7] t (0, 0)) := blk_put h 0 _ rfl
 have h1 : ((W.setCell ⟨g, 0, none⟩ d0).setCell ⟨g, 1, none⟩ d1).heap[g]? = some (.cells #[d0, d1, c2, c3, c4, c5, c6, c7] t (0, 0)) := blk_put h0 1 _ rfl
 have h2 : (((W.setCell ⟨g, 0, none⟩ d0).setCell ⟨g, 1, none⟩ d1).setCell ⟨g, 2, none⟩ d2).heap[g]? = some (.cells #[d0, d1, d2, c3, c4, c5, c6, c7] t (0, 0)) := blk_put h1 2 _ rfl
 have h3 : ((((W.setCell ⟨g, 0, none⟩ d0).setCell ⟨g, 1, none⟩ d1).setCell ⟨g, 2, none⟩ d2).setCell ⟨g, 3, none⟩ d3).heap[g]? = some (.cells #[d0, d1, d2, d3, c4, c5, c6, c7] t (0, 0)) := blk_put h2 3 _ rfl
 have h4 : (((((W.setCell ⟨g, 0, none⟩ d0).setCell ⟨g, 1, none⟩ d1).setCell ⟨g, 2, none⟩ d2).setCell ⟨g, 3, none⟩ d3).setCell ⟨g, 4, none⟩ d4).heap[g]? = some (.cells #[d0, d1, d2, d3, d4, c5, c6, c7] t (0, 0)) := blk_put h3 4 _ rfl
 have h5 : ((((((W.setCell ⟨g, 0, none⟩ d0).setCell ⟨g, 1, none⟩ d1).setCell ⟨g, 2, none⟩ d2).setCell ⟨g, 3, none⟩ d3).setCell ⟨g, 4, none⟩ d4).setCell ⟨g, 5, none⟩ d5).heap[g]? = some (.cells #[d0, d1, d2, d3, d4, d5, c6, c7] t (0, 0)) := blk_put h4 5 _ rfl
 have h6 : (((((((W.setCell ⟨g, 0, none⟩ d0).setCell ⟨g, 1, none⟩ d1).setCell ⟨g, 2, none⟩ d2).setCell ⟨g, 3, none⟩ d3).setCell ⟨g, 4, none⟩ d4).setCell ⟨g, 5, none⟩ d5).setCell ⟨g, 6, none⟩ d6).heap[g]? = some (.cells #[d0, d1, d2, d3, d4, d5, d6, c7] t (0, 0)) := blk_put h5 6 _ rfl
 exact blk_put h6 7 _ rfl
set_option maxHeartbeats 100000000 in
set_option maxRecDepth 100000 in
theorem grapevinelaw13_ParcelPlain.calls (k : Nat) (a0 a1 a2 a3 a4 a5 : Int) (A6 : Option Addr) (c6 : Nat) (l6 : List S43) (A7 : Option Addr) (c7 : Nat) (l7 : List S62) (r : Bool) (w : World) (hr6 : Kd.C k43 w A6 l6.length l6) (hc6 : l6.length ≤ c6) (hr7 : Kd.C k62 w A7 l7.length l7) (hc7 : l7.length ≤ c7) (h : grapevinelaw13_ParcelPlain.f k a0 a1 a2 a3 a4 a5 l6 l7 = some r) :
 Calls Try.prog 17 #[.agg #[.int .i64 a0, .int .i64 a1, .int .i64 a2, .int .i64 a3, .int .i64 a4, .int .i64 a5, .slice A6 l6.length c6, .slice A7 l7.length c7]] w fun e w' => e = .returned (.bool r) ∧ Below w.heap.size w w' := by
 have hu := Try.underlying51
 have hui := Try.underlying62
 have hus := Try.underlying43
 have HR6 := Aside0.mk hr6
 have HC6 := Aside0.mk hc6
 have HR7 := Aside0.mk hr7
 have HC7 := Aside0.mk hc7
 unfold grapevinelaw13_ParcelPlain.f at h
 obtain ⟨⟨x1, x2, x3, x4, x5, x6, x7, x8⟩, e1, h⟩ := Option.bind_eq_some_iff.mp h
 obtain ⟨⟨y1, y2, y3, y4, y5, y6, y7, y8⟩, e2, h⟩ := Option.bind_eq_some_iff.mp h
 obtain ⟨s1, e3, h⟩ := Option.bind_eq_some_iff.mp h
 obtain ⟨⟨z1, z2, z3, z4, z5, z6, z7, z8⟩, e4, h⟩ := Option.bind_eq_some_iff.mp h
 obtain ⟨s2, e5, h⟩ := Option.bind_eq_some_iff.mp h
 obtain ⟨t, e6, h⟩ := Option.bind_eq_some_iff.mp h
 obtain ⟨s3, e7, h⟩ := Option.bind_eq_some_iff.mp h
 obtain ⟨cc, e8, h⟩ := Option.bind_eq_some_iff.mp h
 obtain ⟨dd, e9, h⟩ := Option.bind_eq_some_iff.mp h
 by_cases hh : s1 = true ∧ s2 = true ∧ t = true ∧ s3 = true ∧ (cc = 0 → dd = 0)
 case neg => rw [if_neg hh] at h; exact absurd h (by simp)
 rw [if_pos hh] at h
 obtain rfl := Option.some.inj h
 obtain ⟨rfl, rfl, rfl, rfl, hcd⟩ := hh
 dsimp only at e3 e4 e5 e7 e9
 have E1 := Aside0.mk e1
 have E2 := Aside0.mk e2
 have E3 := Aside0.mk e3
 have E4 := Aside0.mk e4
 have E5 := Aside0.mk e5
 have E6 := Aside0.mk e6
 have E7 := Aside0.mk e7
 have E8 := Aside0.mk e8
 have E9 := Aside0.mk e9
 have HCD := Aside0.mk hcd
 clear h e1 e2 e3 e4 e5 e6 e7 e8 e9 hcd hr6 hc6 hr7 hc7
 go_enter Try.func17, Try.ntmps17
 go_wp2_with (first | ((with_reducible refine gate_dst (N := 1) rfl ?_); refine box_event ?hg (N := 1) ?hd (cs := #[.int .i64 a0, .int .i64 a1, .int .i64 a2, .int .i64 a3, .int .i64 a4, .int .i64 a5, .slice A6 l6.length c6, .slice A7 l7.length c7]) (t := 51) ?hr ?_; (case hd => rfl); (case hg => rfl); (case hr => first | (go_simp; done) | (go_simp; rfl)); intro gp hg w1 hbox hb; have HB1 := Aside0.mk hb; have Ggp := Aside0.mk (show w.heap.size ≤ gp by rw [hg]; exact Nat.le_refl _); have Egp := Aside0.mk hg; have BP1 := Aside0.mk hbox; have zBP1_0 : w1.cell? ⟨gp, 0, none⟩ = some (.int .i64 a0) := (blk_cell BP1.out 0).trans rfl; have fBP1_0 := blk_frozen BP1.out 0; have zBP1_1 : w1.cell? ⟨gp, 1, none⟩ = some (.int .i64 a1) := (blk_cell BP1.out 1).trans rfl; have fBP1_1 := blk_frozen BP1.out 1; have zBP1_2 : w1.cell? ⟨gp, 2, none⟩ = some (.int .i64 a2) := (blk_cell BP1.out 2).trans rfl; have fBP1_2 := blk_frozen BP1.out 2; have zBP1_3 : w1.cell? ⟨gp, 3, none⟩ = some (.int .i64 a3) := (blk_cell BP1.out 3).trans rfl; have fBP1_3 := blk_frozen BP1.out 3; have zBP1_4 : w1.cell? ⟨gp, 4, none⟩ = some (.int .i64 a4) := (blk_cell BP1.out 4).trans rfl; have fBP1_4 := blk_frozen BP1.out 4; have zBP1_5 : w1.cell? ⟨gp, 5, none⟩ = some (.int .i64 a5) := (blk_cell BP1.out 5).trans rfl; have fBP1_5 := blk_frozen BP1.out 5; have zBP1_6 : w1.cell? ⟨gp, 6, none⟩ = some (.slice A6 l6.length c6) := (blk_cell BP1.out 6).trans rfl; have fBP1_6 := blk_frozen BP1.out 6; have zBP1_7 : w1.cell? ⟨gp, 7, none⟩ = some (.slice A7 l7.length c7) := (blk_cell BP1.out 7).trans rfl; have fBP1_7 := blk_frozen BP1.out 7; clear hb hbox hg) | ((with_reducible refine gate_dst (N := 9) rfl ?_); (try (refine gate_guard (by rfl) ?_; dsimp only)); refine goesL_ (some 9) rfl rfl Try.func52 (by kernel_rfl) rfl #[.agg #[.int .i64 a0, .int .i64 a1, .int .i64 a2, .int .i64 a3, .int .i64 a4, .int .i64 a5, .slice A6 l6.length c6, .slice A7 l7.length c7]] rfl (by (try simp only [List.map_toArray, List.map_cons, List.map_nil]); first | done | rfl | (simp only [List.length_drop, List.length_take]; rfl)) ?_; refine (parcel_Plain.calls a0 a1 a2 a3 a4 a5 A6 c6 l6 A7 c7 l7 x1 x2 x3 x4 x5 x6 x7 x8 _ (Kd.C_below HR6.out HB1.out) HC6.out (Kd.C_below HR7.out HB1.out) HC7.out E1.out).mono ?_; rintro e_ w2 ⟨v6_, v7_, rfl, h6_, h7_, hb⟩; refine ⟨_, rfl, ?_⟩; have HB2 := Aside0.mk (below_step HB1.out hb); have BP2 := Aside0.mk (blk_below BP1.out hb); have LN := Aside0.mk (show gp < w1.heap.size from blk_lt BP1.out); have LW := Aside0.mk (show w.heap.size ≤ w1.heap.size from below_size HB1.out); obtain ⟨Ax6, cx6, e_⟩ := Kd.R_slice h6_; subst e_; obtain ⟨Ax7, cx7, e_⟩ := Kd.S_slice h7_; subst e_; have HxS2 := Aside0.mk (Kd.R_mono (Kd.R_bound h6_) (ok' := fun k_ => w1.heap.size ≤ k_ ∧ k_ < w2.heap.size) (fun _ h_ => ⟨h_.2.1, h_.2.2.1⟩)); have HxI2 := Aside0.mk (Kd.S_mono (Kd.S_bound h7_) (ok' := fun k_ => w1.heap.size ≤ k_ ∧ k_ < w2.heap.size) (fun _ h_ => ⟨h_.2.1, h_.2.2.1⟩)); clear h6_ h7_; clear hb) | ((with_reducible refine gate_dst (N := 3) rfl ?_); refine box_event ?hg (N := 3) ?hd (cs := #[.int .i64 0, .int .i64 0, .int .i64 0, .int .i64 0, .int .i64 0, .int .i64 0, .slice none 0 0, .slice none 0 0]) (t := 51) ?hr ?_; (case hd => rfl); (case hg => rfl); (case hr => first | (go_simp; done) | (go_simp; rfl)); intro gx hg w3 hbox hb; have HB3 := Aside0.mk (below_step HB2.out hb); have BP3 := Aside0.mk (blk_below BP2.out hb); have HxS3 := Aside0.mk (Kd.R_below HxS2.out hb); have HxI3 := Aside0.mk (Kd.S_below HxI2.out hb); have Ggx := Aside0.mk (show w.heap.size ≤ gx by (rw [hg]; exact below_size HB2.out)); have Ngp_gx := Aside0.mk (show gp ≠ gx from fun e_ => absurd (blk_lt BP2.out) (by rw [e_, hg]; exact Nat.lt_irrefl _)); have Egx := Aside0.mk hg; have BX3 := Aside0.mk hbox; have zBX3_0 : w3.cell? ⟨gx, 0, none⟩ = some (.int .i64 0) := (blk_cell BX3.out 0).trans rfl; have fBX3_0 := blk_frozen BX3.out 0; have zBX3_1 : w3.cell? ⟨gx, 1, none⟩ = some (.int .i64 0) := (blk_cell BX3.out 1).trans rfl; have fBX3_1 := blk_frozen BX3.out 1; have zBX3_2 : w3.cell? ⟨gx, 2, none⟩ = some (.int .i64 0) := (blk_cell BX3.out 2).trans rfl; have fBX3_2 := blk_frozen BX3.out 2; have zBX3_3 : w3.cell? ⟨gx, 3, none⟩ = some (.int .i64 0) := (blk_cell BX3.out 3).trans rfl; have fBX3_3 := blk_frozen BX3.out 3; have zBX3_4 : w3.cell? ⟨gx, 4, none⟩ = some (.int .i64 0) := (blk_cell BX3.out 4).trans rfl; have fBX3_4 := blk_frozen BX3.out 4; have zBX3_5 : w3.cell? ⟨gx, 5, none⟩ = some (.int .i64 0) := (blk_cell BX3.out 5).trans rfl; have fBX3_5 := blk_frozen BX3.out 5; have zBX3_6 : w3.cell? ⟨gx, 6, none⟩ = some (.slice none 0 0) := (blk_cell BX3.out 6).trans rfl; have fBX3_6 := blk_frozen BX3.out 6; have zBX3_7 : w3.cell? ⟨gx, 7, none⟩ = some (.slice none 0 0) := (blk_cell BX3.out 7).trans rfl; have fBX3_7 := blk_frozen BX3.out 7; clear hb hbox hg) | ((with_reducible refine gate_store (t := 51) (p := 3) (v := .tmp 9) rfl ?_); refine store_event rfl (t := 51) (p := 3) (v := .tmp 9) rfl rfl (w1 := ((((((((w3.setCell ⟨gx, 0, none⟩ (.int .i64 x1)).setCell ⟨gx, 1, none⟩ (.int .i64 x2)).setCell ⟨gx, 2, none⟩ (.int .i64 x3)).setCell ⟨gx, 3, none⟩ (.int .i64 x4)).setCell ⟨gx, 4, none⟩ (.int .i64 x5)).setCell ⟨gx, 5, none⟩ (.int .i64 x6)).setCell ⟨gx, 6, none⟩ (.slice Ax6 x7.length cx6)).setCell ⟨gx, 7, none⟩ (.slice Ax7 x8.length cx7))) ?hr ?_; (case hr => first | (go_simp; done) | (go_simp; rfl)); intro w4 hw_; have BX4 := Aside0.mk (show w4.heap[gx]? = some (.cells #[.int .i64 x1, .int .i64 x2, .int .i64 x3, .int .i64 x4, .int .i64 x5, .int .i64 x6, .slice Ax6 x7.length cx6, .slice Ax7 x8.length cx7] 51 (0, 0)) by (rw [hw_]; exact putLW8_0_8 BX3.out (.int .i64 x1) (.int .i64 x2) (.int .i64 x3) (.int .i64 x4) (.int .i64 x5) (.int .i64 x6) (.slice Ax6 x7.length cx6) (.slice Ax7 x8.length cx7))); have hf_ : ∀ i, i ≠ gx → w4.heap[i]? = w3.heap[i]? := fun i hi => (by rw [hw_]; rw [far1L _ _ _ _ _ hi, far1L _ _ _ _ _ hi, far1L _ _ _ _ _ hi, far1L _ _ _ _ _ hi, far1L _ _ _ _ _ hi, far1L _ _ _ _ _ hi, far1L _ _ _ _ _ hi, far1L _ _ _ _ _ hi]); have HB4 := Aside0.mk (show Below w.heap.size w w4 by (rw [hw_]; exact below_set (below_set (below_set (below_set (below_set (below_set (below_set (below_set (HB3.out) Ggx.out) Ggx.out) Ggx.out) Ggx.out) Ggx.out) Ggx.out) Ggx.out) Ggx.out)); have BP4 := Aside0.mk ((hf_ gp Ngp_gx.out).trans BP3.out); have HxS4 := Aside0.mk (Kd.R_mono (Kd.R_step (Kd.R_types HxS3.out BX3.out (by decide)) (fun k_ hk_ _ => hf_ k_ hk_.2)) (fun _ h_ => h_.1)); have HxI4 := Aside0.mk (Kd.S_mono (Kd.S_step (Kd.S_types HxI3.out BX3.out (by decide)) (fun k_ hk_ _ => hf_ k_ hk_.2)) (fun _ h_ => h_.1)); clear hf_; have zBX4_0 : w4.cell? ⟨gx, 0, none⟩ = some (.int .i64 x1) := (blk_cell BX4.out 0).trans rfl; have fBX4_0 := blk_frozen BX4.out 0; have zBX4_1 : w4.cell? ⟨gx, 1, none⟩ = some (.int .i64 x2) := (blk_cell BX4.out 1).trans rfl; have fBX4_1 := blk_frozen BX4.out 1; have zBX4_2 : w4.cell? ⟨gx, 2, none⟩ = some (.int .i64 x3) := (blk_cell BX4.out 2).trans rfl; have fBX4_2 := blk_frozen BX4.out 2; have zBX4_3 : w4.cell? ⟨gx, 3, none⟩ = some (.int .i64 x4) := (blk_cell BX4.out 3).trans rfl; have fBX4_3 := blk_frozen BX4.out 3; have zBX4_4 : w4.cell? ⟨gx, 4, none⟩ = some (.int .i64 x5) := (blk_cell BX4.out 4).trans rfl; have fBX4_4 := blk_frozen BX4.out 4; have zBX4_5 : w4.cell? ⟨gx, 5, none⟩ = some (.int .i64 x6) := (blk_cell BX4.out 5).trans rfl; have fBX4_5 := blk_frozen BX4.out 5; have zBX4_6 : w4.cell? ⟨gx, 6, none⟩ = some (.slice Ax6 x7.length cx6) := (blk_cell BX4.out 6).trans rfl; have fBX4_6 := blk_frozen BX4.out 6; have zBX4_7 : w4.cell? ⟨gx, 7, none⟩ = some (.slice Ax7 x8.length cx7) := (blk_cell BX4.out 7).trans rfl; have fBX4_7 := blk_frozen BX4.out 7; clear hw_))
 refine start_ (n := 12) (S := fun w' => w'.heap[gx]? = some (.cells #[.int .i64 x1, .int .i64 x2, .int .i64 x3, .int .i64 x4, .int .i64 x5, .int .i64 x6, .slice Ax6 x7.length cx6, .slice Ax7 x8.length cx7] 51 (0, 0)) ∧ w'.heap[gp]? = some (.cells #[.int .i64 a0, .int .i64 a1, .int .i64 a2, .int .i64 a3, .int .i64 a4, .int .i64 a5, .slice A6 l6.length c6, .slice A7 l7.length c7] 51 (0, 0))) (ds := []) #[false, false, false, false, false, false, false, false, false, false, false, false] (by kernel_rfl) rfl rfl ⟨BX4.out, BP4.out⟩ (fun hHeld => ?_)
 refine with_tabW grapevinelaw13_ParcelPlain.tab2 grapevinelaw13_ParcelPlain.bits2 (fun HT_ HW_ => ?_)
 have hb_ : Below w4.heap.size w4 w4.drew := below_drew (Below.refl _ _)
 have HB5 := Aside0.mk (below_step HB4.out hb_)
 have BP5 := Aside0.mk (blk_below BP4.out hb_)
 have HxS5 := Aside0.mk (Kd.R_below HxS4.out hb_)
 have HxI5 := Aside0.mk (Kd.S_below HxI4.out hb_)
 have BX5 := Aside0.mk (blk_below BX4.out hb_)
 clear hb_
 generalize w4.drew = w5 at HB5 BP5 HxS5 HxI5 BX5 hHeld ⊢
 refine take_ (i := 0) (N := some 10) (v := ?_) (a' := ?_) #[true, false, false, false, false, false, false, false, false, false, false, false] rfl rfl (take_ofW HT_.out HW_.out (by kernel_rfl)) (fun _ _ _ h => h) (Or.inl ⟨by rfl, ?_⟩) hHeld ?_ ?_
 rotate_left
 ·
  rintro w' ⟨s0, s1⟩
  have q0_ := (blk_cell s0 0).trans rfl
  have q1_ := (blk_cell s0 1).trans rfl
  have q2_ := (blk_cell s0 2).trans rfl
  have q3_ := (blk_cell s0 3).trans rfl
  have q4_ := (blk_cell s0 4).trans rfl
  have q5_ := (blk_cell s0 5).trans rfl
  have q6_ := (blk_cell s0 6).trans rfl
  have q7_ := (blk_cell s0 7).trans rfl
  go_simp
  with_reducible rfl
 rotate_left
 ·
  simp only [Act.put, List.setIfInBounds_toArray, List.set_cons_zero, List.set_cons_succ, i64_w, i32_w]
  rfl
 refine take_ (i := 1) (N := some 11) (v := ?_) (a' := ?_) #[true, true, false, false, false, false, false, false, false, false, false, false] rfl rfl (take_ofW HT_.out HW_.out (by kernel_rfl)) (fun _ _ _ h => h) (Or.inl ⟨by rfl, ?_⟩) hHeld ?_ ?_
 rotate_left
 ·
  rintro w' ⟨s0, s1⟩
  have q0_ := (blk_cell s1 0).trans rfl
  have q1_ := (blk_cell s1 1).trans rfl
  have q2_ := (blk_cell s1 2).trans rfl
  have q3_ := (blk_cell s1 3).trans rfl
  have q4_ := (blk_cell s1 4).trans rfl
  have q5_ := (blk_cell s1 5).trans rfl
  have q6_ := (blk_cell s1 6).trans rfl
  have q7_ := (blk_cell s1 7).trans rfl
  go_simp
  with_reducible rfl
 rotate_left
 ·
  simp only [Act.put, List.setIfInBounds_toArray, List.set_cons_zero, List.set_cons_succ, i64_w, i32_w]
  rfl
 refine one_ (i := 2) (N := some 12) #[true, true, true, false, false, false, false, false, false, false, false, false] rfl rfl (one_of HT_.out (by kernel_rfl)) (by decide) (fun K hK => ?_)
 refine goes_ Try.func49 (by kernel_rfl) rfl #[.agg #[.int .i64 a0, .int .i64 a1, .int .i64 a2, .int .i64 a3, .int .i64 a4, .int .i64 a5, .slice A6 l6.length c6, .slice A7 l7.length c7]] (by rfl) rfl rfl (by (try simp only [List.map_toArray, List.map_cons, List.map_nil]); first | done | rfl | (simp only [List.length_drop, List.length_take]; rfl)) ?_
 refine (grapevineref13_Plain.calls k a0 a1 a2 a3 a4 a5 A6 c6 l6 A7 c7 l7 y1 y2 y3 y4 y5 y6 y7 y8 _ (Kd.C_below HR6.out HB5.out) HC6.out (Kd.C_below HR7.out HB5.out) HC7.out E2.out).mono ?_
 rintro e_ w6 ⟨v6_, v7_, rfl, h6_, h7_, hb⟩
 refine ⟨_, rfl, ?_⟩
 have HB6 := Aside0.mk (below_step HB5.out hb)
 have BP6 := Aside0.mk (blk_below BP5.out hb)
 have HxS6 := Aside0.mk (Kd.R_below HxS5.out hb)
 have HxI6 := Aside0.mk (Kd.S_below HxI5.out hb)
 have BX6 := Aside0.mk (blk_below BX5.out hb)
 obtain ⟨Ay6, cy6, e_⟩ := Kd.R_slice h6_
 subst e_
 obtain ⟨Ay7, cy7, e_⟩ := Kd.S_slice h7_
 subst e_
 have HyS6 := Aside0.mk (Kd.R_mono (Kd.R_bound h6_) (ok' := fun k_ => w5.heap.size ≤ k_ ∧ k_ < w6.heap.size) (fun _ h_ => ⟨h_.2.1, h_.2.2.1⟩))
 have HyI6 := Aside0.mk (Kd.S_mono (Kd.S_bound h7_) (ok' := fun k_ => w5.heap.size ≤ k_ ∧ k_ < w6.heap.size) (fun _ h_ => ⟨h_.2.1, h_.2.2.1⟩))
 clear h6_ h7_
 clear hb
 refine hK.out _ _ ⟨BX6.out, BP6.out⟩ (fun hHeld => ?_)
 clear hK K
 refine norm_ (a' := ?_) ?_ ?_
 rotate_left
 ·
  show Act.put _ (some 12) _ = _
  simp only [Act.put, List.setIfInBounds_toArray, List.set_cons_zero, List.set_cons_succ, i64_w, i32_w]
  rfl
 refine one_ (i := 3) (N := some 13) #[true, true, true, true, false, false, false, false, false, false, false, false] rfl rfl (one_of HT_.out (by kernel_rfl)) (by decide) (fun K hK => ?_)
 refine goes_ Try.func53 (by kernel_rfl) rfl #[.agg #[.int .i64 x1, .int .i64 x2, .int .i64 x3, .int .i64 x4, .int .i64 x5, .int .i64 x6, .slice Ax6 x7.length cx6, .slice Ax7 x8.length cx7], .agg #[.int .i64 y1, .int .i64 y2, .int .i64 y3, .int .i64 y4, .int .i64 y5, .int .i64 y6, .slice Ay6 y7.length cy6, .slice Ay7 y8.length cy7]] (by rfl) rfl rfl (by (try simp only [List.map_toArray, List.map_cons, List.map_nil]); first | done | rfl | (simp only [List.length_drop, List.length_take]; rfl)) ?_
 refine (grapevineref13_Same.calls k x1 x2 x3 x4 x5 x6 Ax6 cx6 x7 Ax7 cx7 x8 y1 y2 y3 y4 y5 y6 Ay6 cy6 y7 Ay7 cy7 y8 true _ (Kd.R_reads' HxS6.out).2.2 (Kd.R_reads' HxS6.out).2.1 (Kd.S_reads' HxI6.out).2.2 (Kd.S_reads' HxI6.out).2.1 (Kd.R_reads' HyS6.out).2.2 (Kd.R_reads' HyS6.out).2.1 (Kd.S_reads' HyI6.out).2.2 (Kd.S_reads' HyI6.out).2.1 E3.out).mono ?_
 rintro e_ w7 ⟨rfl, hb⟩
 refine ⟨_, rfl, ?_⟩
 have HB7 := Aside0.mk (below_step HB6.out hb)
 have BP7 := Aside0.mk (blk_below BP6.out hb)
 have HxS7 := Aside0.mk (Kd.R_below HxS6.out hb)
 have HxI7 := Aside0.mk (Kd.S_below HxI6.out hb)
 have BX7 := Aside0.mk (blk_below BX6.out hb)
 have HyS7 := Aside0.mk (Kd.R_below HyS6.out hb)
 have HyI7 := Aside0.mk (Kd.S_below HyI6.out hb)
 clear hb
 refine hK.out _ _ ⟨BX7.out, BP7.out⟩ (fun hHeld => ?_)
 clear hK K
 refine norm_ (a' := ?_) ?_ ?_
 rotate_left
 ·
  show Act.put _ (some 13) _ = _
  simp only [Act.put, List.setIfInBounds_toArray, List.set_cons_zero, List.set_cons_succ, i64_w, i32_w]
  rfl
 refine pure_ (i := 4) (N := some 14) (v := ?_) (a' := ?_) #[true, true, true, true, true, false, false, false, false, false, false, false] rfl rfl (any_of HT_.out (by kernel_rfl)) (fun _ _ _ h => h) (Or.inl ⟨by rfl, ?_⟩) ?_ ?_
 rotate_left
 ·
  intro w'
  go_simp
  with_reducible rfl
 rotate_left
 ·
  simp only [Act.put, List.setIfInBounds_toArray, List.set_cons_zero, List.set_cons_succ, i64_w, i32_w]
  rfl
 refine pure_ (i := 5) (N := some 15) (v := ?_) (a' := ?_) #[true, true, true, true, true, true, false, false, false, false, false, false] rfl rfl (any_of HT_.out (by kernel_rfl)) (fun _ _ _ h => h) (Or.inl ⟨by rfl, ?_⟩) ?_ ?_
 rotate_left
 ·
  intro w'
  go_simp
  with_reducible rfl
 rotate_left
 ·
  simp only [Act.put, List.setIfInBounds_toArray, List.set_cons_zero, List.set_cons_succ, i64_w, i32_w]
  rfl
 refine take_ (i := 6) (N := some 16) (v := ?_) (a' := ?_) #[true, true, true, true, true, true, true, false, false, false, false, false] rfl rfl (take_ofW HT_.out HW_.out (by kernel_rfl)) (fun _ _ _ h => h) (Or.inl ⟨by rfl, ?_⟩) hHeld ?_ ?_
 rotate_left
 ·
  rintro w' ⟨s0, s1⟩
  have q0_ := (blk_cell s0 0).trans rfl
  have q1_ := (blk_cell s0 1).trans rfl
  have q2_ := (blk_cell s0 2).trans rfl
  have q3_ := (blk_cell s0 3).trans rfl
  have q4_ := (blk_cell s0 4).trans rfl
  have q5_ := (blk_cell s0 5).trans rfl
  have q6_ := (blk_cell s0 6).trans rfl
  have q7_ := (blk_cell s0 7).trans rfl
  go_simp
  with_reducible rfl
 rotate_left
 ·
  simp only [Act.put, List.setIfInBounds_toArray, List.set_cons_zero, List.set_cons_succ, i64_w, i32_w]
  rfl
 refine take_ (i := 8) (N := some 18) (v := ?_) (a' := ?_) #[true, true, true, true, true, true, true, false, true, false, false, false] rfl rfl (take_ofW HT_.out HW_.out (by kernel_rfl)) (fun _ _ _ h => h) (Or.inl ⟨by rfl, ?_⟩) hHeld ?_ ?_
 rotate_left
 ·
  rintro w' ⟨s0, s1⟩
  have q0_ := (blk_cell s0 0).trans rfl
  have q1_ := (blk_cell s0 1).trans rfl
  have q2_ := (blk_cell s0 2).trans rfl
  have q3_ := (blk_cell s0 3).trans rfl
  have q4_ := (blk_cell s0 4).trans rfl
  have q5_ := (blk_cell s0 5).trans rfl
  have q6_ := (blk_cell s0 6).trans rfl
  have q7_ := (blk_cell s0 7).trans rfl
  go_simp
  with_reducible rfl
 rotate_left
 ·
  simp only [Act.put, List.setIfInBounds_toArray, List.set_cons_zero, List.set_cons_succ, i64_w, i32_w]
  rfl
 refine one_ (i := 7) (N := some 17) #[true, true, true, true, true, true, true, true, true, false, false, false] rfl rfl (one_of HT_.out (by kernel_rfl)) (by decide) (fun K hK => ?_)
 refine goes_ Try.func52 (by kernel_rfl) rfl #[.agg #[.int .i64 x1, .int .i64 x2, .int .i64 x3, .int .i64 x4, .int .i64 x5, .int .i64 x6, .slice Ax6 x7.length cx6, .slice Ax7 x8.length cx7]] (by rfl) rfl rfl (by (try simp only [List.map_toArray, List.map_cons, List.map_nil]); first | done | rfl | (simp only [List.length_drop, List.length_take]; rfl)) ?_
 refine (parcel_Plain.calls x1 x2 x3 x4 x5 x6 Ax6 cx6 x7 Ax7 cx7 x8 z1 z2 z3 z4 z5 z6 z7 z8 _ (Kd.R_reads' HxS7.out).2.2 (Kd.R_reads' HxS7.out).2.1 (Kd.S_reads' HxI7.out).2.2 (Kd.S_reads' HxI7.out).2.1 E4.out).mono ?_
 rintro e_ w8 ⟨v6_, v7_, rfl, h6_, h7_, hb⟩
 refine ⟨_, rfl, ?_⟩
 have HB8 := Aside0.mk (below_step HB7.out hb)
 have BP8 := Aside0.mk (blk_below BP7.out hb)
 have HxS8 := Aside0.mk (Kd.R_below HxS7.out hb)
 have HxI8 := Aside0.mk (Kd.S_below HxI7.out hb)
 have BX8 := Aside0.mk (blk_below BX7.out hb)
 obtain ⟨Az6, cz6, e_⟩ := Kd.R_slice h6_
 subst e_
 obtain ⟨Az7, cz7, e_⟩ := Kd.S_slice h7_
 subst e_
 have HzS8 := Aside0.mk (Kd.R_mono (Kd.R_bound h6_) (ok' := fun k_ => w7.heap.size ≤ k_ ∧ k_ < w8.heap.size) (fun _ h_ => ⟨h_.2.1, h_.2.2.1⟩))
 have HzI8 := Aside0.mk (Kd.S_mono (Kd.S_bound h7_) (ok' := fun k_ => w7.heap.size ≤ k_ ∧ k_ < w8.heap.size) (fun _ h_ => ⟨h_.2.1, h_.2.2.1⟩))
 clear h6_ h7_
 clear hb
 refine hK.out _ _ ⟨BX8.out, BP8.out⟩ (fun hHeld => ?_)
 clear hK K
 refine norm_ (a' := ?_) ?_ ?_
 rotate_left
 ·
  show Act.put _ (some 17) _ = _
  simp only [Act.put, List.setIfInBounds_toArray, List.set_cons_zero, List.set_cons_succ, i64_w, i32_w]
  rfl
 refine one_ (i := 9) (N := some 19) #[true, true, true, true, true, true, true, true, true, true, false, false] rfl rfl (one_of HT_.out (by kernel_rfl)) (by decide) (fun K hK => ?_)
 refine goes_ Try.func53 (by kernel_rfl) rfl #[.agg #[.int .i64 z1, .int .i64 z2, .int .i64 z3, .int .i64 z4, .int .i64 z5, .int .i64 z6, .slice Az6 z7.length cz6, .slice Az7 z8.length cz7], .agg #[.int .i64 x1, .int .i64 x2, .int .i64 x3, .int .i64 x4, .int .i64 x5, .int .i64 x6, .slice Ax6 x7.length cx6, .slice Ax7 x8.length cx7]] (by rfl) rfl rfl (by (try simp only [List.map_toArray, List.map_cons, List.map_nil]); first | done | rfl | (simp only [List.length_drop, List.length_take]; rfl)) ?_
 refine (grapevineref13_Same.calls k z1 z2 z3 z4 z5 z6 Az6 cz6 z7 Az7 cz7 z8 x1 x2 x3 x4 x5 x6 Ax6 cx6 x7 Ax7 cx7 x8 true _ (Kd.R_reads' HzS8.out).2.2 (Kd.R_reads' HzS8.out).2.1 (Kd.S_reads' HzI8.out).2.2 (Kd.S_reads' HzI8.out).2.1 (Kd.R_reads' HxS8.out).2.2 (Kd.R_reads' HxS8.out).2.1 (Kd.S_reads' HxI8.out).2.2 (Kd.S_reads' HxI8.out).2.1 E5.out).mono ?_
 rintro e_ w9 ⟨rfl, hb⟩
 refine ⟨_, rfl, ?_⟩
 have HB9 := Aside0.mk (below_step HB8.out hb)
 have BP9 := Aside0.mk (blk_below BP8.out hb)
 have HxS9 := Aside0.mk (Kd.R_below HxS8.out hb)
 have HxI9 := Aside0.mk (Kd.S_below HxI8.out hb)
 have BX9 := Aside0.mk (blk_below BX8.out hb)
 have HzS9 := Aside0.mk (Kd.R_below HzS8.out hb)
 have HzI9 := Aside0.mk (Kd.S_below HzI8.out hb)
 clear hb
 refine hK.out _ _ ⟨BX9.out, BP9.out⟩ (fun hHeld => ?_)
 clear hK K
 refine norm_ (a' := ?_) ?_ ?_
 rotate_left
 ·
  show Act.put _ (some 19) _ = _
  simp only [Act.put, List.setIfInBounds_toArray, List.set_cons_zero, List.set_cons_succ, i64_w, i32_w]
  rfl
 refine pure_ (i := 10) (N := some 20) (v := ?_) (a' := ?_) #[true, true, true, true, true, true, true, true, true, true, true, false] rfl rfl (any_of HT_.out (by kernel_rfl)) (fun _ _ _ h => h) (Or.inl ⟨by rfl, ?_⟩) ?_ ?_
 rotate_left
 ·
  intro w'
  go_simp
  with_reducible rfl
 rotate_left
 ·
  simp only [Act.put, List.setIfInBounds_toArray, List.set_cons_zero, List.set_cons_succ, i64_w, i32_w]
  rfl
 refine pure_ (i := 11) (N := some 21) (v := ?_) (a' := ?_) #[true, true, true, true, true, true, true, true, true, true, true, true] rfl rfl (any_of HT_.out (by kernel_rfl)) (fun _ _ _ h => h) (Or.inl ⟨by rfl, ?_⟩) ?_ ?_
 rotate_left
 ·
  intro w'
  go_simp
  with_reducible rfl
 rotate_left
 ·
  simp only [Act.put, List.setIfInBounds_toArray, List.set_cons_zero, List.set_cons_succ, i64_w, i32_w]
  rfl
 refine done_ (done_of HT_.out (by kernel_rfl)) ?_
 have zBP9_0 : w9.cell? ⟨gp, 0, none⟩ = some (.int .i64 a0) := (blk_cell BP9.out 0).trans rfl
 have zBP9_1 : w9.cell? ⟨gp, 1, none⟩ = some (.int .i64 a1) := (blk_cell BP9.out 1).trans rfl
 have zBP9_2 : w9.cell? ⟨gp, 2, none⟩ = some (.int .i64 a2) := (blk_cell BP9.out 2).trans rfl
 have zBP9_3 : w9.cell? ⟨gp, 3, none⟩ = some (.int .i64 a3) := (blk_cell BP9.out 3).trans rfl
 have zBP9_4 : w9.cell? ⟨gp, 4, none⟩ = some (.int .i64 a4) := (blk_cell BP9.out 4).trans rfl
 have zBP9_5 : w9.cell? ⟨gp, 5, none⟩ = some (.int .i64 a5) := (blk_cell BP9.out 5).trans rfl
 have zBP9_6 : w9.cell? ⟨gp, 6, none⟩ = some (.slice A6 l6.length c6) := (blk_cell BP9.out 6).trans rfl
 have zBP9_7 : w9.cell? ⟨gp, 7, none⟩ = some (.slice A7 l7.length c7) := (blk_cell BP9.out 7).trans rfl
 go_wp2_with (first | ((with_reducible refine gate_dst (N := 23) rfl ?_); (try (refine gate_guard (by rfl) ?_; dsimp only)); refine goesL_ (some 23) rfl rfl Try.func49 (by kernel_rfl) rfl #[.agg #[.int .i64 a0, .int .i64 a1, .int .i64 a2, .int .i64 a3, .int .i64 a4, .int .i64 a5, .slice A6 l6.length c6, .slice A7 l7.length c7]] rfl (by (try simp only [List.map_toArray, List.map_cons, List.map_nil]); first | done | rfl | (simp only [List.length_drop, List.length_take]; rfl)) ?_; refine (grapevineref13_Plain.calls k a0 a1 a2 a3 a4 a5 A6 c6 l6 A7 c7 l7 y1 y2 y3 y4 y5 y6 y7 y8 _ (Kd.C_below HR6.out HB9.out) HC6.out (Kd.C_below HR7.out HB9.out) HC7.out E2.out).mono ?_; rintro e_ w10 ⟨v6_, v7_, rfl, h6_, h7_, hb⟩; refine ⟨_, rfl, ?_⟩; have HB10 := Aside0.mk (below_step HB9.out hb); have BP10 := Aside0.mk (blk_below BP9.out hb); have HxS10 := Aside0.mk (Kd.R_below HxS9.out hb); have HxI10 := Aside0.mk (Kd.S_below HxI9.out hb); have BX10 := Aside0.mk (blk_below BX9.out hb); obtain ⟨Au6, cu6, e_⟩ := Kd.R_slice h6_; subst e_; obtain ⟨Au7, cu7, e_⟩ := Kd.S_slice h7_; subst e_; have HyS10 := Aside0.mk (Kd.R_mono (Kd.R_bound h6_) (ok' := fun k_ => w9.heap.size ≤ k_ ∧ k_ < w10.heap.size) (fun _ h_ => ⟨h_.2.1, h_.2.2.1⟩)); have HyI10 := Aside0.mk (Kd.S_mono (Kd.S_bound h7_) (ok' := fun k_ => w9.heap.size ≤ k_ ∧ k_ < w10.heap.size) (fun _ h_ => ⟨h_.2.1, h_.2.2.1⟩)); clear h6_ h7_; clear hb) | ((with_reducible refine gate_dst (N := 4) rfl ?_); refine box_event ?hg (N := 4) ?hd (cs := #[.int .i64 0, .int .i64 0, .int .i64 0, .int .i64 0, .int .i64 0, .int .i64 0, .slice none 0 0, .slice none 0 0]) (t := 51) ?hr ?_; (case hd => rfl); (case hg => rfl); (case hr => first | (go_simp; done) | (go_simp; rfl)); intro gy hg w11 hbox hb; have HB11 := Aside0.mk (below_step HB10.out hb); have BP11 := Aside0.mk (blk_below BP10.out hb); have HxS11 := Aside0.mk (Kd.R_below HxS10.out hb); have HxI11 := Aside0.mk (Kd.S_below HxI10.out hb); have BX11 := Aside0.mk (blk_below BX10.out hb); have HyS11 := Aside0.mk (Kd.R_below HyS10.out hb); have HyI11 := Aside0.mk (Kd.S_below HyI10.out hb); have Ggy := Aside0.mk (show w.heap.size ≤ gy by (rw [hg]; exact below_size HB10.out)); have Ngp_gy := Aside0.mk (show gp ≠ gy from fun e_ => absurd (blk_lt BP10.out) (by rw [e_, hg]; exact Nat.lt_irrefl _)); have Ngx_gy := Aside0.mk (show gx ≠ gy from fun e_ => absurd (blk_lt BX10.out) (by rw [e_, hg]; exact Nat.lt_irrefl _)); have Egy := Aside0.mk hg; have BY11 := Aside0.mk hbox; have zBY11_0 : w11.cell? ⟨gy, 0, none⟩ = some (.int .i64 0) := (blk_cell BY11.out 0).trans rfl; have fBY11_0 := blk_frozen BY11.out 0; have zBY11_1 : w11.cell? ⟨gy, 1, none⟩ = some (.int .i64 0) := (blk_cell BY11.out 1).trans rfl; have fBY11_1 := blk_frozen BY11.out 1; have zBY11_2 : w11.cell? ⟨gy, 2, none⟩ = some (.int .i64 0) := (blk_cell BY11.out 2).trans rfl; have fBY11_2 := blk_frozen BY11.out 2; have zBY11_3 : w11.cell? ⟨gy, 3, none⟩ = some (.int .i64 0) := (blk_cell BY11.out 3).trans rfl; have fBY11_3 := blk_frozen BY11.out 3; have zBY11_4 : w11.cell? ⟨gy, 4, none⟩ = some (.int .i64 0) := (blk_cell BY11.out 4).trans rfl; have fBY11_4 := blk_frozen BY11.out 4; have zBY11_5 : w11.cell? ⟨gy, 5, none⟩ = some (.int .i64 0) := (blk_cell BY11.out 5).trans rfl; have fBY11_5 := blk_frozen BY11.out 5; have zBY11_6 : w11.cell? ⟨gy, 6, none⟩ = some (.slice none 0 0) := (blk_cell BY11.out 6).trans rfl; have fBY11_6 := blk_frozen BY11.out 6; have zBY11_7 : w11.cell? ⟨gy, 7, none⟩ = some (.slice none 0 0) := (blk_cell BY11.out 7).trans rfl; have fBY11_7 := blk_frozen BY11.out 7; clear hb hbox hg) | ((with_reducible refine gate_store (t := 51) (p := 4) (v := .tmp 23) rfl ?_); refine store_event rfl (t := 51) (p := 4) (v := .tmp 23) rfl rfl (w1 := ((((((((w11.setCell ⟨gy, 0, none⟩ (.int .i64 y1)).setCell ⟨gy, 1, none⟩ (.int .i64 y2)).setCell ⟨gy, 2, none⟩ (.int .i64 y3)).setCell ⟨gy, 3, none⟩ (.int .i64 y4)).setCell ⟨gy, 4, none⟩ (.int .i64 y5)).setCell ⟨gy, 5, none⟩ (.int .i64 y6)).setCell ⟨gy, 6, none⟩ (.slice Au6 y7.length cu6)).setCell ⟨gy, 7, none⟩ (.slice Au7 y8.length cu7))) ?hr ?_; (case hr => first | (go_simp; done) | (go_simp; rfl)); intro w12 hw_; have BY12 := Aside0.mk (show w12.heap[gy]? = some (.cells #[.int .i64 y1, .int .i64 y2, .int .i64 y3, .int .i64 y4, .int .i64 y5, .int .i64 y6, .slice Au6 y7.length cu6, .slice Au7 y8.length cu7] 51 (0, 0)) by (rw [hw_]; exact putLW8_0_8 BY11.out (.int .i64 y1) (.int .i64 y2) (.int .i64 y3) (.int .i64 y4) (.int .i64 y5) (.int .i64 y6) (.slice Au6 y7.length cu6) (.slice Au7 y8.length cu7))); have hf_ : ∀ i, i ≠ gy → w12.heap[i]? = w11.heap[i]? := fun i hi => (by rw [hw_]; rw [far1L _ _ _ _ _ hi, far1L _ _ _ _ _ hi, far1L _ _ _ _ _ hi, far1L _ _ _ _ _ hi, far1L _ _ _ _ _ hi, far1L _ _ _ _ _ hi, far1L _ _ _ _ _ hi, far1L _ _ _ _ _ hi]); have HB12 := Aside0.mk (show Below w.heap.size w w12 by (rw [hw_]; exact below_set (below_set (below_set (below_set (below_set (below_set (below_set (below_set (HB11.out) Ggy.out) Ggy.out) Ggy.out) Ggy.out) Ggy.out) Ggy.out) Ggy.out) Ggy.out)); have BP12 := Aside0.mk ((hf_ gp Ngp_gy.out).trans BP11.out); have HxS12 := Aside0.mk (Kd.R_mono (Kd.R_step (Kd.R_types HxS11.out BY11.out (by decide)) (fun k_ hk_ _ => hf_ k_ hk_.2)) (fun _ h_ => h_.1)); have HxI12 := Aside0.mk (Kd.S_mono (Kd.S_step (Kd.S_types HxI11.out BY11.out (by decide)) (fun k_ hk_ _ => hf_ k_ hk_.2)) (fun _ h_ => h_.1)); have BX12 := Aside0.mk ((hf_ gx Ngx_gy.out).trans BX11.out); have HyS12 := Aside0.mk (Kd.R_mono (Kd.R_step (Kd.R_types HyS11.out BY11.out (by decide)) (fun k_ hk_ _ => hf_ k_ hk_.2)) (fun _ h_ => h_.1)); have HyI12 := Aside0.mk (Kd.S_mono (Kd.S_step (Kd.S_types HyI11.out BY11.out (by decide)) (fun k_ hk_ _ => hf_ k_ hk_.2)) (fun _ h_ => h_.1)); clear hf_; clear hw_))
 have LY := Aside0.mk (show w2.heap.size ≤ w9.heap.size by (have h1_ := (blk_lt BX9.out); have h2_ := Egx.out; omega))
 have HST := Aside0.mk (show St w w12 w1.heap.size w2.heap.size gp gx gy #[.int .i64 a0, .int .i64 a1, .int .i64 a2, .int .i64 a3, .int .i64 a4, .int .i64 a5, .slice A6 l6.length c6, .slice A7 l7.length c7] #[.int .i64 x1, .int .i64 x2, .int .i64 x3, .int .i64 x4, .int .i64 x5, .int .i64 x6, .slice Ax6 x7.length cx6, .slice Ax7 x8.length cx7] #[.int .i64 y1, .int .i64 y2, .int .i64 y3, .int .i64 y4, .int .i64 y5, .int .i64 y6, .slice Au6 y7.length cu6, .slice Au7 y8.length cu7] Ax6 Ax7 x7.length x8 (.slice Au6 y7.length cu6) (.slice Au7 y8.length cu7) y7 y8 from ⟨HB12.out, BP12.out, BX12.out, BY12.out, Kd.R_mono (Kd.R_lower HyS12.out (Nat.zero_le _)) (fun _ h_ => Nat.le_trans LY.out h_.1), Kd.S_mono (Kd.S_lower HyI12.out (Nat.zero_le _)) (fun _ h_ => Nat.le_trans LY.out h_.1), XSp_of (Kd.R_mono HxS12.out (fun _ h_ => h_.2)), XIt_of (Kd.R_mono (Kd.S_R HxI12.out) (fun _ h_ => h_.2)), LW.out, LN.out, Nat.le_of_eq Egx.out.symm, by (have h1_ := blk_lt BX10.out; have h2_ := Egx.out; have h3_ := Egy.out; omega)⟩)
 have HLX := Aside0.mk (show x7.length ≤ 9223372036854775807 ∧ x8.length ≤ 9223372036854775807 from ⟨len_C (Kd.R_reads' HxS12.out).2.2, len_C (Kd.S_reads' HxI12.out).2.2⟩)
 go_loopg [5] (x8.length + 1) (fun kq v5 w' => ∃ i : Int, v5 = .int .i64 i ∧ Aside0 (0 ≤ i ∧ i ≤ (x8.length : Int) ∧ x8.length + 1 ≤ kq + i.toNat) ∧ Aside0 (St w w' w1.heap.size w2.heap.size gp gx gy #[.int .i64 a0, .int .i64 a1, .int .i64 a2, .int .i64 a3, .int .i64 a4, .int .i64 a5, .slice A6 l6.length c6, .slice A7 l7.length c7] #[.int .i64 x1, .int .i64 x2, .int .i64 x3, .int .i64 x4, .int .i64 x5, .int .i64 x6, .slice Ax6 x7.length cx6, .slice Ax7 x8.length cx7] #[.int .i64 y1, .int .i64 y2, .int .i64 y3, .int .i64 y4, .int .i64 y5, .int .i64 y6, .slice Au6 y7.length cu6, .slice Au7 y8.length cu7] Ax6 Ax7 x7.length x8 (.slice Au6 y7.length cu6) (.slice Au7 y8.length cu7) y7 y8))
 case atStart => exact ⟨0, rfl, ⟨by omega⟩, HST⟩
 case round =>
  obtain ⟨i, rfl, HI, HS0⟩ := hrel
  have zx7 := (blk_cell HS0.out.bx 7).trans rfl
  by_cases hi : i < (x8.length : Int)
  case pos =>
   have h0 := HI.out.1
   have p0_ := eq_true h0
   have p1_ := eq_true hi
   have p2_ := eq_true (show i.toNat < x8.length by omega)
   obtain ⟨ad, Ab0, cb0, hA, hct, hcs, hln, hbt⟩ := HS0.out.xi i h0 hi
   subst hA
   have hw_ : wrap64 (i + 1) = i + 1 := by unfold wrap64; have := HLX.out.2; omega
   obtain ⟨n, hn⟩ : ∃ n, n = (rd_T62 x8 i).f2.length := ⟨_, rfl⟩
   have HN := Aside0.mk hn
   have HLN := Aside0.mk (show n ≤ 9223372036854775807 by rw [hn]; exact hln)
   clear hct hcs hbt hln hn
   cases gk with
   | zero => exact absurd HI.out (by omega)
   | succ k2 =>
    go_wp2
    go_loopg [6] (n + 1) (fun kq v6 w' => ∃ j : Int, v6 = .int .i64 j ∧ Aside0 (0 ≤ j ∧ j ≤ (n : Int) ∧ n + 1 ≤ kq + j.toNat) ∧ Aside0 (St w w' w1.heap.size w2.heap.size gp gx gy #[.int .i64 a0, .int .i64 a1, .int .i64 a2, .int .i64 a3, .int .i64 a4, .int .i64 a5, .slice A6 l6.length c6, .slice A7 l7.length c7] #[.int .i64 x1, .int .i64 x2, .int .i64 x3, .int .i64 x4, .int .i64 x5, .int .i64 x6, .slice Ax6 x7.length cx6, .slice (some ad) x8.length cx7] #[.int .i64 y1, .int .i64 y2, .int .i64 y3, .int .i64 y4, .int .i64 y5, .int .i64 y6, .slice Au6 y7.length cu6, .slice Au7 y8.length cu7] Ax6 (some ad) x7.length x8 (.slice Au6 y7.length cu6) (.slice Au7 y8.length cu7) y7 y8))
    case atStart => exact ⟨0, rfl, ⟨by omega⟩, HS0⟩
    case round =>
     obtain ⟨j, rfl, HJ, HS1⟩ := hrel
     have zx7 := (blk_cell HS1.out.bx 7).trans rfl
     obtain ⟨ad1, Ab, cb, hA, hct, hcs, _, hbt⟩ := HS1.out.xi i h0 hi
     obtain rfl : ad = ad1 := Option.some.inj hA
     rw [← HN.out] at hcs hbt
     have hj0 := HJ.out.1
     by_cases hj : j < (n : Int)
     case pos =>
      obtain ⟨bd, hB, hcb⟩ := hbt j hj0 hj
      subst hB
      obtain ⟨⟨m, hm⟩, hfz, _, _⟩ := id hcb
      have p3_ := eq_true hj0
      have p4_ := eq_true hj
      have p5_ := eq_true (show j.toNat < n by omega)
      have hwj : wrap64 (j + 1) = j + 1 := by unfold wrap64; have := HLN.out; omega
      go_wp2
      cases gk with
      | zero => exact absurd HJ.out (by omega)
      | succ k3 =>
       go_roundg k3
       case measure => omega
       case rel => exact ⟨j + 1, (by first | rfl | rw [hwj]), ⟨by have := HJ.out; omega⟩, ⟨HS1.out.set hcb _ rfl⟩⟩
     have e1_ := eq_false hj
     have e2_ := eq_false (show ¬ j.toNat < n by have := HJ.out; omega)
     obtain ⟨⟨m, hm⟩, hfz, _, _⟩ := id hct
     go_wp2
     go_roundg k2
     case measure => omega
     case rel => exact ⟨i + 1, (by first | rfl | rw [hw_]), ⟨by have := HI.out; omega⟩, ⟨HS1.out.set hct _ rfl⟩⟩
  have e1_ := eq_false hi
  have e2_ := eq_false (show ¬ i.toNat < x8.length by have := HI.out; omega)
  clear hi HI
  go_wp2
  go_loopg [7] (x7.length + 1) (fun kq v7 w' => ∃ i : Int, v7 = .int .i64 i ∧ Aside0 (0 ≤ i ∧ i ≤ (x7.length : Int) ∧ x7.length + 1 ≤ kq + i.toNat) ∧ Aside0 (St w w' w1.heap.size w2.heap.size gp gx gy #[.int .i64 a0, .int .i64 a1, .int .i64 a2, .int .i64 a3, .int .i64 a4, .int .i64 a5, .slice A6 l6.length c6, .slice A7 l7.length c7] #[.int .i64 x1, .int .i64 x2, .int .i64 x3, .int .i64 x4, .int .i64 x5, .int .i64 x6, .slice Ax6 x7.length cx6, .slice Ax7 x8.length cx7] #[.int .i64 y1, .int .i64 y2, .int .i64 y3, .int .i64 y4, .int .i64 y5, .int .i64 y6, .slice Au6 y7.length cu6, .slice Au7 y8.length cu7] Ax6 Ax7 x7.length x8 (.slice Au6 y7.length cu6) (.slice Au7 y8.length cu7) y7 y8))
  case atStart => exact ⟨0, rfl, ⟨by omega⟩, HS0⟩
  case round =>
   obtain ⟨i, rfl, HI, HS1⟩ := hrel
   clear HS0
   have zx6 := (blk_cell HS1.out.bx 6).trans rfl
   by_cases hi : i < (x7.length : Int)
   case pos =>
    have h0 := HI.out.1
    have p0_ := eq_true h0
    have p1_ := eq_true hi
    have p2_ := eq_true (show i.toNat < x7.length by omega)
    obtain ⟨ad, hA, hct⟩ := HS1.out.xs i h0 hi
    subst hA
    obtain ⟨⟨m, hm⟩, hfz, _, _⟩ := id hct
    have hw_ : wrap64 (i + 1) = i + 1 := by unfold wrap64; have := HLX.out.1; omega
    go_wp2
    cases gk with
    | zero => exact absurd HI.out (by omega)
    | succ k2 =>
     go_roundg k2
     case measure => omega
     case rel => exact ⟨i + 1, (by first | rfl | rw [hw_]), ⟨by have := HI.out; omega⟩, ⟨HS1.out.set hct _ rfl⟩⟩
   have e1_ := eq_false hi
   have e2_ := eq_false (show ¬ i.toNat < x7.length by have := HI.out; omega)
   clear hi HI
   go_wp2
   by_cases hc : cc = 0
   case neg =>
    have hcb := bne_iff_ne.mpr hc
    have HB0 := Aside0.mk HS1.out.hb
    have BP0 := Aside0.mk HS1.out.bp
    have BY0 := Aside0.mk HS1.out.byy
    have HuS0 := Aside0.mk HS1.out.ys
    have HuI0 := Aside0.mk HS1.out.yi
    clear HS1
    refine start_ (n := 18) (S := fun w' => w'.heap[gy]? = some (.cells #[.int .i64 y1, .int .i64 y2, .int .i64 y3, .int .i64 y4, .int .i64 y5, .int .i64 y6, .slice Au6 y7.length cu6, .slice Au7 y8.length cu7] 51 (0, 0)) ∧ w'.heap[gp]? = some (.cells #[.int .i64 a0, .int .i64 a1, .int .i64 a2, .int .i64 a3, .int .i64 a4, .int .i64 a5, .slice A6 l6.length c6, .slice A7 l7.length c7] 51 (0, 0))) (ds := []) #[false, false, false, false, false, false, false, false, false, false, false, false, false, false, false, false, false, false] (by kernel_rfl) rfl rfl ⟨BY0.out, BP0.out⟩ (fun hHeld => ?_)
    refine with_tabW grapevinelaw13_ParcelPlain.tab17 grapevinelaw13_ParcelPlain.bits17 (fun HT_ HW_ => ?_)
    have hb_ : Below wr.heap.size wr wr.drew := below_drew (Below.refl _ _)
    have HB1 := Aside0.mk (below_step HB0.out hb_)
    have BP1 := Aside0.mk (blk_below BP0.out hb_)
    have BY1 := Aside0.mk (blk_below BY0.out hb_)
    have HuS1 := Aside0.mk (Kd.R_below HuS0.out hb_)
    have HuI1 := Aside0.mk (Kd.S_below HuI0.out hb_)
    clear hb_
    generalize wr.drew = w1 at HB1 BP1 BY1 HuS1 HuI1 hHeld ⊢
    refine one_ (i := 0) (N := some 70) #[true, false, false, false, false, false, false, false, false, false, false, false, false, false, false, false, false, false] rfl rfl (one_of HT_.out (by kernel_rfl)) (by decide) (fun K hK => ?_)
    refine goes_ Try.func44 (by kernel_rfl) rfl #[] (by rfl) rfl rfl (by (try simp only [List.map_toArray, List.map_cons, List.map_nil]); first | done | rfl | (simp only [List.length_drop, List.length_take]; rfl)) ?_
    refine (grapevinelaw13_live.calls k true _ E6.out).mono ?_
    rintro e_ w2 ⟨rfl, hb⟩
    refine ⟨_, rfl, ?_⟩
    have HB2 := Aside0.mk (below_step HB1.out hb)
    have BP2 := Aside0.mk (blk_below BP1.out hb)
    have BY2 := Aside0.mk (blk_below BY1.out hb)
    have HuS2 := Aside0.mk (Kd.R_below HuS1.out hb)
    have HuI2 := Aside0.mk (Kd.S_below HuI1.out hb)
    clear hb
    refine hK.out _ _ ⟨BY2.out, BP2.out⟩ (fun hHeld => ?_)
    clear hK K
    refine norm_ (a' := ?_) ?_ ?_
    rotate_left
    ·
     show Act.put _ (some 70) _ = _
     simp only [Act.put, List.setIfInBounds_toArray, List.set_cons_zero, List.set_cons_succ, i64_w, i32_w]
     rfl
    refine pure_ (i := 1) (N := some 71) (v := ?_) (a' := ?_) #[true, true, false, false, false, false, false, false, false, false, false, false, false, false, false, false, false, false] rfl rfl (any_of HT_.out (by kernel_rfl)) (fun _ _ _ h => h) (Or.inl ⟨by rfl, ?_⟩) ?_ ?_
    rotate_left
    ·
     intro w'
     go_simp
     with_reducible rfl
    rotate_left
    ·
     simp only [Act.put, List.setIfInBounds_toArray, List.set_cons_zero, List.set_cons_succ, i64_w, i32_w]
     rfl
    refine take_ (i := 2) (N := some 72) (v := ?_) (a' := ?_) #[true, true, true, false, false, false, false, false, false, false, false, false, false, false, false, false, false, false] rfl rfl (take_ofW HT_.out HW_.out (by kernel_rfl)) (fun _ _ _ h => h) (Or.inl ⟨by rfl, ?_⟩) hHeld ?_ ?_
    rotate_left
    ·
     rintro w' ⟨s0, s1⟩
     have q0_ := (blk_cell s0 0).trans rfl
     have q1_ := (blk_cell s0 1).trans rfl
     have q2_ := (blk_cell s0 2).trans rfl
     have q3_ := (blk_cell s0 3).trans rfl
     have q4_ := (blk_cell s0 4).trans rfl
     have q5_ := (blk_cell s0 5).trans rfl
     have q6_ := (blk_cell s0 6).trans rfl
     have q7_ := (blk_cell s0 7).trans rfl
     go_simp
     with_reducible rfl
    rotate_left
    ·
     simp only [Act.put, List.setIfInBounds_toArray, List.set_cons_zero, List.set_cons_succ, i64_w, i32_w]
     rfl
    refine take_ (i := 3) (N := some 73) (v := ?_) (a' := ?_) #[true, true, true, true, false, false, false, false, false, false, false, false, false, false, false, false, false, false] rfl rfl (take_ofW HT_.out HW_.out (by kernel_rfl)) (fun _ _ _ h => h) (Or.inl ⟨by rfl, ?_⟩) hHeld ?_ ?_
    rotate_left
    ·
     rintro w' ⟨s0, s1⟩
     have q0_ := (blk_cell s1 0).trans rfl
     have q1_ := (blk_cell s1 1).trans rfl
     have q2_ := (blk_cell s1 2).trans rfl
     have q3_ := (blk_cell s1 3).trans rfl
     have q4_ := (blk_cell s1 4).trans rfl
     have q5_ := (blk_cell s1 5).trans rfl
     have q6_ := (blk_cell s1 6).trans rfl
     have q7_ := (blk_cell s1 7).trans rfl
     go_simp
     with_reducible rfl
    rotate_left
    ·
     simp only [Act.put, List.setIfInBounds_toArray, List.set_cons_zero, List.set_cons_succ, i64_w, i32_w]
     rfl
    refine one_ (i := 4) (N := some 74) #[true, true, true, true, true, false, false, false, false, false, false, false, false, false, false, false, false, false] rfl rfl (one_of HT_.out (by kernel_rfl)) (by decide) (fun K hK => ?_)
    refine goes_ Try.func49 (by kernel_rfl) rfl #[.agg #[.int .i64 a0, .int .i64 a1, .int .i64 a2, .int .i64 a3, .int .i64 a4, .int .i64 a5, .slice A6 l6.length c6, .slice A7 l7.length c7]] (by rfl) rfl rfl (by (try simp only [List.map_toArray, List.map_cons, List.map_nil]); first | done | rfl | (simp only [List.length_drop, List.length_take]; rfl)) ?_
    refine (grapevineref13_Plain.calls k a0 a1 a2 a3 a4 a5 A6 c6 l6 A7 c7 l7 y1 y2 y3 y4 y5 y6 y7 y8 _ (Kd.C_below HR6.out HB2.out) HC6.out (Kd.C_below HR7.out HB2.out) HC7.out E2.out).mono ?_
    rintro e_ w3 ⟨v6_, v7_, rfl, h6_, h7_, hb⟩
    refine ⟨_, rfl, ?_⟩
    have HB3 := Aside0.mk (below_step HB2.out hb)
    have BP3 := Aside0.mk (blk_below BP2.out hb)
    have BY3 := Aside0.mk (blk_below BY2.out hb)
    have HuS3 := Aside0.mk (Kd.R_below HuS2.out hb)
    have HuI3 := Aside0.mk (Kd.S_below HuI2.out hb)
    obtain ⟨At6, ct6, e_⟩ := Kd.R_slice h6_
    subst e_
    obtain ⟨At7, ct7, e_⟩ := Kd.S_slice h7_
    subst e_
    have HtS3 := Aside0.mk (Kd.R_mono (Kd.R_bound h6_) (ok' := fun k_ => w2.heap.size ≤ k_ ∧ k_ < w3.heap.size) (fun _ h_ => ⟨h_.2.1, h_.2.2.1⟩))
    have HtI3 := Aside0.mk (Kd.S_mono (Kd.S_bound h7_) (ok' := fun k_ => w2.heap.size ≤ k_ ∧ k_ < w3.heap.size) (fun _ h_ => ⟨h_.2.1, h_.2.2.1⟩))
    clear h6_ h7_
    clear hb
    refine hK.out _ _ ⟨BY3.out, BP3.out⟩ (fun hHeld => ?_)
    clear hK K
    refine norm_ (a' := ?_) ?_ ?_
    rotate_left
    ·
     show Act.put _ (some 74) _ = _
     simp only [Act.put, List.setIfInBounds_toArray, List.set_cons_zero, List.set_cons_succ, i64_w, i32_w]
     rfl
    refine one_ (i := 5) (N := some 75) #[true, true, true, true, true, true, false, false, false, false, false, false, false, false, false, false, false, false] rfl rfl (one_of HT_.out (by kernel_rfl)) (by decide) (fun K hK => ?_)
    refine goes_ Try.func53 (by kernel_rfl) rfl #[.agg #[.int .i64 y1, .int .i64 y2, .int .i64 y3, .int .i64 y4, .int .i64 y5, .int .i64 y6, .slice Au6 y7.length cu6, .slice Au7 y8.length cu7], .agg #[.int .i64 y1, .int .i64 y2, .int .i64 y3, .int .i64 y4, .int .i64 y5, .int .i64 y6, .slice At6 y7.length ct6, .slice At7 y8.length ct7]] (by rfl) rfl rfl (by (try simp only [List.map_toArray, List.map_cons, List.map_nil]); first | done | rfl | (simp only [List.length_drop, List.length_take]; rfl)) ?_
    refine (grapevineref13_Same.calls k y1 y2 y3 y4 y5 y6 Au6 cu6 y7 Au7 cu7 y8 y1 y2 y3 y4 y5 y6 At6 ct6 y7 At7 ct7 y8 true _ (Kd.R_reads' HuS3.out).2.2 (Kd.R_reads' HuS3.out).2.1 (Kd.S_reads' HuI3.out).2.2 (Kd.S_reads' HuI3.out).2.1 (Kd.R_reads' HtS3.out).2.2 (Kd.R_reads' HtS3.out).2.1 (Kd.S_reads' HtI3.out).2.2 (Kd.S_reads' HtI3.out).2.1 E7.out).mono ?_
    rintro e_ w4 ⟨rfl, hb⟩
    refine ⟨_, rfl, ?_⟩
    have HB4 := Aside0.mk (below_step HB3.out hb)
    have BP4 := Aside0.mk (blk_below BP3.out hb)
    have BY4 := Aside0.mk (blk_below BY3.out hb)
    have HuS4 := Aside0.mk (Kd.R_below HuS3.out hb)
    have HuI4 := Aside0.mk (Kd.S_below HuI3.out hb)
    have HtS4 := Aside0.mk (Kd.R_below HtS3.out hb)
    have HtI4 := Aside0.mk (Kd.S_below HtI3.out hb)
    clear hb
    refine hK.out _ _ ⟨BY4.out, BP4.out⟩ (fun hHeld => ?_)
    clear hK K
    refine norm_ (a' := ?_) ?_ ?_
    rotate_left
    ·
     show Act.put _ (some 75) _ = _
     simp only [Act.put, List.setIfInBounds_toArray, List.set_cons_zero, List.set_cons_succ, i64_w, i32_w]
     rfl
    refine pure_ (i := 6) (N := some 76) (v := ?_) (a' := ?_) #[true, true, true, true, true, true, true, false, false, false, false, false, false, false, false, false, false, false] rfl rfl (any_of HT_.out (by kernel_rfl)) (fun _ _ _ h => h) (Or.inl ⟨by rfl, ?_⟩) ?_ ?_
    rotate_left
    ·
     intro w'
     go_simp
     with_reducible rfl
    rotate_left
    ·
     simp only [Act.put, List.setIfInBounds_toArray, List.set_cons_zero, List.set_cons_succ, i64_w, i32_w]
     rfl
    refine pure_ (i := 7) (N := some 77) (v := ?_) (a' := ?_) #[true, true, true, true, true, true, true, true, false, false, false, false, false, false, false, false, false, false] rfl rfl (any_of HT_.out (by kernel_rfl)) (fun _ _ _ h => h) (Or.inl ⟨by rfl, ?_⟩) ?_ ?_
    rotate_left
    ·
     intro w'
     go_simp
     with_reducible rfl
    rotate_left
    ·
     simp only [Act.put, List.setIfInBounds_toArray, List.set_cons_zero, List.set_cons_succ, i64_w, i32_w]
     rfl
    refine take_ (i := 8) (N := some 78) (v := ?_) (a' := ?_) #[true, true, true, true, true, true, true, true, true, false, false, false, false, false, false, false, false, false] rfl rfl (take_ofW HT_.out HW_.out (by kernel_rfl)) (fun _ _ _ h => h) (Or.inl ⟨by rfl, ?_⟩) hHeld ?_ ?_
    rotate_left
    ·
     rintro w' ⟨s0, s1⟩
     have q0_ := (blk_cell s1 0).trans rfl
     have q1_ := (blk_cell s1 1).trans rfl
     have q2_ := (blk_cell s1 2).trans rfl
     have q3_ := (blk_cell s1 3).trans rfl
     have q4_ := (blk_cell s1 4).trans rfl
     have q5_ := (blk_cell s1 5).trans rfl
     have q6_ := (blk_cell s1 6).trans rfl
     have q7_ := (blk_cell s1 7).trans rfl
     go_simp
     with_reducible rfl
    rotate_left
    ·
     simp only [Act.put, List.setIfInBounds_toArray, List.set_cons_zero, List.set_cons_succ, i64_w, i32_w]
     rfl
    refine one_ (i := 9) (N := some 79) #[true, true, true, true, true, true, true, true, true, true, false, false, false, false, false, false, false, false] rfl rfl (one_of HT_.out (by kernel_rfl)) (by decide) (fun K hK => ?_)
    refine goes_ Try.func45 (by kernel_rfl) rfl #[.agg #[.int .i64 a0, .int .i64 a1, .int .i64 a2, .int .i64 a3, .int .i64 a4, .int .i64 a5, .slice A6 l6.length c6, .slice A7 l7.length c7]] (by rfl) rfl rfl (by (try simp only [List.map_toArray, List.map_cons, List.map_nil]); first | done | rfl | (simp only [List.length_drop, List.length_take]; rfl)) ?_
    refine (parcel_Check.calls k a0 a1 a2 a3 a4 a5 A6 c6 l6 A7 c7 l7 cc _ (Kd.C_below HR6.out HB4.out) HC6.out (Kd.C_below HR7.out HB4.out) HC7.out E8.out).mono ?_
    rintro e_ w5 ⟨rfl, hb⟩
    refine ⟨_, rfl, ?_⟩
    have HB5 := Aside0.mk (below_step HB4.out hb)
    have BP5 := Aside0.mk (blk_below BP4.out hb)
    have BY5 := Aside0.mk (blk_below BY4.out hb)
    have HuS5 := Aside0.mk (Kd.R_below HuS4.out hb)
    have HuI5 := Aside0.mk (Kd.S_below HuI4.out hb)
    clear hb
    refine hK.out _ _ ⟨BY5.out, BP5.out⟩ (fun hHeld => ?_)
    clear hK K
    refine norm_ (a' := ?_) ?_ ?_
    rotate_left
    ·
     show Act.put _ (some 79) _ = _
     simp only [Act.put, List.setIfInBounds_toArray, List.set_cons_zero, List.set_cons_succ, i64_w, i32_w]
     rfl
    refine pure_ (i := 10) (N := some 80) (v := ?_) (a' := ?_) #[true, true, true, true, true, true, true, true, true, true, true, false, false, false, false, false, false, false] rfl rfl (any_of HT_.out (by kernel_rfl)) (fun _ _ _ h => h) (Or.inl ⟨by rfl, ?_⟩) ?_ ?_
    rotate_left
    ·
     intro w'
     go_simp
     with_reducible rfl
    rotate_left
    ·
     simp only [Act.put, List.setIfInBounds_toArray, List.set_cons_zero, List.set_cons_succ, i64_w, i32_w]
     rfl
    refine pure_ (i := 11) (N := some 81) (v := ?_) (a' := ?_) #[true, true, true, true, true, true, true, true, true, true, true, true, false, false, false, false, false, false] rfl rfl (any_of HT_.out (by kernel_rfl)) (fun _ _ _ h => h) (Or.inl ⟨by rfl, ?_⟩) ?_ ?_
    rotate_left
    ·
     intro w'
     go_simp
     with_reducible rfl
    rotate_left
    ·
     simp only [Act.put, List.setIfInBounds_toArray, List.set_cons_zero, List.set_cons_succ, i64_w, i32_w]
     rfl
    refine pure_ (i := 12) (N := some 82) (v := undef) (a' := ?_) #[true, true, true, true, true, true, true, true, true, true, true, true, true, false, false, false, false, false] rfl rfl (any_of HT_.out (by kernel_rfl)) (fun _ _ _ h => h) (Or.inr ⟨by rfl, rfl⟩) ?_ ?_
    rotate_left
    ·
     simp only [Act.put, List.setIfInBounds_toArray, List.set_cons_zero, List.set_cons_succ, i64_w, i32_w]
     rfl
    refine pure_ (i := 13) (N := some 83) (v := undef) (a' := ?_) #[true, true, true, true, true, true, true, true, true, true, true, true, true, true, false, false, false, false] rfl rfl (any_of HT_.out (by kernel_rfl)) (fun _ _ _ h => h) (Or.inr ⟨by rfl, rfl⟩) ?_ ?_
    rotate_left
    ·
     simp only [Act.put, List.setIfInBounds_toArray, List.set_cons_zero, List.set_cons_succ, i64_w, i32_w]
     rfl
    refine pure_ (i := 14) (N := some 84) (v := undef) (a' := ?_) #[true, true, true, true, true, true, true, true, true, true, true, true, true, true, true, false, false, false] rfl rfl (any_of HT_.out (by kernel_rfl)) (fun _ _ _ h => h) (Or.inr ⟨by rfl, rfl⟩) ?_ ?_
    rotate_left
    ·
     simp only [Act.put, List.setIfInBounds_toArray, List.set_cons_zero, List.set_cons_succ, i64_w, i32_w]
     rfl
    refine pure_ (i := 15) (N := some 85) (v := ?_) (a' := ?_) #[true, true, true, true, true, true, true, true, true, true, true, true, true, true, true, true, false, false] rfl rfl (any_of HT_.out (by kernel_rfl)) (fun _ _ _ h => h) (Or.inl ⟨by rfl, ?_⟩) ?_ ?_
    rotate_left
    ·
     intro w'
     go_simp
     with_reducible rfl
    rotate_left
    ·
     simp only [Act.put, List.setIfInBounds_toArray, List.set_cons_zero, List.set_cons_succ, i64_w, i32_w]
     rfl
    refine pure_ (i := 16) (N := some 86) (v := ?_) (a' := ?_) #[true, true, true, true, true, true, true, true, true, true, true, true, true, true, true, true, true, false] rfl rfl (any_of HT_.out (by kernel_rfl)) (fun _ _ _ h => h) (Or.inl ⟨by rfl, ?_⟩) ?_ ?_
    rotate_left
    ·
     intro w'
     go_simp
     with_reducible rfl
    rotate_left
    ·
     simp only [Act.put, List.setIfInBounds_toArray, List.set_cons_zero, List.set_cons_succ, i64_w, i32_w]
     rfl
    refine pure_ (i := 17) (N := some 2) (v := ?_) (a' := ?_) #[true, true, true, true, true, true, true, true, true, true, true, true, true, true, true, true, true, true] rfl rfl (any_of HT_.out (by kernel_rfl)) (fun _ _ _ h => h) (Or.inl ⟨by rfl, ?_⟩) ?_ ?_
    rotate_left
    ·
     intro w'
     go_simp
     with_reducible rfl
    rotate_left
    ·
     simp only [Act.put, List.setIfInBounds_toArray, List.set_cons_zero, List.set_cons_succ, i64_w, i32_w]
     rfl
    refine done_ (done_of HT_.out (by kernel_rfl)) ?_
    go_wp2
    go_ret
    exact ⟨rfl, HB5.out⟩
   subst hc
   have hd0 := HCD.out rfl
   subst hd0
   have HB0 := Aside0.mk HS1.out.hb
   have BP0 := Aside0.mk HS1.out.bp
   have BY0 := Aside0.mk HS1.out.byy
   have HuS0 := Aside0.mk HS1.out.ys
   have HuI0 := Aside0.mk HS1.out.yi
   clear HS1
   refine start_ (n := 18) (S := fun w' => w'.heap[gy]? = some (.cells #[.int .i64 y1, .int .i64 y2, .int .i64 y3, .int .i64 y4, .int .i64 y5, .int .i64 y6, .slice Au6 y7.length cu6, .slice Au7 y8.length cu7] 51 (0, 0)) ∧ w'.heap[gp]? = some (.cells #[.int .i64 a0, .int .i64 a1, .int .i64 a2, .int .i64 a3, .int .i64 a4, .int .i64 a5, .slice A6 l6.length c6, .slice A7 l7.length c7] 51 (0, 0))) (ds := []) #[false, false, false, false, false, false, false, false, false, false, false, false, false, false, false, false, false, false] (by kernel_rfl) rfl rfl ⟨BY0.out, BP0.out⟩ (fun hHeld => ?_)
   refine with_tabW grapevinelaw13_ParcelPlain.tab17 grapevinelaw13_ParcelPlain.bits17 (fun HT_ HW_ => ?_)
   have hb_ : Below wr.heap.size wr wr.drew := below_drew (Below.refl _ _)
   have HB1 := Aside0.mk (below_step HB0.out hb_)
   have BP1 := Aside0.mk (blk_below BP0.out hb_)
   have BY1 := Aside0.mk (blk_below BY0.out hb_)
   have HuS1 := Aside0.mk (Kd.R_below HuS0.out hb_)
   have HuI1 := Aside0.mk (Kd.S_below HuI0.out hb_)
   clear hb_
   generalize wr.drew = w1 at HB1 BP1 BY1 HuS1 HuI1 hHeld ⊢
   refine one_ (i := 0) (N := some 70) #[true, false, false, false, false, false, false, false, false, false, false, false, false, false, false, false, false, false] rfl rfl (one_of HT_.out (by kernel_rfl)) (by decide) (fun K hK => ?_)
   refine goes_ Try.func44 (by kernel_rfl) rfl #[] (by rfl) rfl rfl (by (try simp only [List.map_toArray, List.map_cons, List.map_nil]); first | done | rfl | (simp only [List.length_drop, List.length_take]; rfl)) ?_
   refine (grapevinelaw13_live.calls k true _ E6.out).mono ?_
   rintro e_ w2 ⟨rfl, hb⟩
   refine ⟨_, rfl, ?_⟩
   have HB2 := Aside0.mk (below_step HB1.out hb)
   have BP2 := Aside0.mk (blk_below BP1.out hb)
   have BY2 := Aside0.mk (blk_below BY1.out hb)
   have HuS2 := Aside0.mk (Kd.R_below HuS1.out hb)
   have HuI2 := Aside0.mk (Kd.S_below HuI1.out hb)
   clear hb
   refine hK.out _ _ ⟨BY2.out, BP2.out⟩ (fun hHeld => ?_)
   clear hK K
   refine norm_ (a' := ?_) ?_ ?_
   rotate_left
   ·
    show Act.put _ (some 70) _ = _
    simp only [Act.put, List.setIfInBounds_toArray, List.set_cons_zero, List.set_cons_succ, i64_w, i32_w]
    rfl
   refine pure_ (i := 1) (N := some 71) (v := ?_) (a' := ?_) #[true, true, false, false, false, false, false, false, false, false, false, false, false, false, false, false, false, false] rfl rfl (any_of HT_.out (by kernel_rfl)) (fun _ _ _ h => h) (Or.inl ⟨by rfl, ?_⟩) ?_ ?_
   rotate_left
   ·
    intro w'
    go_simp
    with_reducible rfl
   rotate_left
   ·
    simp only [Act.put, List.setIfInBounds_toArray, List.set_cons_zero, List.set_cons_succ, i64_w, i32_w]
    rfl
   refine take_ (i := 2) (N := some 72) (v := ?_) (a' := ?_) #[true, true, true, false, false, false, false, false, false, false, false, false, false, false, false, false, false, false] rfl rfl (take_ofW HT_.out HW_.out (by kernel_rfl)) (fun _ _ _ h => h) (Or.inl ⟨by rfl, ?_⟩) hHeld ?_ ?_
   rotate_left
   ·
    rintro w' ⟨s0, s1⟩
    have q0_ := (blk_cell s0 0).trans rfl
    have q1_ := (blk_cell s0 1).trans rfl
    have q2_ := (blk_cell s0 2).trans rfl
    have q3_ := (blk_cell s0 3).trans rfl
    have q4_ := (blk_cell s0 4).trans rfl
    have q5_ := (blk_cell s0 5).trans rfl
    have q6_ := (blk_cell s0 6).trans rfl
    have q7_ := (blk_cell s0 7).trans rfl
    go_simp
    with_reducible rfl
   rotate_left
   ·
    simp only [Act.put, List.setIfInBounds_toArray, List.set_cons_zero, List.set_cons_succ, i64_w, i32_w]
    rfl
   refine take_ (i := 3) (N := some 73) (v := ?_) (a' := ?_) #[true, true, true, true, false, false, false, false, false, false, false, false, false, false, false, false, false, false] rfl rfl (take_ofW HT_.out HW_.out (by kernel_rfl)) (fun _ _ _ h => h) (Or.inl ⟨by rfl, ?_⟩) hHeld ?_ ?_
   rotate_left
   ·
    rintro w' ⟨s0, s1⟩
    have q0_ := (blk_cell s1 0).trans rfl
    have q1_ := (blk_cell s1 1).trans rfl
    have q2_ := (blk_cell s1 2).trans rfl
    have q3_ := (blk_cell s1 3).trans rfl
    have q4_ := (blk_cell s1 4).trans rfl
    have q5_ := (blk_cell s1 5).trans rfl
    have q6_ := (blk_cell s1 6).trans rfl
    have q7_ := (blk_cell s1 7).trans rfl
    go_simp
    with_reducible rfl
   rotate_left
   ·
    simp only [Act.put, List.setIfInBounds_toArray, List.set_cons_zero, List.set_cons_succ, i64_w, i32_w]
    rfl
   refine one_ (i := 4) (N := some 74) #[true, true, true, true, true, false, false, false, false, false, false, false, false, false, false, false, false, false] rfl rfl (one_of HT_.out (by kernel_rfl)) (by decide) (fun K hK => ?_)
   refine goes_ Try.func49 (by kernel_rfl) rfl #[.agg #[.int .i64 a0, .int .i64 a1, .int .i64 a2, .int .i64 a3, .int .i64 a4, .int .i64 a5, .slice A6 l6.length c6, .slice A7 l7.length c7]] (by rfl) rfl rfl (by (try simp only [List.map_toArray, List.map_cons, List.map_nil]); first | done | rfl | (simp only [List.length_drop, List.length_take]; rfl)) ?_
   refine (grapevineref13_Plain.calls k a0 a1 a2 a3 a4 a5 A6 c6 l6 A7 c7 l7 y1 y2 y3 y4 y5 y6 y7 y8 _ (Kd.C_below HR6.out HB2.out) HC6.out (Kd.C_below HR7.out HB2.out) HC7.out E2.out).mono ?_
   rintro e_ w3 ⟨v6_, v7_, rfl, h6_, h7_, hb⟩
   refine ⟨_, rfl, ?_⟩
   have HB3 := Aside0.mk (below_step HB2.out hb)
   have BP3 := Aside0.mk (blk_below BP2.out hb)
   have BY3 := Aside0.mk (blk_below BY2.out hb)
   have HuS3 := Aside0.mk (Kd.R_below HuS2.out hb)
   have HuI3 := Aside0.mk (Kd.S_below HuI2.out hb)
   obtain ⟨At6, ct6, e_⟩ := Kd.R_slice h6_
   subst e_
   obtain ⟨At7, ct7, e_⟩ := Kd.S_slice h7_
   subst e_
   have HtS3 := Aside0.mk (Kd.R_mono (Kd.R_bound h6_) (ok' := fun k_ => w2.heap.size ≤ k_ ∧ k_ < w3.heap.size) (fun _ h_ => ⟨h_.2.1, h_.2.2.1⟩))
   have HtI3 := Aside0.mk (Kd.S_mono (Kd.S_bound h7_) (ok' := fun k_ => w2.heap.size ≤ k_ ∧ k_ < w3.heap.size) (fun _ h_ => ⟨h_.2.1, h_.2.2.1⟩))
   clear h6_ h7_
   clear hb
   refine hK.out _ _ ⟨BY3.out, BP3.out⟩ (fun hHeld => ?_)
   clear hK K
   refine norm_ (a' := ?_) ?_ ?_
   rotate_left
   ·
    show Act.put _ (some 74) _ = _
    simp only [Act.put, List.setIfInBounds_toArray, List.set_cons_zero, List.set_cons_succ, i64_w, i32_w]
    rfl
   refine one_ (i := 5) (N := some 75) #[true, true, true, true, true, true, false, false, false, false, false, false, false, false, false, false, false, false] rfl rfl (one_of HT_.out (by kernel_rfl)) (by decide) (fun K hK => ?_)
   refine goes_ Try.func53 (by kernel_rfl) rfl #[.agg #[.int .i64 y1, .int .i64 y2, .int .i64 y3, .int .i64 y4, .int .i64 y5, .int .i64 y6, .slice Au6 y7.length cu6, .slice Au7 y8.length cu7], .agg #[.int .i64 y1, .int .i64 y2, .int .i64 y3, .int .i64 y4, .int .i64 y5, .int .i64 y6, .slice At6 y7.length ct6, .slice At7 y8.length ct7]] (by rfl) rfl rfl (by (try simp only [List.map_toArray, List.map_cons, List.map_nil]); first | done | rfl | (simp only [List.length_drop, List.length_take]; rfl)) ?_
   refine (grapevineref13_Same.calls k y1 y2 y3 y4 y5 y6 Au6 cu6 y7 Au7 cu7 y8 y1 y2 y3 y4 y5 y6 At6 ct6 y7 At7 ct7 y8 true _ (Kd.R_reads' HuS3.out).2.2 (Kd.R_reads' HuS3.out).2.1 (Kd.S_reads' HuI3.out).2.2 (Kd.S_reads' HuI3.out).2.1 (Kd.R_reads' HtS3.out).2.2 (Kd.R_reads' HtS3.out).2.1 (Kd.S_reads' HtI3.out).2.2 (Kd.S_reads' HtI3.out).2.1 E7.out).mono ?_
   rintro e_ w4 ⟨rfl, hb⟩
   refine ⟨_, rfl, ?_⟩
   have HB4 := Aside0.mk (below_step HB3.out hb)
   have BP4 := Aside0.mk (blk_below BP3.out hb)
   have BY4 := Aside0.mk (blk_below BY3.out hb)
   have HuS4 := Aside0.mk (Kd.R_below HuS3.out hb)
   have HuI4 := Aside0.mk (Kd.S_below HuI3.out hb)
   have HtS4 := Aside0.mk (Kd.R_below HtS3.out hb)
   have HtI4 := Aside0.mk (Kd.S_below HtI3.out hb)
   clear hb
   refine hK.out _ _ ⟨BY4.out, BP4.out⟩ (fun hHeld => ?_)
   clear hK K
   refine norm_ (a' := ?_) ?_ ?_
   rotate_left
   ·
    show Act.put _ (some 75) _ = _
    simp only [Act.put, List.setIfInBounds_toArray, List.set_cons_zero, List.set_cons_succ, i64_w, i32_w]
    rfl
   refine pure_ (i := 6) (N := some 76) (v := ?_) (a' := ?_) #[true, true, true, true, true, true, true, false, false, false, false, false, false, false, false, false, false, false] rfl rfl (any_of HT_.out (by kernel_rfl)) (fun _ _ _ h => h) (Or.inl ⟨by rfl, ?_⟩) ?_ ?_
   rotate_left
   ·
    intro w'
    go_simp
    with_reducible rfl
   rotate_left
   ·
    simp only [Act.put, List.setIfInBounds_toArray, List.set_cons_zero, List.set_cons_succ, i64_w, i32_w]
    rfl
   refine pure_ (i := 7) (N := some 77) (v := ?_) (a' := ?_) #[true, true, true, true, true, true, true, true, false, false, false, false, false, false, false, false, false, false] rfl rfl (any_of HT_.out (by kernel_rfl)) (fun _ _ _ h => h) (Or.inl ⟨by rfl, ?_⟩) ?_ ?_
   rotate_left
   ·
    intro w'
    go_simp
    with_reducible rfl
   rotate_left
   ·
    simp only [Act.put, List.setIfInBounds_toArray, List.set_cons_zero, List.set_cons_succ, i64_w, i32_w]
    rfl
   refine take_ (i := 8) (N := some 78) (v := ?_) (a' := ?_) #[true, true, true, true, true, true, true, true, true, false, false, false, false, false, false, false, false, false] rfl rfl (take_ofW HT_.out HW_.out (by kernel_rfl)) (fun _ _ _ h => h) (Or.inl ⟨by rfl, ?_⟩) hHeld ?_ ?_
   rotate_left
   ·
    rintro w' ⟨s0, s1⟩
    have q0_ := (blk_cell s1 0).trans rfl
    have q1_ := (blk_cell s1 1).trans rfl
    have q2_ := (blk_cell s1 2).trans rfl
    have q3_ := (blk_cell s1 3).trans rfl
    have q4_ := (blk_cell s1 4).trans rfl
    have q5_ := (blk_cell s1 5).trans rfl
    have q6_ := (blk_cell s1 6).trans rfl
    have q7_ := (blk_cell s1 7).trans rfl
    go_simp
    with_reducible rfl
   rotate_left
   ·
    simp only [Act.put, List.setIfInBounds_toArray, List.set_cons_zero, List.set_cons_succ, i64_w, i32_w]
    rfl
   refine one_ (i := 9) (N := some 79) #[true, true, true, true, true, true, true, true, true, true, false, false, false, false, false, false, false, false] rfl rfl (one_of HT_.out (by kernel_rfl)) (by decide) (fun K hK => ?_)
   refine goes_ Try.func45 (by kernel_rfl) rfl #[.agg #[.int .i64 a0, .int .i64 a1, .int .i64 a2, .int .i64 a3, .int .i64 a4, .int .i64 a5, .slice A6 l6.length c6, .slice A7 l7.length c7]] (by rfl) rfl rfl (by (try simp only [List.map_toArray, List.map_cons, List.map_nil]); first | done | rfl | (simp only [List.length_drop, List.length_take]; rfl)) ?_
   refine (parcel_Check.calls k a0 a1 a2 a3 a4 a5 A6 c6 l6 A7 c7 l7 0 _ (Kd.C_below HR6.out HB4.out) HC6.out (Kd.C_below HR7.out HB4.out) HC7.out E8.out).mono ?_
   rintro e_ w5 ⟨rfl, hb⟩
   refine ⟨_, rfl, ?_⟩
   have HB5 := Aside0.mk (below_step HB4.out hb)
   have BP5 := Aside0.mk (blk_below BP4.out hb)
   have BY5 := Aside0.mk (blk_below BY4.out hb)
   have HuS5 := Aside0.mk (Kd.R_below HuS4.out hb)
   have HuI5 := Aside0.mk (Kd.S_below HuI4.out hb)
   clear hb
   refine hK.out _ _ ⟨BY5.out, BP5.out⟩ (fun hHeld => ?_)
   clear hK K
   refine norm_ (a' := ?_) ?_ ?_
   rotate_left
   ·
    show Act.put _ (some 79) _ = _
    simp only [Act.put, List.setIfInBounds_toArray, List.set_cons_zero, List.set_cons_succ, i64_w, i32_w]
    rfl
   refine pure_ (i := 10) (N := some 80) (v := ?_) (a' := ?_) #[true, true, true, true, true, true, true, true, true, true, true, false, false, false, false, false, false, false] rfl rfl (any_of HT_.out (by kernel_rfl)) (fun _ _ _ h => h) (Or.inl ⟨by rfl, ?_⟩) ?_ ?_
   rotate_left
   ·
    intro w'
    go_simp
    with_reducible rfl
   rotate_left
   ·
    simp only [Act.put, List.setIfInBounds_toArray, List.set_cons_zero, List.set_cons_succ, i64_w, i32_w]
    rfl
   refine pure_ (i := 11) (N := some 81) (v := ?_) (a' := ?_) #[true, true, true, true, true, true, true, true, true, true, true, true, false, false, false, false, false, false] rfl rfl (any_of HT_.out (by kernel_rfl)) (fun _ _ _ h => h) (Or.inl ⟨by rfl, ?_⟩) ?_ ?_
   rotate_left
   ·
    intro w'
    go_simp
    with_reducible rfl
   rotate_left
   ·
    simp only [Act.put, List.setIfInBounds_toArray, List.set_cons_zero, List.set_cons_succ, i64_w, i32_w]
    rfl
   refine take_ (i := 12) (N := some 82) (v := ?_) (a' := ?_) #[true, true, true, true, true, true, true, true, true, true, true, true, true, false, false, false, false, false] rfl rfl (take_ofW HT_.out HW_.out (by kernel_rfl)) (fun _ _ _ h => h) (Or.inl ⟨by rfl, ?_⟩) hHeld ?_ ?_
   rotate_left
   ·
    rintro w' ⟨s0, s1⟩
    have q0_ := (blk_cell s0 0).trans rfl
    have q1_ := (blk_cell s0 1).trans rfl
    have q2_ := (blk_cell s0 2).trans rfl
    have q3_ := (blk_cell s0 3).trans rfl
    have q4_ := (blk_cell s0 4).trans rfl
    have q5_ := (blk_cell s0 5).trans rfl
    have q6_ := (blk_cell s0 6).trans rfl
    have q7_ := (blk_cell s0 7).trans rfl
    go_simp
    with_reducible rfl
   rotate_left
   ·
    simp only [Act.put, List.setIfInBounds_toArray, List.set_cons_zero, List.set_cons_succ, i64_w, i32_w]
    rfl
   refine one_ (i := 13) (N := some 83) #[true, true, true, true, true, true, true, true, true, true, true, true, true, true, false, false, false, false] rfl rfl (one_of HT_.out (by kernel_rfl)) (by decide) (fun K hK => ?_)
   refine goes_ Try.func45 (by kernel_rfl) rfl #[.agg #[.int .i64 y1, .int .i64 y2, .int .i64 y3, .int .i64 y4, .int .i64 y5, .int .i64 y6, .slice Au6 y7.length cu6, .slice Au7 y8.length cu7]] (by rfl) rfl rfl (by (try simp only [List.map_toArray, List.map_cons, List.map_nil]); first | done | rfl | (simp only [List.length_drop, List.length_take]; rfl)) ?_
   refine (parcel_Check.calls k y1 y2 y3 y4 y5 y6 Au6 cu6 y7 Au7 cu7 y8 0 _ (Kd.R_reads' HuS5.out).2.2 (Kd.R_reads' HuS5.out).2.1 (Kd.S_reads' HuI5.out).2.2 (Kd.S_reads' HuI5.out).2.1 E9.out).mono ?_
   rintro e_ w6 ⟨rfl, hb⟩
   refine ⟨_, rfl, ?_⟩
   have HB6 := Aside0.mk (below_step HB5.out hb)
   have BP6 := Aside0.mk (blk_below BP5.out hb)
   have BY6 := Aside0.mk (blk_below BY5.out hb)
   have HuS6 := Aside0.mk (Kd.R_below HuS5.out hb)
   have HuI6 := Aside0.mk (Kd.S_below HuI5.out hb)
   clear hb
   refine hK.out _ _ ⟨BY6.out, BP6.out⟩ (fun hHeld => ?_)
   clear hK K
   refine norm_ (a' := ?_) ?_ ?_
   rotate_left
   ·
    show Act.put _ (some 83) _ = _
    simp only [Act.put, List.setIfInBounds_toArray, List.set_cons_zero, List.set_cons_succ, i64_w, i32_w]
    rfl
   refine pure_ (i := 14) (N := some 84) (v := ?_) (a' := ?_) #[true, true, true, true, true, true, true, true, true, true, true, true, true, true, true, false, false, false] rfl rfl (any_of HT_.out (by kernel_rfl)) (fun _ _ _ h => h) (Or.inl ⟨by rfl, ?_⟩) ?_ ?_
   rotate_left
   ·
    intro w'
    go_simp
    with_reducible rfl
   rotate_left
   ·
    simp only [Act.put, List.setIfInBounds_toArray, List.set_cons_zero, List.set_cons_succ, i64_w, i32_w]
    rfl
   refine pure_ (i := 15) (N := some 85) (v := ?_) (a' := ?_) #[true, true, true, true, true, true, true, true, true, true, true, true, true, true, true, true, false, false] rfl rfl (any_of HT_.out (by kernel_rfl)) (fun _ _ _ h => h) (Or.inl ⟨by rfl, ?_⟩) ?_ ?_
   rotate_left
   ·
    intro w'
    go_simp
    with_reducible rfl
   rotate_left
   ·
    simp only [Act.put, List.setIfInBounds_toArray, List.set_cons_zero, List.set_cons_succ, i64_w, i32_w]
    rfl
   refine pure_ (i := 16) (N := some 86) (v := ?_) (a' := ?_) #[true, true, true, true, true, true, true, true, true, true, true, true, true, true, true, true, true, false] rfl rfl (any_of HT_.out (by kernel_rfl)) (fun _ _ _ h => h) (Or.inl ⟨by rfl, ?_⟩) ?_ ?_
   rotate_left
   ·
    intro w'
    go_simp
    with_reducible rfl
   rotate_left
   ·
    simp only [Act.put, List.setIfInBounds_toArray, List.set_cons_zero, List.set_cons_succ, i64_w, i32_w]
    rfl
   refine pure_ (i := 17) (N := some 2) (v := ?_) (a' := ?_) #[true, true, true, true, true, true, true, true, true, true, true, true, true, true, true, true, true, true] rfl rfl (any_of HT_.out (by kernel_rfl)) (fun _ _ _ h => h) (Or.inl ⟨by rfl, ?_⟩) ?_ ?_
   rotate_left
   ·
    intro w'
    go_simp
    with_reducible rfl
   rotate_left
   ·
    simp only [Act.put, List.setIfInBounds_toArray, List.set_cons_zero, List.set_cons_succ, i64_w, i32_w]
    rfl
   refine done_ (done_of HT_.out (by kernel_rfl)) ?_
   go_wp2
   go_ret
   exact ⟨rfl, HB6.out⟩


end Go.Proofs.Ytpeacoppclmmlaa.PP
