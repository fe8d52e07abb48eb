-- PRINTED by gprint.py (a session's own driver over the kit's print): not trusted; Lean checks it.
import Derived.Test.YtffefaiaifhokaaSOPTx0
import Derived.Test.YtffefaiaifhokaaSOPTx5
import Derived.Test.YtffefaiaifhokaaSOPTx6
import Derived.Test.YtffefaiaifhokaaSOPTx14
import Derived.Test.YtffefaiaifhokaaSOPTx16
import Derived.Test.YtffefaiaifhokaaSOPTx18
import Derived.Test.YtffefaiaifhokaaSOPTx19
import Derived.Test.YtffefaiaifhokaaSOPTx20
import Derived.Test.YtffefaiaifhokaaSOPTx21
import Derived.Test.YtffefaiaifhokaaSOPTx22
import Derived.Test.YtffefaiaifhokaaSOPTx23
import Derived.Test.YtffefaiaifhokaaSOPTx25
import Derived.Test.YtffefaiaifhokaaSOPTx26
namespace Go.Proofs.Ytffefaiaifhokaa.PT
open Go.RowKit Go.Proofs.YtffefaiaifhokaaW.PrintWords Go.Proofs.YtffefaiaifhokaaW.PrintLast Go.Proofs.YtffefaiaifhokaaW.PrintMore
set_option linter.unusedVariables false
set_option linter.unusedSimpArgs false

/-! ### grapevinelaw15_StreamOrders: function 3 -/
-- GIVEN-ALONE: typed by mk_orders.py
/-- A stream that is not under way: what it knows, its items. -/
structure SF (W : World) (g b : Nat) (ok : Nat → Prop) (K : List S38) (A : Option Addr) (c : Nat) (X : List S42) : Prop where
 blk : W.heap[g]? = some (.cells #[.slice A K.length c, .map (some b)] 81 (0, 0))
 kn : Kd.F k38 W ok A K.length K
 cap : K.length ≤ c
 map : MapS W b ok X
theorem SF.ls {B g b : Nat} {W : World} {ok : Nat → Prop} {K : List S38} {A : Option Addr} {c : Nat} {X : List S42} (h : SF W g b ok K A c X) (cx : Cx B g b W ok) : LS B g b W ok W K A c X := ⟨cx, KeepBut.refl _ _ _, Below.refl _ _, h.blk, h.kn, h.cap, h.map⟩
theorem LS.sf {B g b : Nat} {W W1 : World} {ok : Nat → Prop} {K : List S38} {A : Option Addr} {c : Nat} {X : List S42} (h : LS B g b W ok W1 K A c X) : SF W1 g b ok K A c X := ⟨h.blk, h.kn, h.cap, h.map⟩
theorem SF.below {g b : Nat} {W W1 : World} {ok : Nat → Prop} {K : List S38} {A : Option Addr} {c : Nat} {X : List S42} (h : SF W g b ok K A c X) (hb : Below W.heap.size W W1) : SF W1 g b ok K A c X := ⟨blk_below h.blk hb, Kd.F_below h.kn hb, h.cap, h.map.below hb⟩
theorem SF.kb {g b g2 b2 : Nat} {W W1 : World} {ok : Nat → Prop} {K : List S38} {A : Option Addr} {c : Nat} {X : List S42} (h : SF W g2 b2 ok K A c X) (hk : KeepBut W W1 g (some b)) (ho : ∀ k, ok k → k ≠ g ∧ k ≠ b) (h1 : g2 ≠ g) (h2 : g2 ≠ b) (h3 : b2 ≠ g) (h4 : b2 ≠ b) : SF W1 g2 b2 ok K A c X :=
 ⟨hk.blk h.blk h1 (fun e => h2 (Option.some.inj e)), F_kb h.kn hk ho, h.cap, h.map.kb hk ho h3 h4⟩
/-- Two streams, made behind n0. -/
structure Cn (n0 gx bx gy b_ : Nat) : Prop where
 l1 : n0 ≤ gx
 l2 : n0 ≤ bx
 l3 : n0 ≤ gy
 l4 : n0 ≤ b_
 d1 : gx ≠ bx
 d2 : gx ≠ gy
 d3 : gx ≠ b_
 d4 : bx ≠ gy
 d5 : bx ≠ b_
 d6 : gy ≠ b_
def ok4 (gx bx gy b_ k : Nat) : Prop := k ≠ gx ∧ k ≠ bx ∧ k ≠ gy ∧ k ≠ b_
structure Two (w W : World) (gx bx gy b_ : Nat) (Kx : List S38) (Xx : List S42) (Ky : List S38) (Xy : List S42) (Aa : Option Addr) (ps : List S33) : Prop where
 cn : Cn w.heap.size gx bx gy b_
 x : ∃ A c, SF W gx bx (ok4 gx bx gy b_) Kx A c Xx
 y : ∃ A c, SF W gy b_ (ok4 gx bx gy b_) Ky A c Xy
 p : Kd.F k33 W (ok4 gx bx gy b_) Aa ps.length ps
 be : Below w.heap.size w W
theorem Two.below {w W W1 : World} {gx bx gy b_ : Nat} {Kx Ky : List S38} {Xx Xy : List S42} {Aa : Option Addr} {ps : List S33} (h : Two w W gx bx gy b_ Kx Xx Ky Xy Aa ps) (hb : Below W.heap.size W W1) : Two w W1 gx bx gy b_ Kx Xx Ky Xy Aa ps :=
 ⟨h.cn, by obtain ⟨A, c, h1⟩ := h.x; exact ⟨A, c, h1.below hb⟩, by obtain ⟨A, c, h1⟩ := h.y; exact ⟨A, c, h1.below hb⟩, Kd.F_below h.p hb, below_step h.be hb⟩
theorem Two.cx {w W : World} {gx bx gy b_ : Nat} {Kx Ky : List S38} {Xx Xy : List S42} {Aa : Option Addr} {ps : List S33} (h : Two w W gx bx gy b_ Kx Xx Ky Xy Aa ps) : Cx w.heap.size gx bx W (ok4 gx bx gy b_) := by
 obtain ⟨A, c, h1⟩ := h.x
 obtain ⟨A2, c2, h2⟩ := h.y
 have b1 := blk_lt h1.blk
 have b2 := blk_lt h2.blk
 have b3 := h1.map.lt
 have b4 := h2.map.lt
 exact ⟨fun k hk => ⟨hk.1, hk.2.1⟩, fun k hk => ⟨by omega, by omega, by omega, by omega⟩, h.cn.d1, h.cn.l1, h.cn.l2, h.be.size, b1, b3⟩
theorem Two.cy {w W : World} {gx bx gy b_ : Nat} {Kx Ky : List S38} {Xx Xy : List S42} {Aa : Option Addr} {ps : List S33} (h : Two w W gx bx gy b_ Kx Xx Ky Xy Aa ps) : Cx w.heap.size gy b_ W (ok4 gx bx gy b_) := by
 obtain ⟨A, c, h1⟩ := h.x
 obtain ⟨A2, c2, h2⟩ := h.y
 have b1 := blk_lt h1.blk
 have b2 := blk_lt h2.blk
 have b3 := h1.map.lt
 have b4 := h2.map.lt
 exact ⟨fun k hk => ⟨hk.2.2.1, hk.2.2.2⟩, fun k hk => ⟨by omega, by omega, by omega, by omega⟩, h.cn.d6, h.cn.l3, h.cn.l4, h.be.size, b2, b4⟩
theorem Two.setx {w W W1 : World} {gx bx gy b_ : Nat} {Kx Ky K1 : List S38} {Xx Xy X1 : List S42} {Aa A : Option Addr} {c : Nat} {ps : List S33} (h : Two w W gx bx gy b_ Kx Xx Ky Xy Aa ps) (hl : LS w.heap.size gx bx W (ok4 gx bx gy b_) W1 K1 A c X1) : Two w W1 gx bx gy b_ K1 X1 Ky Xy Aa ps :=
 ⟨h.cn, ⟨A, c, hl.sf⟩, by obtain ⟨A, c, h1⟩ := h.y; exact ⟨A, c, h1.kb hl.kb (fun k hk => ⟨hk.1, hk.2.1⟩) h.cn.d2.symm h.cn.d4.symm h.cn.d3.symm h.cn.d5.symm⟩, F_kb h.p hl.kb (fun k hk => ⟨hk.1, hk.2.1⟩), h.be.trans hl.be⟩
theorem Two.sety {w W W1 : World} {gx bx gy b_ : Nat} {Kx Ky K1 : List S38} {Xx Xy X1 : List S42} {Aa A : Option Addr} {c : Nat} {ps : List S33} (h : Two w W gx bx gy b_ Kx Xx Ky Xy Aa ps) (hl : LS w.heap.size gy b_ W (ok4 gx bx gy b_) W1 K1 A c X1) : Two w W1 gx bx gy b_ Kx Xx K1 X1 Aa ps :=
 ⟨h.cn, by obtain ⟨A, c, h1⟩ := h.x; exact ⟨A, c, h1.kb hl.kb (fun k hk => ⟨hk.2.2.1, hk.2.2.2⟩) h.cn.d2 h.cn.d3 h.cn.d4 h.cn.d5⟩, ⟨A, c, hl.sf⟩, F_kb h.p hl.kb (fun k hk => ⟨hk.2.2.1, hk.2.2.2⟩), h.be.trans hl.be⟩
theorem par_openF {W : World} {ok : Nat → Prop} {x : S33} {cs : List Value} (h : Kd.FK k33 W ok x cs) : ∃ A6 c6 A7 c7, cs = [.int .i64 x.f0, .int .i64 x.f1, .int .i64 x.f2, .int .i64 x.f3, .int .i64 x.f4, .int .i64 x.f5, .slice A6 x.f6.length c6, .slice A7 x.f7.length c7] ∧ x.f6.length ≤ c6 ∧ Kd.F k38 W ok A6 x.f6.length x.f6 ∧ x.f7.length ≤ c7 ∧ Kd.F k42 W ok A7 x.f7.length x.f7 := by
 obtain ⟨A6, c6, A7, c7, rfl, l6, _, l7, _⟩ := k33_open (Kd.FK_now h)
 refine ⟨A6, c6, A7, c7, rfl, l6, fun W' hW => ?_, l7, fun W' hW => ?_⟩
 ·
  obtain ⟨A6', c6', A7', c7', he, _, g6, _, g7⟩ := k33_open (h W' hW)
  injection (Option.some.inj (show some (Value.slice A6 x.f6.length c6) = some (Value.slice A6' x.f6.length c6') from congrArg (fun l => l[6]?) he)) with ha _ _
  rw [ha]; exact g6
 obtain ⟨A6', c6', A7', c7', he, _, g6, _, g7⟩ := k33_open (h W' hW)
 injection (Option.some.inj (show some (Value.slice A7 x.f7.length c7) = some (Value.slice A7' x.f7.length c7') from congrArg (fun l => l[7]?) he)) with ha _ _
 rw [ha]; exact g7
theorem par_at {W : World} {ok : Nat → Prop} {A : Option Addr} {ps : List S33} (h : Kd.F k33 W ok A ps.length ps) (i : Int) (h0 : 0 ≤ i) (h1 : i < ps.length) {p : S33} (hp : p = ps.getD i.toNat z33) : ∃ ad A6 c6 A7 c7, A = some ad ∧ W.cell? (ad.add (i.toNat * 8)) = some (.int .i64 p.f0) ∧ W.cell? ⟨(ad.add (i.toNat * 8)).block, (ad.add (i.toNat * 8)).off + 1, none⟩ = some (.int .i64 p.f1) ∧ W.cell? ⟨(ad.add (i.toNat * 8)).block, (ad.add (i.toNat * 8)).off + 2, none⟩ = some (.int .i64 p.f2) ∧ W.cell? ⟨(ad.add (i.toNat * 8)).block, (ad.add (i.toNat * 8)).off + 3, none⟩ = some (.int .i64 p.f3) ∧ W.cell? ⟨(ad.add (i.toNat * 8)).block, (ad.add (i.toNat * 8)).off + 4, none⟩ = some (.int .i64 p.f4) ∧ W.cell? ⟨(ad.add (i.toNat * 8)).block, (ad.add (i.toNat * 8)).off + 5, none⟩ = some (.int .i64 p.f5) ∧ W.cell? ⟨(ad.add (i.toNat * 8)).block, (ad.add (i.toNat * 8)).off + 6, none⟩ = some (.slice A6 p.f6.length c6) ∧ W.cell? ⟨(ad.add (i.toNat * 8)).block, (ad.add (i.toNat * 8)).off + 7, none⟩ = some (.slice A7 p.f7.length c7) ∧ p.f6.length ≤ c6 ∧ Kd.F k38 W ok A6 p.f6.length p.f6 ∧ p.f7.length ≤ c7 ∧ Kd.F k42 W ok A7 p.f7.length p.f7 := by
 obtain ⟨ad, c_, hA, _, hFK, hcc0, _⟩ := Kd.F_get h z33 i h0 h1
 rw [← hp] at hFK
 obtain ⟨A6, c6, A7, c7, rfl, l6, g6, l7, g7⟩ := par_openF hFK
 have hcc : ∀ j u, ([.int .i64 p.f0, .int .i64 p.f1, .int .i64 p.f2, .int .i64 p.f3, .int .i64 p.f4, .int .i64 p.f5, .slice A6 p.f6.length c6, .slice A7 p.f7.length c7] : List Value)[j]? = some u → W.cell? (ad.add (i.toNat * 8 + j)) = some u := hcc0
 exact ⟨ad, A6, c6, A7, c7, hA, hcc 0 _ rfl, by rw [← add_field _ _ 1 (by omega)]; exact hcc 1 _ rfl, by rw [← add_field _ _ 2 (by omega)]; exact hcc 2 _ rfl, by rw [← add_field _ _ 3 (by omega)]; exact hcc 3 _ rfl, by rw [← add_field _ _ 4 (by omega)]; exact hcc 4 _ rfl, by rw [← add_field _ _ 5 (by omega)]; exact hcc 5 _ rfl, by rw [← add_field _ _ 6 (by omega)]; exact hcc 6 _ rfl, by rw [← add_field _ _ 7 (by omega)]; exact hcc 7 _ rfl, l6, g6, l7, g7⟩
theorem alloc2 (w : World) (X Y : Obj) : ((w.alloc X).alloc Y).heap[w.heap.size]? = some X ∧ ((w.alloc X).alloc Y).heap[w.heap.size + 1]? = some Y ∧ Below w.heap.size w ((w.alloc X).alloc Y) := by
 have s1 : (w.alloc X).heap.size = w.heap.size + 1 := by show (w.heap.push _).size = _; simp
 refine ⟨?_, ?_, below_alloc (below_alloc (Below.refl _ _) _) _⟩
 ·
  rw [heap_alloc_old _ _ (by omega)]; exact heap_alloc_new _ _
 rw [← s1]; exact heap_alloc_new _ _
def LearnsTo (s : List S38 × List S42) (p : S33) (t : List S38 × List S42) (r : Bool) : Prop := ∃ k, learnF k s.1 s.2 p.f0 p.f1 p.f2 p.f3 p.f4 p.f5 p.f6 p.f7 = some (t.1, t.2, r)
def pAt (ps : List S33) (i : Int) : S33 := ps.getD i.toNat z33
/-- What the law's run goes through: S, T: what the two streams know behind each step. -/
structure OrdersP (ps : List S33) (turn : Int) (S T M : Nat → List S38 × List S42) : Prop where
 len : ps.length ≤ 8
 turn_ : 0 ≤ turn ∧ turn < 256
 s0 : S 0 = ([], [])
 t0 : T 0 = ([], [])
 s1 : ∀ i, i < ps.length → ∃ r, LearnsTo (S i) (pAt ps i) (S (i + 1)) r
 t1 : ∀ i, i < ps.length → ∃ r, LearnsTo (T i) (pAt ps (((ps.length : Int) - 1 - i + turn) % (ps.length : Int))) (M i) r
 t2 : ∀ i, i < ps.length → ∃ r, LearnsTo (M i) (pAt ps 0) (T (i + 1)) r
 s2 : ∀ i, i < ps.length → LearnsTo (S (ps.length + i)) (pAt ps i) (S (ps.length + i + 1)) false
 cl1 : api_Span_45.f (S (ps.length + ps.length)).1 = some (S (ps.length + ps.length)).1
 cl2 : api_Span_45.f (T ps.length).1 = some (T ps.length).1
 same : ∃ k, grapevineref08_Same.f k (S (ps.length + ps.length)).1 (T ps.length).1 = some true
 fit : (S (ps.length + ps.length)).1.length < 10000000000000
 items : ∀ x ∈ (S (ps.length + ps.length)).1, x.f2 = 1 → 0 ≤ x.f0 ∧ x.f1 < 1000000000000000 ∧ ∀ t, x.f0 ≤ t → t ≤ x.f1 → ∃ a b, getI (S (ps.length + ps.length)).2 t = some a ∧ getI (T ps.length).2 t = some b ∧ stream_copied.f a.f0 a.f1 a.f2 = some (a.f0, a.f1, a.f2) ∧ stream_copied.f b.f0 b.f1 b.f2 = some (b.f0, b.f1, b.f2) ∧ ∃ k, grapevineref13_SameItems.f k [a] [b] = some true
noncomputable section
open Classical in
def grapevinelaw15_StreamOrders.f (k : Nat) (l : List S33) (turn : Int) : Option Bool := (grapevinelaw15_bodies.f k l).bind fun ps => if (∃ k2, grapevinelaw15_live.f k2 = some true) ∧ ∃ S T M, OrdersP ps turn S T M then some true else none
end
theorem putSo3_0_3 {W : World} {g t : Nat} {c0 c1 c2 : Value} (h : W.heap[g]? = some (.cells #[c0, c1, c2] t (0, 0))) (d0 d1 d2 : Value) : (((W.setCell ⟨g, 0, none⟩ d0).setCell ⟨g, 1, none⟩ d1).setCell ⟨g, 2, none⟩ d2).heap[g]? = some (.cells #[d0, d1, d2] t (0, 0)) := by
 have h0 : (W.setCell ⟨g, 0, none⟩ d0).heap[g]? = some (.cells #[d0, c1, c2] t (0, 0)) := blk_put h 0 _ rfl
 have h1 : ((W.setCell ⟨g, 0, none⟩ d0).setCell ⟨g, 1, none⟩ d1).heap[g]? = some (.cells #[d0, d1, c2] t (0, 0)) := blk_put h0 1 _ rfl
 exact blk_put h1 2 _ rfl
set_option maxHeartbeats 40000000 in
set_option maxRecDepth 100000 in
theorem grapevinelaw15_StreamOrders.calls (k : Nat) (A0 : Option Addr) (c0 : Nat) (l0 : List S33) (a1 : Int) (r : Bool) (w : World) (hr0 : Kd.C k33 w A0 l0.length l0) (hc0 : l0.length ≤ c0) (h : grapevinelaw15_StreamOrders.f k l0 a1 = some r) :
 Calls Try.prog 3 #[.slice A0 l0.length c0, .int .u8 a1] w fun e w' => e = .returned (.bool r) ∧ Below w.heap.size w w' := by
 have hu := Try.underlying33
 have hui := Try.underlying42
 have hup := Try.underlying38
 unfold grapevinelaw15_StreamOrders.f at h
 obtain ⟨ps, hps, h2⟩ := Option.bind_eq_some_iff.mp h
 clear h
 by_cases hh : (∃ k2, grapevinelaw15_live.f k2 = some true) ∧ ∃ S T M, OrdersP ps a1 S T M
 case neg => rw [if_neg hh] at h2; exact absurd h2 (by simp)
 rw [if_pos hh] at h2
 obtain rfl := Option.some.inj h2
 clear h2
 obtain ⟨⟨kl, hlv⟩, S, T, M, hP⟩ := hh
 have HP := Aside0.mk hP
 have HPS := Aside0.mk hps
 have HLV := Aside0.mk hlv
 have HR0 := Aside0.mk hr0
 have HC0 := Aside0.mk hc0
 clear hP hps hlv hr0 hc0
 go_enter Try.func3, Try.ntmps3
 go_wp2_with (first | ((with_reducible refine gate_dst (N := 22) rfl ?_); (try (refine gate_guard (by rfl) ?_; dsimp only)); refine goesL_ (some 22) rfl rfl Try.func9 (by kernel_rfl) rfl #[.slice A0 l0.length c0] rfl (by (try simp only [List.map_toArray, List.map_cons, List.map_nil]); first | done | rfl | (simp only [List.length_drop, List.length_take]; rfl)) ?_; refine (grapevinelaw15_bodies.calls k A0 c0 l0 ps _ HR0.out HC0.out HPS.out).mono ?_; rintro e_ w1 ⟨v_, rfl, ho, hb⟩; refine ⟨_, rfl, ?_⟩; obtain ⟨Aa, ca, ea⟩ := Kd.N_slice ho; subst ea; have HF1 := Aside0.mk (Kd.F_bound (Kd.N_F ho)); have HB1 := Aside0.mk hb; clear ho hb) | ((with_reducible refine gate_dst (N := 23) rfl ?_); (try (refine gate_guard (by rfl) ?_; dsimp only)); refine goesL_ (some 23) rfl rfl Try.func10 (by kernel_rfl) rfl #[] rfl (by (try simp only [List.map_toArray, List.map_cons, List.map_nil]); first | done | rfl | (simp only [List.length_drop, List.length_take]; rfl)) ?_; refine (stream_New.calls _).mono ?_; rintro e_ w2 ⟨gx, bx, rfl, hg, hm, hgb, hbb, hne, hb⟩; refine ⟨_, rfl, ?_⟩; have HB2 := Aside0.mk (below_step HB1.out hb); have HF2 := Aside0.mk (Kd.F_step HF1.out (fun k_ hk_ hlt_ => hb.block k_ hlt_)); have HGgx := Aside0.mk hg; have HMgx := Aside0.mk hm; have HNgx := Aside0.mk (show w1.heap.size ≤ gx ∧ w1.heap.size ≤ bx ∧ gx ≠ bx ∧ gx < w2.heap.size ∧ bx < w2.heap.size from ⟨hgb, hbb, hne, blk_lt hg, World.ownsMap.lt hm⟩); clear hg hm hgb hbb hne hb) | ((with_reducible refine gate_dst (N := 24) rfl ?_); (try (refine gate_guard (by rfl) ?_; dsimp only)); refine goesL_ (some 24) rfl rfl Try.func10 (by kernel_rfl) rfl #[] rfl (by (try simp only [List.map_toArray, List.map_cons, List.map_nil]); first | done | rfl | (simp only [List.length_drop, List.length_take]; rfl)) ?_; refine (stream_New.calls _).mono ?_; rintro e_ w3 ⟨gy, b_, rfl, hg, hm, hgb, hbb, hne, hb⟩; refine ⟨_, rfl, ?_⟩; have HB3 := Aside0.mk (below_step HB2.out hb); have HF3 := Aside0.mk (Kd.F_step HF2.out (fun k_ hk_ hlt_ => hb.block k_ hlt_)); have HGgy := Aside0.mk hg; have HMgy := Aside0.mk hm; have HNgy := Aside0.mk (show w2.heap.size ≤ gy ∧ w2.heap.size ≤ b_ ∧ gy ≠ b_ ∧ gy < w3.heap.size ∧ b_ < w3.heap.size from ⟨hgb, hbb, hne, blk_lt hg, World.ownsMap.lt hm⟩); have HGgx2 := Aside0.mk (blk_below HGgx.out hb); have HMgx2 := Aside0.mk (HMgx.out.below hb); clear hg hm hgb hbb hne hb))
 have HT := Aside0.mk (show Two w w3 gx bx gy b_ (S 0).1 (S 0).2 (T 0).1 (T 0).2 Aa ps from (by
  rw [HP.out.s0, HP.out.t0]
  have h1_ := HNgx.out; have h2_ := HNgy.out; have h3_ := HB1.out.size; have h4_ := HB2.out.size; have h5_ := HB3.out.size
  refine ⟨⟨by omega, by omega, by omega, by omega, by omega, by omega, by omega, by omega, by omega, by omega⟩, ⟨_, _, HGgx2.out, fun W' _ => Kd.C_nil _ _, Nat.le_refl _, MapS.nil _ HMgx2.out⟩, ⟨_, _, HGgy.out, fun W' _ => Kd.C_nil _ _, Nat.le_refl _, MapS.nil _ HMgy.out⟩, Kd.F_mono HF3.out (fun k_ hk_ => ⟨?_, ?_, ?_, ?_⟩), HB3.out⟩ <;> (have h6_ := hk_.2; omega)))
 clear HGgx HMgx HGgx2 HMgx2 HGgy HMgy HNgx HNgy HF1 HF2 HF3 HB1 HB2 HB3
 go_loopg [8] (ps.length + 1) (fun kq v8 w' => ∃ i : Int, v8 = .int .i64 i ∧ Aside0 (ps.length + 1 ≤ kq + i.toNat) ∧ Aside0 (0 ≤ i ∧ i.toNat ≤ ps.length) ∧ Aside0 (Two w w' gx bx gy b_ (S i.toNat).1 (S i.toNat).2 (T i.toNat).1 (T i.toNat).2 Aa ps))
 case atStart => exact ⟨0, rfl, ⟨Nat.le_refl _⟩, ⟨by decide, Nat.zero_le _⟩, HT⟩
 case round =>
  clear HT
  obtain ⟨i, rfl, HQ, HLE, HT0⟩ := hrel
  rcases Nat.lt_or_ge i.toNat ps.length with hlt | hge
  ·
   have ql : (i < (ps.length : Int)) = True := eq_true (by have h1_ := HLE.out.1; omega)
   have qp : (0 ≤ i) = True := eq_true HLE.out.1
   have HLT := Aside0.mk hlt
   clear hlt
   have qe : ((ps.length : Int) = 0) = False := eq_false (by have h1_ := HLT.out; omega)
   obtain ⟨Asa, csa, hs_⟩ := HT0.out.x
   have HSa := Aside0.mk hs_
   clear hs_
   obtain ⟨ada, A6a, c6a, A7a, c7a, hA_, q0a, q1a, q2a, q3a, q4a, q5a, q6a, q7a, l6_, g6_, l7_, g7_⟩ := par_at HT0.out.p (i) HLE.out.1 (by have h1_ := HLT.out; have h2_ := HLE.out.1; omega) (p := pAt ps (i)) rfl
   obtain ⟨pa, hpa⟩ : ∃ p, p = pAt ps (i) := ⟨_, rfl⟩
   rw [← hpa] at q0a q1a q2a q3a q4a q5a q6a q7a l6_ g6_ l7_ g7_
   have HPEa := Aside0.mk hpa
   subst hA_
   have HL6a := Aside0.mk l6_
   have HG6a := Aside0.mk g6_
   have HL7a := Aside0.mk l7_
   have HG7a := Aside0.mk g7_
   clear hpa l6_ g6_ l7_ g7_
   have HK_ := Aside0.mk (show ∃ r, LearnsTo (S i.toNat) (pAt ps i) (S (i.toNat + 1)) r from HP.out.s1 i.toNat HLT.out)
   obtain ⟨ra, ka, hka⟩ := HK_.out
   rw [show pAt ps (i) = pa from HPEa.out.symm] at hka
   have HKa := Aside0.mk hka
   clear hka
   clear HK_
   have h1_ := HP.out.len
   have h2_ := HP.out.turn_
   have h3_ := HLT.out
   have h4_ := HLE.out.1
   obtain ⟨kk, hkk⟩ : ∃ kk, kk = ((ps.length : Int) - 1 - i + a1) % (ps.length : Int) := ⟨_, rfl⟩
   have HKK := Aside0.mk hkk
   have HKB := Aside0.mk (show 0 ≤ kk ∧ kk < ps.length by (rw [hkk]; exact ⟨Int.emod_nonneg _ (by omega), Int.emod_lt_of_pos _ (by omega)⟩))
   have u1 : wrap64 ((ps.length : Int) - 1) = (ps.length : Int) - 1 := (by unfold wrap64; omega)
   have u2 : wrap64 ((ps.length : Int) - 1 - i) = (ps.length : Int) - 1 - i := (by unfold wrap64; omega)
   have u3 : wrap64 a1 = a1 := (by unfold wrap64; omega)
   have u4 : wrap64 ((ps.length : Int) - 1 - i + a1) = (ps.length : Int) - 1 - i + a1 := (by unfold wrap64; omega)
   have u5 : ((ps.length : Int) - 1 - i + a1).tmod (ps.length : Int) = kk := (by rw [hkk]; exact Int.tmod_eq_emod_of_nonneg (by omega))
   have u6 : (ps = []) = False := eq_false (fun e_ => by rw [e_] at h3_; exact absurd h3_ (by simp))
   have u7 : (0 ≤ kk) = True := eq_true HKB.out.1
   have u8 : (kk < (ps.length : Int)) = True := eq_true HKB.out.2
   have u9 : wrap64 (i + 1) = i + 1 := (by unfold wrap64; omega)
   have u10 : (0 < ps.length) = True := eq_true (by omega)
   have u11 : (0 < (ps.length : Int)) = True := eq_true (by omega)
   clear hkk h1_ h2_ h3_ h4_ qe
   go_wp2_with (first | ((with_reducible refine gate_dst (N := 36) rfl ?_); (try (refine gate_guard (by rfl) ?_; dsimp only)); refine goesL_ (some 36) rfl rfl Try.func11 (by kernel_rfl) rfl #[.pointer (some ⟨gx, 0, none⟩), .agg #[.int .i64 pa.f0, .int .i64 pa.f1, .int .i64 pa.f2, .int .i64 pa.f3, .int .i64 pa.f4, .int .i64 pa.f5, .slice A6a pa.f6.length c6a, .slice A7a pa.f7.length c7a]] rfl (by (try simp only [List.map_toArray, List.map_cons, List.map_nil]); first | done | rfl | (simp only [List.length_drop, List.length_take]; rfl)) ?_; refine (learn_calls ka w.heap.size gx bx (ok4 gx bx gy b_) (S i.toNat).1 (S i.toNat).2 Asa csa pa.f0 pa.f1 pa.f2 pa.f3 pa.f4 pa.f5 A6a c6a pa.f6 A7a c7a pa.f7 (S (i.toNat + 1)).1 (S (i.toNat + 1)).2 ra _ (HSa.out.ls HT0.out.cx) (Kd.F_mono HG6a.out (fun k_ hk_ => ⟨hk_.1, hk_.2.1⟩)) HL6a.out (Kd.F_mono HG7a.out (fun k_ hk_ => ⟨hk_.1, hk_.2.1⟩)) HL7a.out HKa.out).mono ?_; rintro e_ w1 ⟨rfl, A2_, c2_, hl_⟩; refine ⟨_, rfl, ?_⟩; have HT1 := Aside0.mk (HT0.out.setx hl_); clear hl_; obtain ⟨Asb, csb, hs_⟩ := HT1.out.y; have HSb := Aside0.mk hs_; clear hs_; obtain ⟨adb, A6b, c6b, A7b, c7b, hA_, q0b, q1b, q2b, q3b, q4b, q5b, q6b, q7b, l6_, g6_, l7_, g7_⟩ := par_at HT1.out.p (kk) HKB.out.1 HKB.out.2 (p := pAt ps (kk)) rfl; obtain ⟨pb, hpb⟩ : ∃ p, p = pAt ps (kk) := ⟨_, rfl⟩; rw [← hpb] at q0b q1b q2b q3b q4b q5b q6b q7b l6_ g6_ l7_ g7_; have HPEb := Aside0.mk hpb; obtain rfl : ada = adb := Option.some.inj hA_; have HL6b := Aside0.mk l6_; have HG6b := Aside0.mk g6_; have HL7b := Aside0.mk l7_; have HG7b := Aside0.mk g7_; clear hpb l6_ g6_ l7_ g7_; obtain ⟨rb, kb, hkb⟩ := (show ∃ r, LearnsTo (T i.toNat) (pAt ps kk) (M i.toNat) r from (by have h_ := HP.out.t1 i.toNat HLT.out; rw [show ((i.toNat : Nat) : Int) = i by (have := HLE.out.1; omega), ← HKK.out] at h_; exact h_)); rw [show pAt ps (kk) = pb from HPEb.out.symm] at hkb; have HKb := Aside0.mk hkb; clear hkb) | ((with_reducible refine gate_dst (N := 53) rfl ?_); (try (refine gate_guard (by rfl) ?_; dsimp only)); refine goesL_ (some 53) rfl rfl Try.func11 (by kernel_rfl) rfl #[.pointer (some ⟨gy, 0, none⟩), .agg #[.int .i64 pb.f0, .int .i64 pb.f1, .int .i64 pb.f2, .int .i64 pb.f3, .int .i64 pb.f4, .int .i64 pb.f5, .slice A6b pb.f6.length c6b, .slice A7b pb.f7.length c7b]] rfl (by (try simp only [List.map_toArray, List.map_cons, List.map_nil]); first | done | rfl | (simp only [List.length_drop, List.length_take]; rfl)) ?_; refine (learn_calls kb w.heap.size gy b_ (ok4 gx bx gy b_) (T i.toNat).1 (T i.toNat).2 Asb csb pb.f0 pb.f1 pb.f2 pb.f3 pb.f4 pb.f5 A6b c6b pb.f6 A7b c7b pb.f7 (M i.toNat).1 (M i.toNat).2 rb _ (HSb.out.ls HT1.out.cy) (Kd.F_mono HG6b.out (fun k_ hk_ => ⟨hk_.2.2.1, hk_.2.2.2⟩)) HL6b.out (Kd.F_mono HG7b.out (fun k_ hk_ => ⟨hk_.2.2.1, hk_.2.2.2⟩)) HL7b.out HKb.out).mono ?_; rintro e_ w2 ⟨rfl, A2_, c2_, hl_⟩; refine ⟨_, rfl, ?_⟩; have HT2 := Aside0.mk (HT1.out.sety hl_); clear hl_; obtain ⟨Asc, csc, hs_⟩ := HT2.out.y; have HSc := Aside0.mk hs_; clear hs_; obtain ⟨adc, A6c, c6c, A7c, c7c, hA_, q0c, q1c, q2c, q3c, q4c, q5c, q6c, q7c, l6_, g6_, l7_, g7_⟩ := par_at HT2.out.p (0) (by decide) (by have h1_ := HLT.out; omega) (p := pAt ps (0)) rfl; obtain ⟨pc, hpc⟩ : ∃ p, p = pAt ps (0) := ⟨_, rfl⟩; rw [← hpc] at q0c q1c q2c q3c q4c q5c q6c q7c l6_ g6_ l7_ g7_; have HPEc := Aside0.mk hpc; obtain rfl : ada = adc := Option.some.inj hA_; have HL6c := Aside0.mk l6_; have HG6c := Aside0.mk g6_; have HL7c := Aside0.mk l7_; have HG7c := Aside0.mk g7_; clear hpc l6_ g6_ l7_ g7_; have y0c : w2.cell? ada = some (.int .i64 pc.f0) := q0c; have y1c : w2.cell? ⟨ada.block, ada.off + 1, none⟩ = some (.int .i64 pc.f1) := q1c; have y2c : w2.cell? ⟨ada.block, ada.off + 2, none⟩ = some (.int .i64 pc.f2) := q2c; have y3c : w2.cell? ⟨ada.block, ada.off + 3, none⟩ = some (.int .i64 pc.f3) := q3c; have y4c : w2.cell? ⟨ada.block, ada.off + 4, none⟩ = some (.int .i64 pc.f4) := q4c; have y5c : w2.cell? ⟨ada.block, ada.off + 5, none⟩ = some (.int .i64 pc.f5) := q5c; have y6c : w2.cell? ⟨ada.block, ada.off + 6, none⟩ = some (.slice A6c pc.f6.length c6c) := q6c; have y7c : w2.cell? ⟨ada.block, ada.off + 7, none⟩ = some (.slice A7c pc.f7.length c7c) := q7c; obtain ⟨rc, kc, hkc⟩ := HP.out.t2 i.toNat HLT.out; rw [show pAt ps (0) = pc from HPEc.out.symm] at hkc; have HKc := Aside0.mk hkc; clear hkc) | ((with_reducible refine gate_dst (N := 58) rfl ?_); (try (refine gate_guard (by rfl) ?_; dsimp only)); refine goesL_ (some 58) rfl rfl Try.func11 (by kernel_rfl) rfl #[.pointer (some ⟨gy, 0, none⟩), .agg #[.int .i64 pc.f0, .int .i64 pc.f1, .int .i64 pc.f2, .int .i64 pc.f3, .int .i64 pc.f4, .int .i64 pc.f5, .slice A6c pc.f6.length c6c, .slice A7c pc.f7.length c7c]] rfl (by (try simp only [List.map_toArray, List.map_cons, List.map_nil]); first | done | rfl | (simp only [List.length_drop, List.length_take]; rfl)) ?_; refine (learn_calls kc w.heap.size gy b_ (ok4 gx bx gy b_) (M i.toNat).1 (M i.toNat).2 Asc csc pc.f0 pc.f1 pc.f2 pc.f3 pc.f4 pc.f5 A6c c6c pc.f6 A7c c7c pc.f7 (T (i.toNat + 1)).1 (T (i.toNat + 1)).2 rc _ (HSc.out.ls HT2.out.cy) (Kd.F_mono HG6c.out (fun k_ hk_ => ⟨hk_.2.2.1, hk_.2.2.2⟩)) HL6c.out (Kd.F_mono HG7c.out (fun k_ hk_ => ⟨hk_.2.2.1, hk_.2.2.2⟩)) HL7c.out HKc.out).mono ?_; rintro e_ w3 ⟨rfl, A2_, c2_, hl_⟩; refine ⟨_, rfl, ?_⟩; have HT3 := Aside0.mk (HT2.out.sety hl_); clear hl_))
   cases gk with
   | zero => exact absurd HQ.out (by have h1_ := HLT.out; omega)
   | succ k2 =>
    go_roundg k2
    case measure => omega
    case rel => exact ⟨i + 1, rfl, ⟨by have h1_ := HQ.out; have h2_ := HLE.out.1; omega⟩, ⟨by have h2_ := HLE.out.1; omega, by have h1_ := HLT.out; have h2_ := HLE.out.1; omega⟩, ⟨by rw [show (i + 1).toNat = i.toNat + 1 by (have h2_ := HLE.out.1; omega)]; exact HT3.out⟩⟩
  have hi : i.toNat = ps.length := Nat.le_antisymm HLE.out.2 hge
  have ql : (i < (ps.length : Int)) = False := eq_false (by have h1_ := HLE.out.1; omega)
  rw [hi] at HT0
  clear hi hge HQ HLE
  go_wp2
  go_loopg [10, 11] (ps.length + 1) (fun kq v10 v11 w' => ∃ i : Int, v10 = .bool false ∧ v11 = .int .i64 i ∧ Aside0 (ps.length + 1 ≤ kq + i.toNat) ∧ Aside0 (0 ≤ i ∧ i.toNat ≤ ps.length) ∧ Aside0 (Two w w' gx bx gy b_ (S (ps.length + i.toNat)).1 (S (ps.length + i.toNat)).2 (T ps.length).1 (T ps.length).2 Aa ps))
  case atStart => exact ⟨0, rfl, rfl, ⟨Nat.le_refl _⟩, ⟨by decide, Nat.zero_le _⟩, HT0⟩
  case round =>
   clear HT0 ql
   obtain ⟨i, rfl, rfl, HQ, HLE, HT0⟩ := hrel
   rcases Nat.lt_or_ge i.toNat ps.length with hlt | hge
   ·
    have ql : (i < (ps.length : Int)) = True := eq_true (by have h1_ := HLE.out.1; omega)
    have qp : (0 ≤ i) = True := eq_true HLE.out.1
    have HLT := Aside0.mk hlt
    clear hlt
    obtain ⟨Asa, csa, hs_⟩ := HT0.out.x
    have HSa := Aside0.mk hs_
    clear hs_
    obtain ⟨ada, A6a, c6a, A7a, c7a, hA_, q0a, q1a, q2a, q3a, q4a, q5a, q6a, q7a, l6_, g6_, l7_, g7_⟩ := par_at HT0.out.p (i) HLE.out.1 (by have h1_ := HLT.out; have h2_ := HLE.out.1; omega) (p := pAt ps (i)) rfl
    obtain ⟨pa, hpa⟩ : ∃ p, p = pAt ps (i) := ⟨_, rfl⟩
    rw [← hpa] at q0a q1a q2a q3a q4a q5a q6a q7a l6_ g6_ l7_ g7_
    have HPEa := Aside0.mk hpa
    subst hA_
    have HL6a := Aside0.mk l6_
    have HG6a := Aside0.mk g6_
    have HL7a := Aside0.mk l7_
    have HG7a := Aside0.mk g7_
    clear hpa l6_ g6_ l7_ g7_
    obtain ⟨ka, hka⟩ : LearnsTo (S (ps.length + i.toNat)) (pAt ps i) (S (ps.length + i.toNat + 1)) false := HP.out.s2 i.toNat HLT.out
    rw [show pAt ps i = pa from HPEa.out.symm] at hka
    have HKa := Aside0.mk hka
    clear hka
    have h1_ := HP.out.len
    have h3_ := HLT.out
    have h4_ := HLE.out.1
    have u9 : wrap64 (i + 1) = i + 1 := (by unfold wrap64; omega)
    clear h1_ h3_ h4_
    go_wp2_with (first | ((with_reducible refine gate_dst (N := 71) rfl ?_); (try (refine gate_guard (by rfl) ?_; dsimp only)); refine goesL_ (some 71) rfl rfl Try.func11 (by kernel_rfl) rfl #[.pointer (some ⟨gx, 0, none⟩), .agg #[.int .i64 pa.f0, .int .i64 pa.f1, .int .i64 pa.f2, .int .i64 pa.f3, .int .i64 pa.f4, .int .i64 pa.f5, .slice A6a pa.f6.length c6a, .slice A7a pa.f7.length c7a]] rfl (by (try simp only [List.map_toArray, List.map_cons, List.map_nil]); first | done | rfl | (simp only [List.length_drop, List.length_take]; rfl)) ?_; refine (learn_calls ka w.heap.size gx bx (ok4 gx bx gy b_) (S (ps.length + i.toNat)).1 (S (ps.length + i.toNat)).2 Asa csa pa.f0 pa.f1 pa.f2 pa.f3 pa.f4 pa.f5 A6a c6a pa.f6 A7a c7a pa.f7 (S (ps.length + i.toNat + 1)).1 (S (ps.length + i.toNat + 1)).2 false _ (HSa.out.ls HT0.out.cx) (Kd.F_mono HG6a.out (fun k_ hk_ => ⟨hk_.1, hk_.2.1⟩)) HL6a.out (Kd.F_mono HG7a.out (fun k_ hk_ => ⟨hk_.1, hk_.2.1⟩)) HL7a.out HKa.out).mono ?_; rintro e_ w1 ⟨rfl, A2_, c2_, hl_⟩; refine ⟨_, rfl, ?_⟩; have HT1 := Aside0.mk (HT0.out.setx hl_); clear hl_))
    cases gk with
    | zero => exact absurd HQ.out (by have h1_ := HLT.out; omega)
    | succ k2 =>
     go_roundg k2
     case measure => omega
     case rel => exact ⟨i + 1, rfl, (by first | rfl | rw [u9]), ⟨by have h1_ := HQ.out; have h2_ := HLE.out.1; omega⟩, ⟨by have h2_ := HLE.out.1; omega, by have h1_ := HLT.out; have h2_ := HLE.out.1; omega⟩, ⟨by rw [show (i + 1).toNat = i.toNat + 1 by (have h2_ := HLE.out.1; omega)]; exact HT1.out⟩⟩
   have hi : i.toNat = ps.length := Nat.le_antisymm HLE.out.2 hge
   have ql : (i < (ps.length : Int)) = False := eq_false (by have h1_ := HLE.out.1; omega)
   rw [hi] at HT0
   clear hi hge HQ HLE
   obtain ⟨Asa, csa, hs_⟩ := HT0.out.x
   have HSa := Aside0.mk hs_
   clear hs_
   obtain ⟨ks, hks⟩ := HP.out.same
   have HSM := Aside0.mk hks
   clear hks
   go_wp2_with (first | ((with_reducible refine gate_dst (N := 85) rfl ?_); (try (refine gate_guard (by rfl) ?_; dsimp only)); refine goesL_ (some 85) rfl rfl Try.func13 (by kernel_rfl) rfl #[.pointer (some ⟨gx, 0, none⟩)] rfl (by (try simp only [List.map_toArray, List.map_cons, List.map_nil]); first | done | rfl | (simp only [List.length_drop, List.length_take]; rfl)) ?_; refine (map_calls gx bx Asa csa (S (ps.length + ps.length)).1 _ HSa.out.blk (Kd.F_now HSa.out.kn) HSa.out.cap HP.out.cl1).mono ?_; rintro e_ w1 ⟨v_, rfl, ho, hb⟩; refine ⟨_, rfl, ?_⟩; obtain ⟨Ama, cma, em⟩ := Kd.R_slice ho; subst em; have HT1 := Aside0.mk (HT0.out.below hb); have HMa1 := Aside0.mk (Kd.R_reads' ho).2.2; have HMca := Aside0.mk (Kd.R_reads' ho).2.1; obtain ⟨Asb, csb, hs_⟩ := HT1.out.y; have HSb := Aside0.mk hs_; clear hs_; clear ho hb) | ((with_reducible refine gate_dst (N := 87) rfl ?_); (try (refine gate_guard (by rfl) ?_; dsimp only)); refine goesL_ (some 87) rfl rfl Try.func13 (by kernel_rfl) rfl #[.pointer (some ⟨gy, 0, none⟩)] rfl (by (try simp only [List.map_toArray, List.map_cons, List.map_nil]); first | done | rfl | (simp only [List.length_drop, List.length_take]; rfl)) ?_; refine (map_calls gy b_ Asb csb (T ps.length).1 _ HSb.out.blk (Kd.F_now HSb.out.kn) HSb.out.cap HP.out.cl2).mono ?_; rintro e_ w2 ⟨v_, rfl, ho, hb⟩; refine ⟨_, rfl, ?_⟩; obtain ⟨Amb, cmb, em⟩ := Kd.R_slice ho; subst em; have HT2 := Aside0.mk (HT1.out.below hb); have HMb2 := Aside0.mk (Kd.R_reads' ho).2.2; have HMcb := Aside0.mk (Kd.R_reads' ho).2.1; have HMa2 := Aside0.mk (Kd.C_below HMa1.out hb); clear ho hb) | ((with_reducible refine gate_dst (N := 88) rfl ?_); (try (refine gate_guard (by rfl) ?_; dsimp only)); refine goesL_ (some 88) rfl rfl Try.func12 (by kernel_rfl) rfl #[.slice Ama (S (ps.length + ps.length)).1.length cma, .slice Amb (T ps.length).1.length cmb] rfl (by (try simp only [List.map_toArray, List.map_cons, List.map_nil]); first | done | rfl | (simp only [List.length_drop, List.length_take]; rfl)) ?_; refine (grapevineref08_Same.calls ks Ama cma (S (ps.length + ps.length)).1 Amb cmb (T ps.length).1 true _ HMa2.out HMca.out HMb2.out HMcb.out HSM.out).mono ?_; rintro e_ w3 ⟨rfl, hd_⟩; refine ⟨_, rfl, ?_⟩; have HT3 := Aside0.mk (HT2.out.below hd_.below); obtain ⟨Asd, csd, hs_⟩ := HT3.out.x; have HSd := Aside0.mk hs_; clear hs_; clear hd_) | ((with_reducible refine gate_dst (N := 92) rfl ?_); (try (refine gate_guard (by rfl) ?_; dsimp only)); refine goesL_ (some 92) rfl rfl Try.func13 (by kernel_rfl) rfl #[.pointer (some ⟨gx, 0, none⟩)] rfl (by (try simp only [List.map_toArray, List.map_cons, List.map_nil]); first | done | rfl | (simp only [List.length_drop, List.length_take]; rfl)) ?_; refine (map_calls gx bx Asd csd (S (ps.length + ps.length)).1 _ HSd.out.blk (Kd.F_now HSd.out.kn) HSd.out.cap HP.out.cl1).mono ?_; rintro e_ w4 ⟨v_, rfl, ho, hb⟩; refine ⟨_, rfl, ?_⟩; obtain ⟨Amd, cmd, em⟩ := Kd.R_slice ho; subst em; have HT4 := Aside0.mk (HT3.out.below hb); have HMd4 := Aside0.mk (Kd.R_reads' ho).2.2; have HMcd := Aside0.mk (Kd.R_reads' ho).2.1; clear ho hb))
   go_loopg [15] ((S (ps.length + ps.length)).1.length + 1) (fun kq v15 w' => ∃ j : Int, v15 = .int .i64 j ∧ Aside0 ((S (ps.length + ps.length)).1.length + 1 ≤ kq + j.toNat) ∧ Aside0 (0 ≤ j ∧ j.toNat ≤ (S (ps.length + ps.length)).1.length) ∧ Aside0 (Two w w' gx bx gy b_ (S (ps.length + ps.length)).1 (S (ps.length + ps.length)).2 (T ps.length).1 (T ps.length).2 Aa ps) ∧ Aside0 (Kd.C k38 w' Amd (S (ps.length + ps.length)).1.length (S (ps.length + ps.length)).1))
   case atStart => exact ⟨0, rfl, ⟨Nat.le_refl _⟩, ⟨by decide, Nat.zero_le _⟩, HT4, HMd4⟩
   case round =>
    clear HT0 HT1 HT2 HT3 HT4 HMd4 HMa1 HMa2 HMb2
    obtain ⟨j, rfl, HQ, HLE, HT0, HM0⟩ := hrel
    rcases Nat.lt_or_ge j.toNat (S (ps.length + ps.length)).1.length with hlt | hge
    ·
     have ql : (j < ((S (ps.length + ps.length)).1.length : Int)) = True := eq_true (by have h1_ := HLE.out.1; omega)
     have qp : (0 ≤ j) = True := eq_true HLE.out.1
     have HLT := Aside0.mk hlt
     clear hlt
     obtain ⟨x, hx⟩ : ∃ x, x = rd_T38 (S (ps.length + ps.length)).1 j := ⟨_, rfl⟩
     have HXM := Aside0.mk (show x ∈ (S (ps.length + ps.length)).1 by (rw [hx, rd_T38, List.getD_eq_getElem?_getD, List.getElem?_eq_getElem HLT.out]; exact List.getElem_mem _))
     obtain ⟨adm, hA_, y0, y1, y2⟩ := at_T38 HM0.out j HLE.out.1 (by have h1_ := HLT.out; have h2_ := HLE.out.1; omega)
     rw [← hx] at y0 y1 y2
     subst hA_
     have HXE := Aside0.mk hx
     clear hx
     have h1_ := HP.out.fit
     have h3_ := HLT.out
     have h4_ := HLE.out.1
     have u9 : wrap64 (j + 1) = j + 1 := (by unfold wrap64; omega)
     clear h1_ h3_ h4_
     go_wp2
     cases gk with
     | zero => exact absurd HQ.out (by have h1_ := HLT.out; omega)
     | succ k2 =>
      clear y1 y2 y0
      have HM1 := Aside0.mk HM0.out
      go_loopg [16] ((x.f1 + 1 - x.f0).toNat + 1) (fun kq v16 w' => ∃ t : Int, v16 = .int .i64 t ∧ Aside0 ((x.f1 + 1 - x.f0).toNat + 1 ≤ kq + (t - x.f0).toNat) ∧ Aside0 (x.f0 ≤ t ∧ (x.f2 = 1 → t ≤ x.f1 + 1 ∨ t = x.f0)) ∧ Aside0 (Two w w' gx bx gy b_ (S (ps.length + ps.length)).1 (S (ps.length + ps.length)).2 (T ps.length).1 (T ps.length).2 Aa ps) ∧ Aside0 (Kd.C k38 w' (some adm) (S (ps.length + ps.length)).1.length (S (ps.length + ps.length)).1))
      case atStart => exact ⟨x.f0, rfl, ⟨by omega⟩, ⟨Int.le_refl _, fun _ => Or.inr rfl⟩, HT0, HM0⟩
      case round =>
       clear HT0 HM0 HM1
       obtain ⟨t, rfl, HQ2, HLE2, HT0, HM0⟩ := hrel
       obtain ⟨adm2, hA_, y0, y1, y2⟩ := at_T38 HM0.out j HLE.out.1 (by have h1_ := HLT.out; have h2_ := HLE.out.1; omega)
       rw [← HXE.out] at y0 y1 y2
       obtain rfl : adm = adm2 := Option.some.inj hA_
       clear hA_
       rcases Decidable.em (x.f2 = 1) with e1 | e1
       ·
        rcases (show x.f1 < t ∨ t ≤ x.f1 by omega) with e2 | e2
        ·
         have c1 : (x.f2 == 1) = true := (by simpa using e1)
         have c2 : (t ≤ x.f1) = False := eq_false (by omega)
         clear e1 e2
         go_wp2
         go_roundg k2
         case measure => omega
         case rel => exact ⟨j + 1, (by first | rfl | rw [u9]), ⟨by have h1_ := HQ.out; have h2_ := HLE.out.1; omega⟩, ⟨by have h2_ := HLE.out.1; omega, by have h1_ := HLT.out; have h2_ := HLE.out.1; omega⟩, HT0, HM0⟩
        have c1 : (x.f2 == 1) = true := (by simpa using e1)
        have c2 : (t ≤ x.f1) = True := eq_true (by omega)
        have HT1_ := Aside0.mk e2
        obtain ⟨hx0, hx1, hxx⟩ := HP.out.items x HXM.out e1
        obtain ⟨a, b, hga, hgb, hca, hcb, ks, hsi⟩ := hxx t HLE2.out.1 e2
        have HGA := Aside0.mk hga
        have HGB := Aside0.mk hgb
        have HCA := Aside0.mk hca
        have HCB := Aside0.mk hcb
        have HSI := Aside0.mk hsi
        have h4_ := HLE2.out.1
        have u8 : wrap64 (t + 1) = t + 1 := (by unfold wrap64; omega)
        have u7 : wrap64 t = t := (by unfold wrap64; omega)
        have HWF := Aside0.mk (show (Lit.int .i64 t).wf = true by (rw [← u7]; exact wrap64_wf t))
        clear u7 h4_ hga hgb hca hcb hsi hx0 hx1 hxx e1 e2
        obtain ⟨Asa, csa, hs_⟩ := HT0.out.x
        have HSa := Aside0.mk hs_
        clear hs_
        go_wp2_with (first | ((with_reducible refine gate_dst (N := 124) rfl ?_); (try (refine gate_guard (by rfl) ?_; dsimp only)); refine goesL_ (some 124) rfl rfl Try.func14 (by kernel_rfl) rfl #[.pointer (some ⟨gx, 0, none⟩), .int .i64 t] rfl (by (try simp only [List.map_toArray, List.map_cons, List.map_nil]); first | done | rfl | (simp only [List.length_drop, List.length_take]; rfl)) ?_; refine (item_calls gx bx (ok4 gx bx gy b_) (.slice Asa ((S (ps.length + ps.length)).1).length csa) ((S (ps.length + ps.length)).2) a t _ HSa.out.blk HSa.out.map HWF.out HGA.out HCA.out).mono ?_; rintro e_ w1 ⟨v_, rfl, ho, hb⟩; refine ⟨_, rfl, ?_⟩; obtain ⟨Ai, ci, em⟩ := Kd.R_slice ho; subst em; have HT1 := Aside0.mk (HT0.out.below hb); have HM1 := Aside0.mk (Kd.C_below HM0.out hb); have HAi1 := Aside0.mk (Kd.R_reads' ho).2.2; have HCAi := Aside0.mk (Kd.R_reads' ho).2.1; clear ho hb) | ((with_reducible refine gate_dst (N := 17) rfl ?_); refine box_event ?hg (N := 17) ?hd (cs := #[.int .i64 0, .int .u32 0, .slice none 0 0]) (t := 42) ?hr ?_; (case hd => rfl); (case hg => rfl); (case hr => first | (go_simp; done) | (go_simp; rfl)); intro g1 hg w2 hbox hb; have B1a := Aside0.mk hbox; have Eg1 := Aside0.mk hg; have Sg1 := Aside0.mk hb; have zB1a0 := (blk_cell hbox 0).trans rfl; have zB1a1 := (blk_cell hbox 1).trans rfl; have zB1a2 := (blk_cell hbox 2).trans rfl; have fB1a0 := blk_frozen hbox 0; have fB1a1 := blk_frozen hbox 1; have fB1a2 := blk_frozen hbox 2; clear hbox hg hb) | ((with_reducible refine gate_store (t := 42) (p := 17) (v := .tmp 125) rfl ?_); refine store_event rfl (t := 42) (p := 17) (v := .tmp 125) rfl rfl (w1 := (((w2.setCell ⟨g1, 0, none⟩ (.int .i64 a.f0)).setCell ⟨g1, 1, none⟩ (.int .u32 a.f1)).setCell ⟨g1, 2, none⟩ (.slice Ai a.f2.length ci))) ?hr ?_; (case hr => first | (go_simp; done) | (go_simp; rfl)); intro w3 hw_; have hb : Below w1.heap.size w1 w3 := (by rw [hw_]; exact Below.setCell (Below.setCell (Below.setCell (Sg1.out) (show w1.heap.size ≤ g1 from Nat.le_of_eq Eg1.out.symm) _) (show w1.heap.size ≤ g1 from Nat.le_of_eq Eg1.out.symm) _) (show w1.heap.size ≤ g1 from Nat.le_of_eq Eg1.out.symm) _); have B1 := Aside0.mk (show w3.heap[g1]? = some (.cells #[.int .i64 a.f0, .int .u32 a.f1, .slice Ai a.f2.length ci] 42 (0, 0)) by (rw [hw_]; exact putSo3_0_3 B1a.out (.int .i64 a.f0) (.int .u32 a.f1) (.slice Ai a.f2.length ci))); clear hw_; have HT3 := Aside0.mk (HT1.out.below hb); have HM3 := Aside0.mk (Kd.C_below HM1.out hb); have HAi3 := Aside0.mk (Kd.C_below HAi1.out hb); obtain ⟨Asb, csb, hs_⟩ := HT3.out.y; have HSb := Aside0.mk hs_; clear hs_; (try clear hb)) | ((with_reducible refine gate_dst (N := 130) rfl ?_); (try (refine gate_guard (by rfl) ?_; dsimp only)); refine goesL_ (some 130) rfl rfl Try.func14 (by kernel_rfl) rfl #[.pointer (some ⟨gy, 0, none⟩), .int .i64 t] rfl (by (try simp only [List.map_toArray, List.map_cons, List.map_nil]); first | done | rfl | (simp only [List.length_drop, List.length_take]; rfl)) ?_; refine (item_calls gy b_ (ok4 gx bx gy b_) (.slice Asb ((T ps.length).1).length csb) ((T ps.length).2) b t _ HSb.out.blk HSb.out.map HWF.out HGB.out HCB.out).mono ?_; rintro e_ w4 ⟨v_, rfl, ho, hb⟩; refine ⟨_, rfl, ?_⟩; obtain ⟨Aj, cj, em⟩ := Kd.R_slice ho; subst em; have HT4 := Aside0.mk (HT3.out.below hb); have HM4 := Aside0.mk (Kd.C_below HM3.out hb); have HAj4 := Aside0.mk (Kd.R_reads' ho).2.2; have HCAj := Aside0.mk (Kd.R_reads' ho).2.1; have HAi4 := Aside0.mk (Kd.C_below HAi3.out hb); have B1_4 := Aside0.mk (blk_below B1.out hb); clear ho hb) | ((with_reducible refine gate_dst (N := 19) rfl ?_); refine box_event ?hg (N := 19) ?hd (cs := #[.int .i64 0, .int .u32 0, .slice none 0 0]) (t := 42) ?hr ?_; (case hd => rfl); (case hg => rfl); (case hr => first | (go_simp; done) | (go_simp; rfl)); intro g2 hg w5 hbox hb; have B2a := Aside0.mk hbox; have Eg2 := Aside0.mk hg; have Sg2 := Aside0.mk hb; have zB2a0 := (blk_cell hbox 0).trans rfl; have zB2a1 := (blk_cell hbox 1).trans rfl; have zB2a2 := (blk_cell hbox 2).trans rfl; have fB2a0 := blk_frozen hbox 0; have fB2a1 := blk_frozen hbox 1; have fB2a2 := blk_frozen hbox 2; clear hbox hg hb) | ((with_reducible refine gate_store (t := 42) (p := 19) (v := .tmp 131) rfl ?_); refine store_event rfl (t := 42) (p := 19) (v := .tmp 131) rfl rfl (w1 := (((w5.setCell ⟨g2, 0, none⟩ (.int .i64 b.f0)).setCell ⟨g2, 1, none⟩ (.int .u32 b.f1)).setCell ⟨g2, 2, none⟩ (.slice Aj b.f2.length cj))) ?hr ?_; (case hr => first | (go_simp; done) | (go_simp; rfl)); intro w6 hw_; have hb : Below w4.heap.size w4 w6 := (by rw [hw_]; exact Below.setCell (Below.setCell (Below.setCell (Sg2.out) (show w4.heap.size ≤ g2 from Nat.le_of_eq Eg2.out.symm) _) (show w4.heap.size ≤ g2 from Nat.le_of_eq Eg2.out.symm) _) (show w4.heap.size ≤ g2 from Nat.le_of_eq Eg2.out.symm) _); have B2 := Aside0.mk (show w6.heap[g2]? = some (.cells #[.int .i64 b.f0, .int .u32 b.f1, .slice Aj b.f2.length cj] 42 (0, 0)) by (rw [hw_]; exact putSo3_0_3 B2a.out (.int .i64 b.f0) (.int .u32 b.f1) (.slice Aj b.f2.length cj))); clear hw_; have HT6 := Aside0.mk (HT4.out.below hb); have HM6 := Aside0.mk (Kd.C_below HM4.out hb); have HAi6 := Aside0.mk (Kd.C_below HAi4.out hb); have HAj6 := Aside0.mk (Kd.C_below HAj4.out hb); have B16 := Aside0.mk (blk_below B1_4.out hb); have zb1_0 := (blk_cell B16.out 0).trans rfl; have zb1_1 := (blk_cell B16.out 1).trans rfl; have zb1_2 := (blk_cell B16.out 2).trans rfl; have zb2_0 := (blk_cell B2.out 0).trans rfl; have zb2_1 := (blk_cell B2.out 1).trans rfl; have zb2_2 := (blk_cell B2.out 2).trans rfl; have zc2_0 : ∀ X_ : Obj, (w6.alloc X_).cell? ⟨g2, 0, none⟩ = some (.int .i64 b.f0) := fun X_ => (blk_cell (blk_alloc B2.out X_) 0).trans rfl; have zc2_1 : ∀ X_ : Obj, (w6.alloc X_).cell? ⟨g2, 1, none⟩ = some (.int .u32 b.f1) := fun X_ => (blk_cell (blk_alloc B2.out X_) 1).trans rfl; have zc2_2 : ∀ X_ : Obj, (w6.alloc X_).cell? ⟨g2, 2, none⟩ = some (.slice Aj b.f2.length cj) := fun X_ => (blk_cell (blk_alloc B2.out X_) 2).trans rfl; (try clear hb)) | ((with_reducible refine gate_dst (N := 144) rfl ?_); (try (refine gate_guard (by rfl) ?_; dsimp only)); refine goesL_ (some 144) rfl rfl Try.func15 (by kernel_rfl) rfl #[.slice (some ⟨w6.heap.size, 0, none⟩) ([a] : List S42).length 1, .slice (some ⟨w6.heap.size + 1, 0, none⟩) ([b] : List S42).length 1] rfl (by (try simp only [List.map_toArray, List.map_cons, List.map_nil]); first | done | rfl | (simp only [List.length_drop, List.length_take]; rfl)) ?_; refine (grapevineref13_SameItems.calls ks _ 1 [a] _ 1 [b] true ((w6.alloc (.cells #[.int .i64 a.f0, .int .u32 a.f1, .slice Ai a.f2.length ci] 42)).alloc (.cells #[.int .i64 b.f0, .int .u32 b.f1, .slice Aj b.f2.length cj] 42)) (C_one (alloc2 w6 _ _).1 (k42_mk _ a HCAi.out (Kd.C_below HAi6.out (alloc2 w6 _ _).2.2))) (Nat.le_refl 1) (C_one (alloc2 w6 _ _).2.1 (k42_mk _ b HCAj.out (Kd.C_below HAj6.out (alloc2 w6 _ _).2.2))) (Nat.le_refl 1) HSI.out).mono ?_; rintro e_ w9 ⟨rfl, hd_⟩; refine ⟨_, rfl, ?_⟩; have HT9 := Aside0.mk ((HT6.out.below (alloc2 w6 _ _).2.2).below hd_.below); have HM9 := Aside0.mk (Kd.C_below (Kd.C_below HM6.out (alloc2 w6 _ _).2.2) hd_.below); clear hd_))
        cases gk with
        | zero => exact absurd HQ2.out (by have h1_ := HLE2.out.1; have h2_ := HT1_.out; omega)
        | succ k3 =>
         go_roundg k3
         case measure => omega
         case rel => exact ⟨t + 1, (by first | rfl | rw [u8]), ⟨by have h1_ := HQ2.out; have h2_ := HLE2.out.1; omega⟩, ⟨by have h2_ := HLE2.out.1; omega, fun _ => Or.inl (by have h2_ := HT1_.out; omega)⟩, HT9, HM9⟩
       have c1 : (x.f2 == 1) = false := (by simpa using e1)
       clear e1
       go_wp2
       go_roundg k2
       case measure => omega
       case rel => exact ⟨j + 1, (by first | rfl | rw [u9]), ⟨by have h1_ := HQ.out; have h2_ := HLE.out.1; omega⟩, ⟨by have h2_ := HLE.out.1; omega, by have h1_ := HLT.out; have h2_ := HLE.out.1; omega⟩, HT0, HM0⟩
    have hi : j.toNat = (S (ps.length + ps.length)).1.length := Nat.le_antisymm HLE.out.2 hge
    have ql : (j < ((S (ps.length + ps.length)).1.length : Int)) = False := eq_false (by have h1_ := HLE.out.1; omega)
    clear hi hge
    go_wp2_with (first | ((with_reducible refine gate_dst (N := 147) rfl ?_); (try (refine gate_guard (by rfl) ?_; dsimp only)); refine goesL_ (some 147) rfl rfl Try.func16 (by kernel_rfl) rfl #[] rfl (by (try simp only [List.map_toArray, List.map_cons, List.map_nil]); first | done | rfl | (simp only [List.length_drop, List.length_take]; rfl)) ?_; refine (grapevinelaw15_live.calls kl true _ HLV.out).mono ?_; rintro e_ w1 ⟨rfl, hb⟩; refine ⟨_, rfl, ?_⟩; have HBE := Aside0.mk (below_step HT0.out.be hb); clear hb))
    go_ret
    exact ⟨rfl, HBE.out⟩


end Go.Proofs.Ytffefaiaifhokaa.PT
