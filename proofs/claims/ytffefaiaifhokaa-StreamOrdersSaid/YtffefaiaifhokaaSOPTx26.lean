-- PRINTED by gprint.py (a session's own driver over the kit's print): not trusted; Lean checks it.
import Derived.Test.YtffefaiaifhokaaSOPTx0
import Derived.Test.YtffefaiaifhokaaSOPTx6
import Derived.Test.YtffefaiaifhokaaSOPTx14
import Derived.Test.YtffefaiaifhokaaSOPTx18
import Derived.Test.YtffefaiaifhokaaSOPTx24
import Derived.Test.YtffefaiaifhokaaSOPTx25
namespace Go.Proofs.Ytffefaiaifhokaa.PT
open Go.RowKit Go.Proofs.YtffefaiaifhokaaW.PrintWords Go.Proofs.YtffefaiaifhokaaW.PrintLast Go.Proofs.YtffefaiaifhokaaW.PrintMore
set_option linter.unusedVariables false
set_option linter.unusedSimpArgs false

/-! ### grapevinelaw15_live: function 16 -/
-- GIVEN-ALONE: typed by mk_orders.py
theorem putLi6_0_6 {W : World} {g t : Nat} {c0 c1 c2 c3 c4 c5 : Value} (h : W.heap[g]? = some (.cells #[c0, c1, c2, c3, c4, c5] t (0, 0))) (d0 d1 d2 d3 d4 d5 : Value) : ((((((W.setCell ⟨g, 0, none⟩ d0).setCell ⟨g, 1, none⟩ d1).setCell ⟨g, 2, none⟩ d2).setCell ⟨g, 3, none⟩ d3).setCell ⟨g, 4, none⟩ d4).setCell ⟨g, 5, none⟩ d5).heap[g]? = some (.cells #[d0, d1, d2, d3, d4, d5] t (0, 0)) := by
 have h0 : (W.setCell ⟨g, 0, none⟩ d0).heap[g]? = some (.cells #[d0, c1, c2, c3, c4, c5] t (0, 0)) := blk_put h 0 _ rfl
 have h1 : ((W.setCell ⟨g, 0, none⟩ d0).setCell ⟨g, 1, none⟩ d1).heap[g]? = some (.cells #[d0, d1, c2, c3, c4, c5] t (0, 0)) := blk_put h0 1 _ rfl
 have h2 : (((W.setCell ⟨g, 0, none⟩ d0).setCell ⟨g, 1, none⟩ d1).setCell ⟨g, 2, none⟩ d2).heap[g]? = some (.cells #[d0, d1, d2, c3, c4, c5] t (0, 0)) := blk_put h1 2 _ rfl
 have h3 : ((((W.setCell ⟨g, 0, none⟩ d0).setCell ⟨g, 1, none⟩ d1).setCell ⟨g, 2, none⟩ d2).setCell ⟨g, 3, none⟩ d3).heap[g]? = some (.cells #[d0, d1, d2, d3, c4, c5] t (0, 0)) := blk_put h2 3 _ rfl
 have h4 : (((((W.setCell ⟨g, 0, none⟩ d0).setCell ⟨g, 1, none⟩ d1).setCell ⟨g, 2, none⟩ d2).setCell ⟨g, 3, none⟩ d3).setCell ⟨g, 4, none⟩ d4).heap[g]? = some (.cells #[d0, d1, d2, d3, d4, c5] t (0, 0)) := blk_put h3 4 _ rfl
 exact blk_put h4 5 _ rfl
theorem MapS.one {W : World} {b : Nat} {ok : Nat → Prop} {x : S42} (h : MapS W b ok [x]) : ∃ A c, Mp W b 1 (.map [(.int .i64 x.f0, .held (.agg #[.int .i64 x.f0, .int .u32 x.f1, .slice A x.f2.length c]))]) ∧ x.f2.length ≤ c ∧ Kd.F (Kd.int .u8) W ok A x.f2.length x.f2 := by
 obtain ⟨D, hD, hX⟩ := h
 obtain ⟨v, ⟨A, c, rfl, h1, h2⟩, hat⟩ := hX.at_ x (by simp)
 obtain ⟨es, rfl, _⟩ := hX.tidy
 have hs : es.length = 1 := hX.size
 obtain ⟨⟨kl, d⟩, rfl⟩ := List.length_eq_one_iff.1 hs
 have hh : Maps.has (.map [(kl, d)]) (.int .i64 x.f0) = true := by rw [hX.has]; simp
 have hk : kl = .int .i64 x.f0 := WideAt.sameKey_eq (by simpa [Maps.has] using hh)
 subst hk
 have hd : d = .held (.agg #[.int .i64 x.f0, .int .u32 x.f1, .slice A x.f2.length c]) := by
  have := hat .nil
  simpa [DataW.atKey, WideAt.sameKey_self (keyI x.f0)] using this
 rw [hd] at hD
 exact ⟨A, c, hD, h1, h2⟩
def grapevinelaw15_live.eqS (s : List S38 × List S42 × Bool) : Bool := decide (s.1.map (fun x => (x.f0, x.f1, x.f2)) = [(1, 4, 2), (5, 5, 1)]) && decide (s.2.1.map (fun x => (x.f0, x.f1, x.f2)) = [(5, 1, [97])]) && s.2.2
theorem grapevinelaw15_live.eqS_of : ∀ {s : List S38 × List S42 × Bool}, grapevinelaw15_live.eqS s = true → s = (([⟨1, 4, 2⟩, ⟨5, 5, 1⟩] : List S38), ([⟨5, 1, [97]⟩] : List S42), true) := by
 rintro ⟨K, X, r⟩ h
 simp only [grapevinelaw15_live.eqS, Bool.and_eq_true, decide_eq_true_eq] at h
 obtain ⟨⟨h1, h2⟩, rfl⟩ := h
 have e1 : K = ([⟨1, 4, 2⟩, ⟨5, 5, 1⟩] : List S38) := by
  match K, h1 with
  | [⟨_, _, _⟩, ⟨_, _, _⟩], h1 =>
   simp only [List.map_cons, List.map_nil, List.cons.injEq, Prod.mk.injEq, and_true] at h1
   obtain ⟨⟨rfl, rfl, rfl⟩, rfl, rfl, rfl⟩ := h1
   rfl
 have e2 : X = ([⟨5, 1, [97]⟩] : List S42) := by
  match X, h2 with
  | [⟨_, _, _⟩], h2 =>
   simp only [List.map_cons, List.map_nil, List.cons.injEq, Prod.mk.injEq, and_true] at h2
   obtain ⟨rfl, rfl, rfl⟩ := h2
   rfl
 rw [e1, e2]
def grapevinelaw15_live.f (k : Nat) : Option Bool := (learnF k [] [] 1 0 0 0 1 5 ([⟨1, 4, 2⟩] : List S38) ([⟨5, 1, [97]⟩] : List S42)).bind fun s => if grapevinelaw15_live.eqS s = true then some true else none
set_option maxHeartbeats 100000000 in
set_option maxRecDepth 100000 in
theorem grapevinelaw15_live.calls (k : Nat) (r : Bool) (w : World) (h : grapevinelaw15_live.f k = some r) :
 Calls Try.prog 16 #[] w fun e w' => e = .returned (.bool r) ∧ Below w.heap.size w w' := by
 have hu := Try.underlying73
 have hui := Try.underlying42
 unfold grapevinelaw15_live.f at h
 obtain ⟨s, hs, h2⟩ := Option.bind_eq_some_iff.mp h
 clear h
 by_cases hh : grapevinelaw15_live.eqS s = true
 case neg => rw [if_neg hh] at h2; exact absurd h2 (by simp)
 rw [if_pos hh] at h2
 obtain rfl := Option.some.inj h2
 obtain rfl := grapevinelaw15_live.eqS_of hh
 have HLF := Aside0.mk hs
 clear h2 hs hh
 go_enter Try.func16, Try.ntmps16
 go_wp2_with (first | ((with_reducible refine gate_dst (N := 8) rfl ?_); (try (refine gate_guard (by rfl) ?_; dsimp only)); refine goesL_ (some 8) rfl rfl Try.func10 (by kernel_rfl) rfl #[] rfl (by (try simp only [List.map_toArray, List.map_cons, List.map_nil]); first | done | rfl | (simp only [List.length_drop, List.length_take]; rfl)) ?_; refine (stream_New.calls _).mono ?_; rintro e_ w1 ⟨g, b, rfl, hg, hm, hgb, hbb, hne, hb⟩; refine ⟨_, rfl, ?_⟩; have BG1 := Aside0.mk hg; have HM1 := Aside0.mk hm; have HB1 := Aside0.mk hb; have HGW := Aside0.mk hgb; have HBW := Aside0.mk hbb; have HNE := Aside0.mk hne; have HLG := Aside0.mk (blk_lt hg); have HLB := Aside0.mk (World.ownsMap.lt hm); clear hg hm hgb hbb hne hb) | ((with_reducible refine gate_dst (N := 11) rfl ?_); (try (refine gate_guard (by rfl) ?_; dsimp only)); refine goesL_ (some 11) rfl rfl Try.func46 (by kernel_rfl) rfl #[] rfl (by (try simp only [List.map_toArray, List.map_cons, List.map_nil]); first | done | rfl | (simp only [List.length_drop, List.length_take]; rfl)) ?_; refine (grapevinelaw15_news.calls _).mono ?_; rintro e_ w2 ⟨A6, A7, c6, c7, rfl, h6, hc6, h7, hc7, hb⟩; refine ⟨_, rfl, ?_⟩; have BG2 := Aside0.mk (blk_below BG1.out hb); have HM2 := Aside0.mk (HM1.out.below hb); have HB2 := Aside0.mk (below_step HB1.out hb); have H6 := Aside0.mk (Kd.F_mono h6 (ok' := fun k_ => k_ ≠ g ∧ k_ ≠ b) (fun k_ h_ => ⟨by have h1_ := HLG.out; omega, by have h1_ := HLB.out; omega⟩)); have H7 := Aside0.mk (Kd.F_mono h7 (ok' := fun k_ => k_ ≠ g ∧ k_ ≠ b) (fun k_ h_ => ⟨by have h1_ := HLG.out; omega, by have h1_ := HLB.out; omega⟩)); have HC6 := Aside0.mk hc6; have HC7 := Aside0.mk hc7; clear h6 hc6 h7 hc7 hb) | ((with_reducible refine gate_dst (N := 12) rfl ?_); (try (refine gate_guard (by rfl) ?_; dsimp only)); refine goesL_ (some 12) rfl rfl Try.func11 (by kernel_rfl) rfl #[.pointer (some ⟨g, 0, none⟩), .agg #[.int .i64 1, .int .i64 0, .int .i64 0, .int .i64 0, .int .i64 1, .int .i64 5, .slice A6 ([⟨1, 4, 2⟩] : List S38).length c6, .slice A7 ([⟨5, 1, [97]⟩] : List S42).length c7]] rfl (by (try simp only [List.map_toArray, List.map_cons, List.map_nil]); first | done | rfl | (simp only [List.length_drop, List.length_take]; rfl)) ?_; refine (learn_calls k w.heap.size g b (fun k_ => k_ ≠ g ∧ k_ ≠ b) [] [] none 0 1 0 0 0 1 5 A6 c6 ([⟨1, 4, 2⟩] : List S38) A7 c7 ([⟨5, 1, [97]⟩] : List S42) ([⟨1, 4, 2⟩, ⟨5, 5, 1⟩] : List S38) ([⟨5, 1, [97]⟩] : List S42) true _ ⟨⟨fun _ h_ => h_, fun k_ h_ => ⟨by have h1_ := blk_lt BG2.out; omega, by have h1_ := World.ownsMap.lt HM2.out; omega⟩, HNE.out, HGW.out, HBW.out, HB2.out.size, blk_lt BG2.out, World.ownsMap.lt HM2.out⟩, KeepBut.refl _ _ _, Below.refl _ _, BG2.out, (fun W' _ => Kd.C_nil _ _), Nat.le_refl _, MapS.nil _ HM2.out⟩ H6.out HC6.out H7.out HC7.out HLF.out).mono ?_; rintro e_ w3 ⟨rfl, A2, c2, hl⟩; refine ⟨_, rfl, ?_⟩; have BG3 := Aside0.mk hl.blk; obtain ⟨A1, c1, hm, hc1, hB⟩ := hl.map.one; have HM3 := Aside0.mk hm; have HB3 := Aside0.mk (HB2.out.trans hl.be); have HK3 := Aside0.mk (Kd.F_now hl.kn); have HY3 := Aside0.mk (Kd.F_now hB); have HC2 := Aside0.mk hl.cap; have HC1 := Aside0.mk hc1; clear hl hm hB hc1) | ((with_reducible refine gate_dst (N := 17) rfl ?_); (try (refine gate_guard (by rfl) ?_; dsimp only)); refine goesL_ (some 17) rfl rfl Try.func30 (by kernel_rfl) rfl #[.pointer (some ⟨g, 0, none⟩), .int .i64 0, .int .i64 1] rfl (by (try simp only [List.map_toArray, List.map_cons, List.map_nil]); first | done | rfl | (simp only [List.length_drop, List.length_take]; rfl)) ?_; refine (next_live1 g b A2 A1 c2 c1 _ BG3.out HK3.out HC2.out HM3.out HY3.out HC1.out).mono ?_; rintro e_ w4 ⟨⟨Ax, cx, rfl, hx, hcx⟩, hb⟩; refine ⟨_, rfl, ?_⟩; have BG4 := Aside0.mk (blk_below BG3.out hb); have HM4 := Aside0.mk (HM3.out.below hb); have HB4 := Aside0.mk (below_step HB3.out hb); have HK4 := Aside0.mk (Kd.C_below HK3.out hb); have HY4 := Aside0.mk (Kd.C_below HY3.out hb); have HX4 := Aside0.mk hx; clear hx hb) | ((with_reducible refine gate_dst (N := 4) rfl ?_); refine box_event ?hg (N := 4) ?hd (cs := #[.int .i64 0, .int .i64 0, .int .i64 0, .int .i64 0, .int .u32 0, .slice none 0 0]) (t := 73) ?hr ?_; (case hd => rfl); (case hg => rfl); (case hr => first | (go_simp; done) | (go_simp; rfl)); intro gx hg w5 hbox hb; have BXa := Aside0.mk hbox; have Egx := Aside0.mk hg; have Sgx := Aside0.mk hb; have zBXa0 := (blk_cell hbox 0).trans rfl; have zBXa1 := (blk_cell hbox 1).trans rfl; have zBXa2 := (blk_cell hbox 2).trans rfl; have zBXa3 := (blk_cell hbox 3).trans rfl; have zBXa4 := (blk_cell hbox 4).trans rfl; have zBXa5 := (blk_cell hbox 5).trans rfl; have fBXa0 := blk_frozen hbox 0; have fBXa1 := blk_frozen hbox 1; have fBXa2 := blk_frozen hbox 2; have fBXa3 := blk_frozen hbox 3; have fBXa4 := blk_frozen hbox 4; have fBXa5 := blk_frozen hbox 5; clear hbox hg hb) | ((with_reducible refine gate_store (t := 73) (p := 4) (v := .tmp 18) rfl ?_); refine store_event rfl (t := 73) (p := 4) (v := .tmp 18) rfl rfl (w1 := ((((((w5.setCell ⟨gx, 0, none⟩ (.int .i64 1)).setCell ⟨gx, 1, none⟩ (.int .i64 5)).setCell ⟨gx, 2, none⟩ (.int .i64 5)).setCell ⟨gx, 3, none⟩ (.int .i64 5)).setCell ⟨gx, 4, none⟩ (.int .u32 1)).setCell ⟨gx, 5, none⟩ (.slice Ax 1 cx))) ?hr ?_; (case hr => first | (go_simp; done) | (go_simp; rfl)); intro w6 hw_; have hb : Below w4.heap.size w4 w6 := (by rw [hw_]; exact Below.setCell (Below.setCell (Below.setCell (Below.setCell (Below.setCell (Below.setCell (Sgx.out) (show w4.heap.size ≤ gx from Nat.le_of_eq Egx.out.symm) _) (show w4.heap.size ≤ gx from Nat.le_of_eq Egx.out.symm) _) (show w4.heap.size ≤ gx from Nat.le_of_eq Egx.out.symm) _) (show w4.heap.size ≤ gx from Nat.le_of_eq Egx.out.symm) _) (show w4.heap.size ≤ gx from Nat.le_of_eq Egx.out.symm) _) (show w4.heap.size ≤ gx from Nat.le_of_eq Egx.out.symm) _); have BX := Aside0.mk (show w6.heap[gx]? = some (.cells #[.int .i64 1, .int .i64 5, .int .i64 5, .int .i64 5, .int .u32 1, .slice Ax 1 cx] 73 (0, 0)) by (rw [hw_]; exact putLi6_0_6 BXa.out (.int .i64 1) (.int .i64 5) (.int .i64 5) (.int .i64 5) (.int .u32 1) (.slice Ax 1 cx))); have BG6 := Aside0.mk (blk_below BG4.out hb); have HM6 := Aside0.mk (HM4.out.below hb); have HB6 := Aside0.mk (below_step HB4.out hb); have HK6 := Aside0.mk (Kd.C_below HK4.out hb); have HY6 := Aside0.mk (Kd.C_below HY4.out hb); have HX6 := Aside0.mk (Kd.C_below HX4.out hb); clear hw_ hb) | ((with_reducible refine gate_dst (N := 22) rfl ?_); (try (refine gate_guard (by rfl) ?_; dsimp only)); refine goesL_ (some 22) rfl rfl Try.func30 (by kernel_rfl) rfl #[.pointer (some ⟨g, 0, none⟩), .int .i64 0, .int .i64 2] rfl (by (try simp only [List.map_toArray, List.map_cons, List.map_nil]); first | done | rfl | (simp only [List.length_drop, List.length_take]; rfl)) ?_; refine (next_live2 g b A2 A1 c2 c1 _ BG6.out HK6.out HC2.out HM6.out HY6.out HC1.out).mono ?_; rintro e_ w7 ⟨rfl, hb⟩; refine ⟨_, rfl, ?_⟩; have HB7 := Aside0.mk (below_step HB6.out hb); have HX7 := Aside0.mk (Kd.C_below HX6.out hb); have BX7 := Aside0.mk (blk_below BX.out hb); clear hb) | ((with_reducible refine gate_dst (N := 6) rfl ?_); refine box_event ?hg (N := 6) ?hd (cs := #[.int .i64 0, .int .i64 0, .int .i64 0, .int .i64 0, .int .u32 0, .slice none 0 0]) (t := 73) ?hr ?_; (case hd => rfl); (case hg => rfl); (case hr => first | (go_simp; done) | (go_simp; rfl)); intro gy hg w8 hbox hb; have BYa := Aside0.mk hbox; have Egy := Aside0.mk hg; have Sgy := Aside0.mk hb; have zBYa0 := (blk_cell hbox 0).trans rfl; have zBYa1 := (blk_cell hbox 1).trans rfl; have zBYa2 := (blk_cell hbox 2).trans rfl; have zBYa3 := (blk_cell hbox 3).trans rfl; have zBYa4 := (blk_cell hbox 4).trans rfl; have zBYa5 := (blk_cell hbox 5).trans rfl; have fBYa0 := blk_frozen hbox 0; have fBYa1 := blk_frozen hbox 1; have fBYa2 := blk_frozen hbox 2; have fBYa3 := blk_frozen hbox 3; have fBYa4 := blk_frozen hbox 4; have fBYa5 := blk_frozen hbox 5; clear hbox hg hb) | ((with_reducible refine gate_store (t := 73) (p := 6) (v := .tmp 23) rfl ?_); refine store_event rfl (t := 73) (p := 6) (v := .tmp 23) rfl rfl (w1 := ((((((w8.setCell ⟨gy, 0, none⟩ (.int .i64 0)).setCell ⟨gy, 1, none⟩ (.int .i64 0)).setCell ⟨gy, 2, none⟩ (.int .i64 5)).setCell ⟨gy, 3, none⟩ (.int .i64 0)).setCell ⟨gy, 4, none⟩ (.int .u32 0)).setCell ⟨gy, 5, none⟩ (.slice none 0 0))) ?hr ?_; (case hr => first | (go_simp; done) | (go_simp; rfl)); intro w9 hw_; have hb : Below w7.heap.size w7 w9 := (by rw [hw_]; exact Below.setCell (Below.setCell (Below.setCell (Below.setCell (Below.setCell (Below.setCell (Sgy.out) (show w7.heap.size ≤ gy from Nat.le_of_eq Egy.out.symm) _) (show w7.heap.size ≤ gy from Nat.le_of_eq Egy.out.symm) _) (show w7.heap.size ≤ gy from Nat.le_of_eq Egy.out.symm) _) (show w7.heap.size ≤ gy from Nat.le_of_eq Egy.out.symm) _) (show w7.heap.size ≤ gy from Nat.le_of_eq Egy.out.symm) _) (show w7.heap.size ≤ gy from Nat.le_of_eq Egy.out.symm) _); have BY := Aside0.mk (show w9.heap[gy]? = some (.cells #[.int .i64 0, .int .i64 0, .int .i64 5, .int .i64 0, .int .u32 0, .slice none 0 0] 73 (0, 0)) by (rw [hw_]; exact putLi6_0_6 BYa.out (.int .i64 0) (.int .i64 0) (.int .i64 5) (.int .i64 0) (.int .u32 0) (.slice none 0 0))); have HB9 := Aside0.mk (below_step HB7.out hb); have HX9 := Aside0.mk (Kd.C_below HX7.out hb); have BX9 := Aside0.mk (blk_below BX7.out hb); have zx0 := (blk_cell BX9.out 0).trans rfl; have zx1 := (blk_cell BX9.out 1).trans rfl; have zx2 := (blk_cell BX9.out 2).trans rfl; have zx3 := (blk_cell BX9.out 3).trans rfl; have zx4 := (blk_cell BX9.out 4).trans rfl; have zx5 := (blk_cell BX9.out 5).trans rfl; have zy0 := (blk_cell BY.out 0).trans rfl; have zy1 := (blk_cell BY.out 1).trans rfl; have zy2 := (blk_cell BY.out 2).trans rfl; have zy3 := (blk_cell BY.out 3).trans rfl; have zy4 := (blk_cell BY.out 4).trans rfl; have zy5 := (blk_cell BY.out 5).trans rfl; have hcv := Kd.C_string (P := Try.prog) (A := Ax) (c := cx) Try.underlying40 Try.underlying5 Try.underlying9 HX9.out; have hcv2 : (convert 40 9 (.slice Ax 1 cx)).run Try.prog w9 = .ok (.string ⟨#[97]⟩) w9 := (by have h_ := hcv; rwa [show strOfNums [97] = (⟨#[97]⟩ : ByteArray) from by rfl] at h_); clear hcv; clear hw_ hb))
 go_ret
 exact ⟨rfl, HB9.out⟩


end Go.Proofs.Ytffefaiaifhokaa.PT
