-- PRINTED by gprint.py (a session's own driver over the kit's print): not trusted; Lean checks it.
import Derived.Test.YtffefaiaifhokaaSOPTx0
import Derived.Test.YtffefaiaifhokaaSOPTx6
import Derived.Test.YtffefaiaifhokaaSOPTx14
namespace Go.Proofs.Ytffefaiaifhokaa.PT
open Go.RowKit Go.Proofs.YtffefaiaifhokaaW.PrintWords Go.Proofs.YtffefaiaifhokaaW.PrintLast Go.Proofs.YtffefaiaifhokaaW.PrintMore
set_option linter.unusedVariables false
set_option linter.unusedSimpArgs false

/-! ### api_Item_43: function 43 -/
-- GIVEN-ALONE: typed by mk_orders.py
theorem putEf3_0_3 {W : World} {g t : Nat} {c0 c1 c2 : Value} (h : W.heap[g]? = some (.cells #[c0, c1, c2] t (0, 0))) (d0 d1 d2 : Value) : (((W.setCell ⟨g, 0, none⟩ d0).setCell ⟨g, 1, none⟩ d1).setCell ⟨g, 2, none⟩ d2).heap[g]? = some (.cells #[d0, d1, d2] t (0, 0)) := by
 have h0 : (W.setCell ⟨g, 0, none⟩ d0).heap[g]? = some (.cells #[d0, c1, c2] t (0, 0)) := blk_put h 0 _ rfl
 have h1 : ((W.setCell ⟨g, 0, none⟩ d0).setCell ⟨g, 1, none⟩ d1).heap[g]? = some (.cells #[d0, d1, c2] t (0, 0)) := blk_put h0 1 _ rfl
 exact blk_put h1 2 _ rfl
theorem zero_item (w : World) : (zeroValue 42).run Try.prog w = .ok (.agg #[.int .i64 0, .int .u32 0, .slice none 0 0]) w := by kernel_rfl
set_option maxRecDepth 100000 in
theorem MapS.look_some {W : World} {b : Nat} {ok : Nat → Prop} {X : List S42} (h : MapS W b ok X) {t : Int} (hw : (Lit.int .i64 t).wf = true) {x : S42} (hx : getI X t = some x) : ∃ A c, (Instr.lookup 79 (.map (some b)) (.int .i64 t) true).run Try.prog W = .ok (.tuple #[.agg #[.int .i64 x.f0, .int .u32 x.f1, .slice A x.f2.length c], .bool true]) W ∧ (Instr.lookup 79 (.map (some b)) (.int .i64 t) false).run Try.prog W = .ok (.agg #[.int .i64 x.f0, .int .u32 x.f1, .slice A x.f2.length c]) W ∧ x.f2.length ≤ c ∧ Kd.F (Kd.int .u8) W ok A x.f2.length x.f2 := by
 obtain ⟨D, hD, hX⟩ := h
 obtain ⟨v, ⟨A, c, rfl, h1, h2⟩, hat⟩ := hX.get hx
 refine ⟨A, c, ?_, ?_, h1, h2⟩
 ·
  obtain ⟨v, ps, hrun, hv⟩ := World.ownsMap.look_ok hD (Go.Maps.int_keyed Try.underlying3) Try.underlying79 (zero_item W) (zd := .held (.agg #[.int .i64 0, .int .u32 0, .slice none 0 0])) (zp := []) rfl (Go.Maps.keyOf_int_mk Try.underlying3 hw)
  have hv2 := (Prod.mk.inj (Option.some.inj hv)).1
  rw [hat] at hv2
  injection hv2 with hv3
  rw [hrun, ← hv3, hX.hasI, hx]; rfl
 obtain ⟨v, ps, hrun, hv⟩ := World.ownsMap.lookup hD (Go.Maps.int_keyed Try.underlying3) Try.underlying79 (zero_item W) (zd := .held (.agg #[.int .i64 0, .int .u32 0, .slice none 0 0])) (zp := []) rfl (Go.Maps.keyOf_int_mk Try.underlying3 hw)
 have hv2 := (Prod.mk.inj (Option.some.inj hv)).1
 rw [hat] at hv2
 injection hv2 with hv3
 rw [hrun, ← hv3]
set_option maxRecDepth 100000 in
theorem MapS.look_none {W : World} {b : Nat} {ok : Nat → Prop} {X : List S42} (h : MapS W b ok X) {t : Int} (hw : (Lit.int .i64 t).wf = true) (hx : getI X t = none) : (Instr.lookup 79 (.map (some b)) (.int .i64 t) true).run Try.prog W = .ok (.tuple #[.agg #[.int .i64 0, .int .u32 0, .slice none 0 0], .bool false]) W := by
 obtain ⟨D, hD, hX⟩ := h
 obtain ⟨v, ps, hrun, hv⟩ := World.ownsMap.look_ok hD (Go.Maps.int_keyed Try.underlying3) Try.underlying79 (zero_item W) (zd := .held (.agg #[.int .i64 0, .int .u32 0, .slice none 0 0])) (zp := []) rfl (Go.Maps.keyOf_int_mk Try.underlying3 hw)
 have hv2 := (Prod.mk.inj (Option.some.inj hv)).1
 rw [hX.miss hx] at hv2
 injection hv2 with hv3
 rw [hrun, ← hv3, hX.hasI, hx]; rfl
set_option maxRecDepth 100000 in
theorem MapS.len {W : World} {b : Nat} {ok : Nat → Prop} {X : List S42} (h : MapS W b ok X) (ty : TypeId) : (Builtin.len_ #[79] ty #[.map (some b)]).run Try.prog W = .ok (.int .i64 (X.length : Int)) W := by
 obtain ⟨D, hD, hX⟩ := h
 rw [World.ownsMap.len hD Try.underlying79 ty, hX.size]
theorem below_map {B b : Nat} {W W1 : World} (hg : W.grownBy W1 (some b)) (hB : B ≤ b) (hW : B ≤ W.heap.size) : Below B W W1 := ⟨hg.os, hg.tape, hg.output, hg.size, fun i hi => hg.block i (Nat.lt_of_lt_of_le hi hW) (fun e_ => by have := Option.some.inj e_; omega)⟩
theorem apart_inj : ∀ {X : List S42}, X.Pairwise (fun x y => x.f0 ≠ y.f0) → ∀ {a b : S42}, a ∈ X → b ∈ X → a.f0 = b.f0 → a = b
 | [], _, _, _, h, _, _ => absurd h (by simp)
 | x :: r, hp, a, b, ha, hb, e => by
  obtain ⟨h1, h2⟩ := List.pairwise_cons.1 hp
  rcases List.mem_cons.1 ha with ea | ha2 <;> rcases List.mem_cons.1 hb with eb | hb2
  ·
   rw [ea, eb]
  ·
   exact absurd (ea ▸ e) (h1 b hb2)
  ·
   exact absurd (eb ▸ e).symm (h1 a ha2)
  exact apart_inj h2 ha2 hb2 e
def eq1 (X2 : List S42) (x : S42) : Bool := match getI X2 x.f0 with | some y => x.f1 == y.f1 | none => false
def eqFor (X1 X2 : List S42) : Bool := (X1.length == X2.length) && X1.all (eq1 X2)
def api_Item_43.f : Option Int := some 0
set_option maxHeartbeats 4000000 in
theorem learn1_calls (a b c d : Int) (A B : Value) (w : World) : Calls Try.prog 44 #[.agg #[.int .i64 a, .int .u32 b, A], .agg #[.int .i64 c, .int .u32 d, B]] w fun e w' => e = .returned (.bool (b == d)) ∧ Below w.heap.size w w' := by
 have hu := Try.underlying42
 go_enter Try.func44, Try.ntmps44
 go_wp2_with (first | ((with_reducible refine gate_dst (N := 2) rfl ?_); refine box_event ?hg (N := 2) ?hd (cs := #[.int .i64 a, .int .u32 b, A]) (t := 42) ?hr ?_; (case hd => rfl); (case hg => rfl); (case hr => first | (go_simp; done) | (go_simp; rfl)); intro ga hg w1 hbox hb; have HB1 := Aside0.mk hb; have Gga := Aside0.mk (show w.heap.size ≤ ga by rw [hg]; exact Nat.le_refl _); have Ega := Aside0.mk hg; have BA1 := Aside0.mk hbox; have zBA1_0 : w1.cell? ⟨ga, 0, none⟩ = some (.int .i64 a) := (blk_cell BA1.out 0).trans rfl; have fBA1_0 := blk_frozen BA1.out 0; have zBA1_1 : w1.cell? ⟨ga, 1, none⟩ = some (.int .u32 b) := (blk_cell BA1.out 1).trans rfl; have fBA1_1 := blk_frozen BA1.out 1; have zBA1_2 : w1.cell? ⟨ga, 2, none⟩ = some (A) := (blk_cell BA1.out 2).trans rfl; have fBA1_2 := blk_frozen BA1.out 2; clear hb hbox hg) | ((with_reducible refine gate_dst (N := 3) rfl ?_); refine box_event ?hg (N := 3) ?hd (cs := #[.int .i64 c, .int .u32 d, B]) (t := 42) ?hr ?_; (case hd => rfl); (case hg => rfl); (case hr => first | (go_simp; done) | (go_simp; rfl)); intro gb hg w2 hbox hb; have HB2 := Aside0.mk (below_step HB1.out hb); have BA2 := Aside0.mk (blk_below BA1.out hb); have Ggb := Aside0.mk (show w.heap.size ≤ gb by (rw [hg]; exact below_size HB1.out)); have Nga_gb := Aside0.mk (show ga ≠ gb from fun e_ => absurd (blk_lt BA1.out) (by rw [e_, hg]; exact Nat.lt_irrefl _)); have Egb := Aside0.mk hg; have BB2 := Aside0.mk hbox; have zBB2_0 : w2.cell? ⟨gb, 0, none⟩ = some (.int .i64 c) := (blk_cell BB2.out 0).trans rfl; have fBB2_0 := blk_frozen BB2.out 0; have zBB2_1 : w2.cell? ⟨gb, 1, none⟩ = some (.int .u32 d) := (blk_cell BB2.out 1).trans rfl; have fBB2_1 := blk_frozen BB2.out 1; have zBB2_2 : w2.cell? ⟨gb, 2, none⟩ = some (B) := (blk_cell BB2.out 2).trans rfl; have fBB2_2 := blk_frozen BB2.out 2; have zx_1 := (blk_cell BA2.out 1).trans rfl; clear hb hbox hg))
 go_ret
 exact ⟨rfl, HB2.out⟩
set_option maxHeartbeats 40000000 in
set_option maxRecDepth 100000 in
theorem equalFunc_calls (b1 b2 : Nat) (ok1 ok2 : Nat → Prop) (X1 X2 : List S42) (w : World) (hm1 : MapS w b1 ok1 X1) (hm2 : MapS w b2 ok2 X2) :
 Calls Try.prog 43 #[.map (some b1), .map (some b2), .func (.func 44) #[] #[]] w fun e w' => e = .returned (.bool (eqFor X1 X2)) ∧ Below w.heap.size w w' := by
 have hu := Try.underlying42
 have hl1 := hm1.len
 have hl2 := hm2.len
 by_cases hlen : X1.length = X2.length
 case neg =>
  have q1 : ((X1.length : Int) != (X2.length : Int)) = true := by simp; omega
  go_enter Try.func43, Try.ntmps43
  go_wp2
  go_ret
  exact ⟨by simp [eqFor, hlen], Below.refl _ _⟩
 have q1 : ((X1.length : Int) != (X2.length : Int)) = false := by simp [hlen]
 obtain ⟨D, hD, hX⟩ := hm1
 have HM2 := Aside0.mk hm2
 have HD0 := Aside0.mk hD
 have HX0 := Aside0.mk hX
 have HLEN := Aside0.mk hlen
 clear hm2 hD hX hlen
 go_enter Try.func43, Try.ntmps43
 go_wp2_with (first | ((with_reducible refine gate_dst (N := 17) rfl ?_); refine wpList_range_own _ rfl _ 79 rfl 3 42 (Go.Maps.int_keyed Try.underlying3) Try.underlying79 R0 b1 X1.length D rfl HD0.out ?_; intro w1 hrg hg hs; have HRG := Aside0.mk hrg; have HBL := Aside0.mk (show Below w.heap.size w w1 from ⟨hg.os, hg.tape, hg.output, hg.size, fun i hi => hg.block i hi (by simp)⟩); clear hrg hg hs))
 clear hl1 hl2 q1
 (try simp only [Act.put, List.setIfInBounds_toArray, List.set_cons_zero, List.set_cons_succ])
 go_loopw [] (fun w' => ∃ left cnt, Aside0 (w'.ranges Try.prog 3 R0 b1 w.heap.size X1.length D left cnt) ∧ Aside0 (Below w.heap.size w w') ∧ Aside0 (∀ x ∈ X1, left (.int .i64 x.f0) = false → eq1 X2 x = true) ∧ Aside0 (∀ t, left t = true → Maps.has D t = true)) (fun w' => w'.rangeLeft b1 w.heap.size)
 case atStart => exact ⟨_, _, HRG, ⟨HBL.out⟩, ⟨fun x hx h => by have h2 := HX0.out.has x.f0; rw [h] at h2; simp at h2; exact absurd rfl (h2 x hx)⟩, ⟨fun _ h => h⟩⟩
 case round =>
  clear HRG HBL
  obtain ⟨left, cnt, HRG2, HB1, HE, HLF⟩ := hrel
  go_wp2_with (first | ((with_reducible refine gate_dst (N := 18) rfl ?_); refine wpList_next_ranges _ rfl _ rfl 3 (Go.Maps.int_keyed Try.underlying3) R0 (Value.int .i64) (fun v : Value => v) (fun key kl h => by obtain ⟨x, h1, _, _⟩ := Go.Maps.keyOf_int_inv Try.underlying3 h; exact ⟨x, h1⟩) (fun v y _ => ⟨v, rfl⟩) b1 w.heap.size X1.length D left cnt rfl HRG2.out ?_ ?_; rotate_left; intro x c kl y w2 cnt2 hkey hlk hv hat hrg hlt hgr hsz hen; obtain ⟨x_, e1, rfl, hwf⟩ := Go.Maps.keyOf_int_inv Try.underlying3 hkey; obtain rfl : x = x_ := (Value.int.inj e1).2; clear e1; obtain ⟨x1, hx1⟩ := HX0.out.mem (HLF.out _ hlk); obtain ⟨v, ⟨A1, c1, rfl, hc1, hF1⟩, hat2⟩ := HX0.out.get hx1; (have hv2 := hat (.held c)); rw [hat2, ← (Prod.mk.inj (Option.some.inj hv)).1] at hv2; injection hv2 with hv3; subst hv3; have HX1 := Aside0.mk (getI_some hx1); have e2 := HX1.out.2; subst e2; have HCNT := Aside0.mk HRG2.out.left_eq; have HRG2 := Aside0.mk hrg; have HLT3 := Aside0.mk hlt; have HUNI := Aside0.mk (show ∀ a, a ∈ X1 → ∀ b, b ∈ X1 → a.f0 = b.f0 → a = b from fun a ha b hb_ e_ => apart_inj HX0.out.apart ha hb_ e_); have HWF := Aside0.mk hwf; have HB2 := Aside0.mk (HB1.out.trans (below_map hgr (Nat.le_refl _) HB1.out.size)); clear hkey hlk hv hat hrg hlt hgr hsz hc1 hF1 hat2 hx1 hwf; (rcases hz : getI X2 x1.f0 with _ | z); (have HZN := Aside0.mk hz); clear hz; rotate_left; (have HZS := Aside0.mk hz); clear hz; (rcases Decidable.em (x1.f1 = z.f1) with e1 | e1); have E1 := Aside0.mk e1; have qz : (x1.f1 == z.f1) = true := (by simpa using e1); clear e1; rotate_left; have E1 := Aside0.mk e1; have qz : (x1.f1 == z.f1) = false := (by simpa using e1); clear e1; rotate_left; intro hc0 hl0) | ((with_reducible refine gate_dst (N := 8) rfl ?_); refine box_event ?hg (N := 8) ?hd (cs := #[.int .i64 0, .int .u32 0, .slice none 0 0]) (t := 42) ?hr ?_; (case hd => rfl); (case hg => rfl); (case hr => first | (go_simp; done) | (go_simp; rfl)); intro g1 hg w3 hbox hb; have BVa := Aside0.mk hbox; have Eg1 := Aside0.mk hg; have Sg1 := Aside0.mk hb; have zBVa0 := (blk_cell hbox 0).trans rfl; have zBVa1 := (blk_cell hbox 1).trans rfl; have zBVa2 := (blk_cell hbox 2).trans rfl; have fBVa0 := blk_frozen hbox 0; have fBVa1 := blk_frozen hbox 1; have fBVa2 := blk_frozen hbox 2; clear hbox hg hb) | (have hz_ := HZN.out; clear hz_; (with_reducible refine gate_store (t := 42) (p := 8) (v := .tmp 22) rfl ?_); refine store_event rfl (t := 42) (p := 8) (v := .tmp 22) rfl rfl (w1 := (((w3.setCell ⟨g1, 0, none⟩ (.int .i64 x1.f0)).setCell ⟨g1, 1, none⟩ (.int .u32 x1.f1)).setCell ⟨g1, 2, none⟩ (.slice A1 x1.f2.length c1))) ?hr ?_; (case hr => first | (go_simp; done) | (go_simp; rfl)); intro w4 hw_; have hb : Below w2.heap.size w2 w4 := (by rw [hw_]; exact Below.setCell (Below.setCell (Below.setCell (Sg1.out) (show w2.heap.size ≤ g1 from Nat.le_of_eq Eg1.out.symm) _) (show w2.heap.size ≤ g1 from Nat.le_of_eq Eg1.out.symm) _) (show w2.heap.size ≤ g1 from Nat.le_of_eq Eg1.out.symm) _); have BV := Aside0.mk (show w4.heap[g1]? = some (.cells #[.int .i64 x1.f0, .int .u32 x1.f1, .slice A1 x1.f2.length c1] 42 (0, 0)) by (rw [hw_]; exact putEf3_0_3 BVa.out (.int .i64 x1.f0) (.int .u32 x1.f1) (.slice A1 x1.f2.length c1))); clear hw_; have HB4 := Aside0.mk (below_step HB2.out hb); have HRG4 := Aside0.mk (HRG2.out.kept (below_none hb) (by simp) (by simp)); have zBV4_0 := (blk_cell BV.out 0).trans rfl; have zBV4_1 := (blk_cell BV.out 1).trans rfl; have zBV4_2 := (blk_cell BV.out 2).trans rfl; have fBV4_0 := blk_frozen BV.out 0; have fBV4_1 := blk_frozen BV.out 1; have fBV4_2 := blk_frozen BV.out 2; have hlk := (HM2.out.below HB4.out).look_none HWF.out HZN.out; (try clear hb)) | (have hz_ := HZS.out; clear hz_; (with_reducible refine gate_store (t := 42) (p := 8) (v := .tmp 22) rfl ?_); refine store_event rfl (t := 42) (p := 8) (v := .tmp 22) rfl rfl (w1 := (((w3.setCell ⟨g1, 0, none⟩ (.int .i64 x1.f0)).setCell ⟨g1, 1, none⟩ (.int .u32 x1.f1)).setCell ⟨g1, 2, none⟩ (.slice A1 x1.f2.length c1))) ?hr ?_; (case hr => first | (go_simp; done) | (go_simp; rfl)); intro w4 hw_; have hb : Below w2.heap.size w2 w4 := (by rw [hw_]; exact Below.setCell (Below.setCell (Below.setCell (Sg1.out) (show w2.heap.size ≤ g1 from Nat.le_of_eq Eg1.out.symm) _) (show w2.heap.size ≤ g1 from Nat.le_of_eq Eg1.out.symm) _) (show w2.heap.size ≤ g1 from Nat.le_of_eq Eg1.out.symm) _); have BV := Aside0.mk (show w4.heap[g1]? = some (.cells #[.int .i64 x1.f0, .int .u32 x1.f1, .slice A1 x1.f2.length c1] 42 (0, 0)) by (rw [hw_]; exact putEf3_0_3 BVa.out (.int .i64 x1.f0) (.int .u32 x1.f1) (.slice A1 x1.f2.length c1))); clear hw_; have HB4 := Aside0.mk (below_step HB2.out hb); have HRG4 := Aside0.mk (HRG2.out.kept (below_none hb) (by simp) (by simp)); have zBV4_0 := (blk_cell BV.out 0).trans rfl; have zBV4_1 := (blk_cell BV.out 1).trans rfl; have zBV4_2 := (blk_cell BV.out 2).trans rfl; have fBV4_0 := blk_frozen BV.out 0; have fBV4_1 := blk_frozen BV.out 1; have fBV4_2 := blk_frozen BV.out 2; obtain ⟨A2, c2, hlk, _, hc2, hF2⟩ := (HM2.out.below HB4.out).look_some HWF.out HZS.out; clear hc2 hF2; (try clear hb)) | ((with_reducible refine gate_dst (N := 9) rfl ?_); refine box_event ?hg (N := 9) ?hd (cs := #[.int .i64 0, .int .u32 0, .slice none 0 0]) (t := 42) ?hr ?_; (case hd => rfl); (case hg => rfl); (case hr => first | (go_simp; done) | (go_simp; rfl)); intro g2 hg w5 hbox hb; have BUa := Aside0.mk hbox; have Eg2 := Aside0.mk hg; have Sg2 := Aside0.mk hb; have zBUa0 := (blk_cell hbox 0).trans rfl; have zBUa1 := (blk_cell hbox 1).trans rfl; have zBUa2 := (blk_cell hbox 2).trans rfl; have fBUa0 := blk_frozen hbox 0; have fBUa1 := blk_frozen hbox 1; have fBUa2 := blk_frozen hbox 2; clear hbox hg hb) | (have hz_ := HZS.out; clear hz_; (with_reducible refine gate_store (t := 42) (p := 9) (v := .tmp 27) rfl ?_); refine store_event rfl (t := 42) (p := 9) (v := .tmp 27) rfl rfl (w1 := (((w5.setCell ⟨g2, 0, none⟩ (.int .i64 z.f0)).setCell ⟨g2, 1, none⟩ (.int .u32 z.f1)).setCell ⟨g2, 2, none⟩ (.slice A2 z.f2.length c2))) ?hr ?_; (case hr => first | (go_simp; done) | (go_simp; rfl)); intro w6 hw_; have hb : Below w4.heap.size w4 w6 := (by rw [hw_]; exact Below.setCell (Below.setCell (Below.setCell (Sg2.out) (show w4.heap.size ≤ g2 from Nat.le_of_eq Eg2.out.symm) _) (show w4.heap.size ≤ g2 from Nat.le_of_eq Eg2.out.symm) _) (show w4.heap.size ≤ g2 from Nat.le_of_eq Eg2.out.symm) _); have BU := Aside0.mk (show w6.heap[g2]? = some (.cells #[.int .i64 z.f0, .int .u32 z.f1, .slice A2 z.f2.length c2] 42 (0, 0)) by (rw [hw_]; exact putEf3_0_3 BUa.out (.int .i64 z.f0) (.int .u32 z.f1) (.slice A2 z.f2.length c2))); clear hw_; have HB6 := Aside0.mk (below_step HB4.out hb); have HRG6 := Aside0.mk (HRG4.out.kept (below_none hb) (by simp) (by simp)); have BV6 := Aside0.mk (blk_below BV.out hb); have zBV6_0 := (blk_cell BV6.out 0).trans rfl; have zBV6_1 := (blk_cell BV6.out 1).trans rfl; have zBV6_2 := (blk_cell BV6.out 2).trans rfl; have fBV6_0 := blk_frozen BV6.out 0; have fBV6_1 := blk_frozen BV6.out 1; have fBV6_2 := blk_frozen BV6.out 2; have zBU6_0 := (blk_cell BU.out 0).trans rfl; have zBU6_1 := (blk_cell BU.out 1).trans rfl; have zBU6_2 := (blk_cell BU.out 2).trans rfl; have fBU6_0 := blk_frozen BU.out 0; have fBU6_1 := blk_frozen BU.out 1; have fBU6_2 := blk_frozen BU.out 2; clear hlk; (try clear hb)) | (have hz_ := HZN.out; clear hz_; (with_reducible refine gate_store (t := 42) (p := 9) (v := .tmp 27) rfl ?_); refine store_event rfl (t := 42) (p := 9) (v := .tmp 27) rfl rfl (w1 := (((w5.setCell ⟨g2, 0, none⟩ (.int .i64 0)).setCell ⟨g2, 1, none⟩ (.int .u32 0)).setCell ⟨g2, 2, none⟩ (.slice none 0 0))) ?hr ?_; (case hr => first | (go_simp; done) | (go_simp; rfl)); intro w6 hw_; have hb : Below w4.heap.size w4 w6 := (by rw [hw_]; exact Below.setCell (Below.setCell (Below.setCell (Sg2.out) (show w4.heap.size ≤ g2 from Nat.le_of_eq Eg2.out.symm) _) (show w4.heap.size ≤ g2 from Nat.le_of_eq Eg2.out.symm) _) (show w4.heap.size ≤ g2 from Nat.le_of_eq Eg2.out.symm) _); have BU := Aside0.mk (show w6.heap[g2]? = some (.cells #[.int .i64 0, .int .u32 0, .slice none 0 0] 42 (0, 0)) by (rw [hw_]; exact putEf3_0_3 BUa.out (.int .i64 0) (.int .u32 0) (.slice none 0 0))); clear hw_; have HB6 := Aside0.mk (below_step HB4.out hb); have HRG6 := Aside0.mk (HRG4.out.kept (below_none hb) (by simp) (by simp)); have BV6 := Aside0.mk (blk_below BV.out hb); have zBV6_0 := (blk_cell BV6.out 0).trans rfl; have zBV6_1 := (blk_cell BV6.out 1).trans rfl; have zBV6_2 := (blk_cell BV6.out 2).trans rfl; have fBV6_0 := blk_frozen BV6.out 0; have fBV6_1 := blk_frozen BV6.out 1; have fBV6_2 := blk_frozen BV6.out 2; have zBU6_0 := (blk_cell BU.out 0).trans rfl; have zBU6_1 := (blk_cell BU.out 1).trans rfl; have zBU6_2 := (blk_cell BU.out 2).trans rfl; have fBU6_0 := blk_frozen BU.out 0; have fBU6_1 := blk_frozen BU.out 1; have fBU6_2 := blk_frozen BU.out 2; clear hlk; (try clear hb)) | ((with_reducible refine gate_dst (N := 35) rfl ?_); (try (refine gate_guard (by rfl) ?_; dsimp only)); refine goesL_ (some 35) rfl rfl Try.func44 (by kernel_rfl) rfl #[.agg #[.int .i64 x1.f0, .int .u32 x1.f1, .slice A1 x1.f2.length c1], .agg #[.int .i64 z.f0, .int .u32 z.f1, .slice A2 z.f2.length c2]] rfl (by (try simp only [List.map_toArray, List.map_cons, List.map_nil]); first | done | rfl | (simp only [List.length_drop, List.length_take]; rfl)) ?_; refine (learn1_calls x1.f0 x1.f1 z.f0 z.f1 _ _ _).mono ?_; rintro e_ w7 ⟨rfl, hb⟩; refine ⟨_, rfl, ?_⟩; have HB7 := Aside0.mk (below_step HB6.out hb); have HRG7 := Aside0.mk (HRG6.out.kept (below_none hb) (by simp) (by simp)); clear hb) | (refine skip_guard (by rfl) ?_))
  ·
   go_ret
   refine ⟨?_, HB1.out⟩
   have h : eqFor X1 X2 = true := by simp only [eqFor, Bool.and_eq_true, List.all_eq_true, beq_iff_eq]; exact ⟨HLEN.out, fun x hx => HE.out x hx (hl0 _)⟩
   rw [h]; rfl
  ·
   go_ret
   refine ⟨?_, HB6.out⟩
   have h : eqFor X1 X2 = false := by
    have h1 : eq1 X2 x1 = false := by simp only [eq1, HZN.out]
    have h2 : X1.all (eq1 X2) = false := by rw [List.all_eq_false]; exact ⟨x1, HX1.out.1, by rw [h1]; simp⟩
    rw [eqFor, h2, Bool.and_false]
   rw [h]; rfl
  ·
   have hc := learn1_calls x1.f0 x1.f1 z.f0 z.f1 (.slice A1 x1.f2.length c1) (.slice A2 z.f2.length c2) w6
   refine Calls.mono (P := Try.prog) (f := 44) hc ?_
   rintro e w7 ⟨rfl, hb⟩
   have HB7 := Aside0.mk (below_step HB6.out hb)
   have HRG7 := Aside0.mk (HRG6.out.kept (below_none hb) (by simp) (by simp))
   clear hb
   go_wp2
   refine ⟨⟨_, cnt2, HRG7, HB7, ⟨fun x hx h => ?_⟩, ⟨fun t ht => HLF.out t (by simp only [Bool.and_eq_true] at ht; exact ht.1)⟩⟩, ?_⟩
   ·
    simp only [sameKey_int, Bool.and_eq_false_iff, Bool.not_eq_false'] at h
    rcases h with h | h
    ·
     exact HE.out x hx h
    have e : x.f0 = x1.f0 := by simpa using h
    simp only [eq1, e, HZS.out]
    have e2 : x = x1 := HUNI.out x hx x1 HX1.out.1 e
    rw [e2]; exact qz
   rw [HRG7.out.left_eq, HCNT.out]; exact HLT3.out
  have hc := learn1_calls x1.f0 x1.f1 z.f0 z.f1 (.slice A1 x1.f2.length c1) (.slice A2 z.f2.length c2) w6
  refine Calls.mono (P := Try.prog) (f := 44) hc ?_
  rintro e w7 ⟨rfl, hb⟩
  have HB7 := Aside0.mk (below_step HB6.out hb)
  have HRG7 := Aside0.mk (HRG6.out.kept (below_none hb) (by simp) (by simp))
  clear hb
  go_wp2
  go_ret
  refine ⟨?_, HB7.out⟩
  have h : eqFor X1 X2 = false := by
   have h1 : eq1 X2 x1 = false := by simp only [eq1, HZS.out, qz]
   have h2 : X1.all (eq1 X2) = false := by rw [List.all_eq_false]; exact ⟨x1, HX1.out.1, by rw [h1]; simp⟩
   rw [eqFor, h2, Bool.and_false]
  rw [h]; rfl


end Go.Proofs.Ytffefaiaifhokaa.PT
