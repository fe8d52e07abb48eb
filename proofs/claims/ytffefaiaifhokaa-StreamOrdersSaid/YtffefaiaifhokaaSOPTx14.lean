-- PRINTED by gprint.py (a session's own driver over the kit's print): not trusted; Lean checks it.
import Derived.Test.YtffefaiaifhokaaSOPTx0
import Derived.Test.YtffefaiaifhokaaSOPTx6
import Derived.Test.YtffefaiaifhokaaSOPTx7
namespace Go.Proofs.Ytffefaiaifhokaa.PT
open Go.RowKit Go.Proofs.YtffefaiaifhokaaW.PrintWords Go.Proofs.YtffefaiaifhokaaW.PrintLast Go.Proofs.YtffefaiaifhokaaW.PrintMore
set_option linter.unusedVariables false
set_option linter.unusedSimpArgs false

/-! ### stream_Stream_tidy: function 35 -/
-- GIVEN-ALONE: typed by mk_orders.py
/-- A map's items, over what a value is good for. -/
structure DX (D : DataW Value) (X : List S42) (P : S42 → Value → Prop) : Prop where
 tidy : Maps.Tidy D
 size : Maps.size D = X.length
 has : ∀ t, Maps.has D (.int .i64 t) = X.any (fun x => x.f0 == t)
 at_ : ∀ x ∈ X, ∃ v, P x v ∧ ∀ z, D.atKey (.int .i64 x.f0) z = .held v
 apart : X.Pairwise (fun x y => x.f0 ≠ y.f0)
def putI (x : S42) (X : List S42) : List S42 := x :: X.filter (fun y => !(y.f0 == x.f0))
def getI (X : List S42) (t : Int) : Option S42 := X.find? (fun x => x.f0 == t)
theorem getI_some {X : List S42} {t : Int} {x : S42} (h : getI X t = some x) : x ∈ X ∧ x.f0 = t := ⟨List.mem_of_find?_eq_some h, by have := List.find?_some h; simpa using this⟩
theorem DX.nil (P : S42 → Value → Prop) : DX (.map []) [] P := ⟨Maps.tidy_empty, rfl, fun _ => rfl, fun _ h => absurd h (by simp), List.Pairwise.nil⟩
theorem DX.mono {D : DataW Value} {X : List S42} {P Q : S42 → Value → Prop} (h : DX D X P) (hq : ∀ x ∈ X, ∀ v, P x v → Q x v) : DX D X Q := ⟨h.tidy, h.size, h.has, fun x hx => by obtain ⟨v, h1, h2⟩ := h.at_ x hx; exact ⟨v, hq x hx v h1, h2⟩, h.apart⟩
theorem keyI (t : Int) : WideAt.IsKeyLit (.int .i64 t) := by trivial
theorem lit_ne {a b : Int} (h : a ≠ b) : Lit.int .i64 a ≠ Lit.int .i64 b := fun e => h (Lit.int.inj e).2
theorem any_filter_ne (X : List S42) (t s : Int) : (X.filter (fun y => !(y.f0 == s))).any (fun x => x.f0 == t) = (X.any (fun x => x.f0 == t) && !(s == t)) := by
 rw [Bool.eq_iff_iff]
 simp only [List.any_filter, List.any_eq_true, Bool.and_eq_true, Bool.not_eq_true', beq_iff_eq, beq_eq_false_iff_ne, ne_eq]
 exact ⟨fun ⟨x, hx, h1, h2⟩ => ⟨⟨x, hx, h2⟩, fun e => h1 (h2.trans e.symm)⟩, fun ⟨⟨x, hx, h2⟩, h1⟩ => ⟨x, hx, fun e => h1 (e.symm.trans h2), h2⟩⟩
theorem DX.del {D : DataW Value} {X : List S42} {P : S42 → Value → Prop} (h : DX D X P) (t : Int) : DX (D.del (.int .i64 t)) (X.filter (fun y => !(y.f0 == t))) P := by
 refine ⟨h.tidy.del _, ?_, fun s => ?_, fun x hx => ?_, h.apart.filter _⟩
 ·
  have h1 := Maps.size_del (k := .int .i64 t) h.tidy
  rw [h.has, h.size] at h1
  have h2 : ∀ l : List S42, l.Pairwise (fun x y => x.f0 ≠ y.f0) → (l.filter (fun y => !(y.f0 == t))).length + (if l.any (fun x => x.f0 == t) then 1 else 0) = l.length := by
   intro l
   induction l with
   | nil => intro _; rfl
   | cons y r ih =>
    intro hp
    obtain ⟨h3, h4⟩ := List.pairwise_cons.1 hp
    have ih := ih h4
    by_cases e : y.f0 = t
    ·
     have hr : r.any (fun x => x.f0 == t) = false := by rw [List.any_eq_false]; intro p hp2 hpk; exact h3 p hp2 (e.trans (by simpa using hpk : p.f0 = t).symm)
     rw [hr] at ih
     simp [e] at ih ⊢
     exact ih
    simp [e] at ih ⊢
    omega
  have h5 := h2 X h.apart
  omega
 ·
  by_cases e : s = t
  ·
   subst e
   rw [Maps.has_del_same, any_filter_ne]; simp
  rw [Maps.has_del_other (lit_ne e), h.has, any_filter_ne]; simp [Ne.symm e]
 obtain ⟨hx1, hx2⟩ := List.mem_filter.1 hx
 obtain ⟨v, h1, h2⟩ := h.at_ x hx1
 exact ⟨v, h1, fun z => by rw [Maps.atKey_del_other (lit_ne (by simpa using hx2))]; exact h2 z⟩
theorem DX.put {D : DataW Value} {X : List S42} {P : S42 → Value → Prop} (h : DX D X P) (x : S42) (v : Value) (hv : P x v) : DX (D.put (.int .i64 x.f0) (.held v)) (putI x X) P := by
 have hd := h.del x.f0
 refine ⟨h.tidy.put (keyI _) _, ?_, fun s => ?_, fun y hy => ?_, List.pairwise_cons.2 ⟨fun y hy e => ?_, hd.apart⟩⟩
 ·
  have h1 := Maps.size_del (k := .int .i64 x.f0) h.tidy
  rw [Maps.size_put h.tidy]
  have h2 := hd.size
  show _ = (X.filter (fun y => !(y.f0 == x.f0))).length + 1
  rw [← h2]
  cases hh : Maps.has D (.int .i64 x.f0)
  ·
   rw [hh] at h1; simp at h1 ⊢; exact h1.symm
  rw [hh] at h1; simp at h1 ⊢; exact h1.symm
 ·
  show _ = ((x.f0 == s) || (X.filter (fun y => !(y.f0 == x.f0))).any (fun x => x.f0 == s))
  by_cases e : s = x.f0
  ·
   subst e
   rw [Maps.has_put_same h.tidy.isMap (keyI _)]; simp
  have e2 : (x.f0 == s) = false := by simpa using Ne.symm e
  rw [Maps.has_put_other (lit_ne e), h.has, any_filter_ne, e2, Bool.not_false, Bool.and_true, Bool.false_or]
 ·
  rcases List.mem_cons.1 hy with rfl | hy
  ·
   exact ⟨v, hv, fun z => Maps.atKey_put_same h.tidy.isMap (keyI _) _ _⟩
  obtain ⟨v2, h1, h2⟩ := h.at_ y (List.mem_filter.1 hy).1
  exact ⟨v2, h1, fun z => by rw [Maps.atKey_put_other (lit_ne (by have := (List.mem_filter.1 hy).2; simpa using this))]; exact h2 z⟩
 have := (List.mem_filter.1 hy).2
 simp [e] at this
theorem DX.get {D : DataW Value} {X : List S42} {P : S42 → Value → Prop} (h : DX D X P) {t : Int} {x : S42} (hx : getI X t = some x) : ∃ v, P x v ∧ ∀ z, D.atKey (.int .i64 t) z = .held v := by
 obtain ⟨h1, rfl⟩ := getI_some hx
 exact h.at_ x h1
theorem DX.hasI {D : DataW Value} {X : List S42} {P : S42 → Value → Prop} (h : DX D X P) (t : Int) : Maps.has D (.int .i64 t) = (getI X t).isSome := by
 rw [h.has, getI, Bool.eq_iff_iff, List.find?_isSome, List.any_eq_true]
theorem DX.miss {D : DataW Value} {X : List S42} {P : S42 → Value → Prop} (h : DX D X P) {t : Int} (hx : getI X t = none) (z : DataW Value) : D.atKey (.int .i64 t) z = z := Maps.atKey_of_not_has (by rw [h.hasI, hx]; rfl) z
theorem DX.mem {D : DataW Value} {X : List S42} {P : S42 → Value → Prop} (h : DX D X P) {t : Int} (ht : Maps.has D (.int .i64 t) = true) : ∃ x, getI X t = some x := by
 rw [h.hasI] at ht
 exact Option.isSome_iff_exists.1 ht
/-- An item's value: its body lies in blocks of ok. -/
def ItOk (W : World) (ok : Nat → Prop) (x : S42) (v : Value) : Prop := ∃ A c, v = .agg #[.int .i64 x.f0, .int .u32 x.f1, .slice A x.f2.length c] ∧ x.f2.length ≤ c ∧ Kd.F (Kd.int .u8) W ok A x.f2.length x.f2
/-- Block b is a map of these items. -/
def MapS (W : World) (b : Nat) (ok : Nat → Prop) (X : List S42) : Prop := ∃ D, Mp W b X.length D ∧ DX D X (ItOk W ok)
theorem Mp.trim {W : World} {b n m : Nat} {D : DataW Value} (h : Mp W b n D) (hm : Maps.size D = m) : Mp W b m D := by
 obtain ⟨es, clock, hb, F, hs, hD⟩ := h
 refine ⟨es, clock, hb, F, Nat.le_of_eq ?_, hD⟩
 rw [← hm, hD]
 exact ((length_sorted _).trans (by simp)).symm
theorem ItOk.step {W W1 : World} {ok ok' : Nat → Prop} {x : S42} {v : Value} (h : ItOk W ok x v) (hm : ∀ k, ok k → k < W.heap.size → W1.heap[k]? = W.heap[k]?) (ho : ∀ k, ok k → ok' k) : ItOk W1 ok' x v := by
 obtain ⟨A, c, h1, h2, h3⟩ := h
 exact ⟨A, c, h1, h2, Kd.F_mono (Kd.F_step h3 hm) ho⟩
theorem MapS.step {W W1 : World} {b : Nat} {ok : Nat → Prop} {X : List S42} (h : MapS W b ok X) (hb : W1.heap[b]? = W.heap[b]?) (hm : ∀ k, ok k → k < W.heap.size → W1.heap[k]? = W.heap[k]?) : MapS W1 b ok X := by
 obtain ⟨D, h1, h2⟩ := h
 exact ⟨D, h1.step hb, h2.mono (fun x _ v hv => hv.step hm (fun _ h => h))⟩
theorem MapS.lt {W : World} {b : Nat} {ok : Nat → Prop} {X : List S42} (h : MapS W b ok X) : b < W.heap.size := by
 obtain ⟨D, h1, _⟩ := h
 exact World.ownsMap.lt h1
theorem MapS.below {W W1 : World} {b : Nat} {ok : Nat → Prop} {X : List S42} (h : MapS W b ok X) (hb : Below W.heap.size W W1) : MapS W1 b ok X := h.step (hb.block b h.lt) (fun k _ hk => hb.block k hk)
theorem MapS.mono {W : World} {b : Nat} {ok ok' : Nat → Prop} {X : List S42} (h : MapS W b ok X) (ho : ∀ k, ok k → ok' k) : MapS W b ok' X := by
 obtain ⟨D, h1, h2⟩ := h
 exact ⟨D, h1, h2.mono (fun x _ v hv => hv.step (fun _ _ _ => rfl) ho)⟩
theorem MapS.bound {W : World} {b : Nat} {ok : Nat → Prop} {X : List S42} (h : MapS W b ok X) : MapS W b (fun k => ok k ∧ k < W.heap.size) X := by
 obtain ⟨D, h1, h2⟩ := h
 exact ⟨D, h1, h2.mono (fun x _ v hv => by obtain ⟨A, c, e1, e2, e3⟩ := hv; exact ⟨A, c, e1, e2, Kd.F_bound e3⟩)⟩
theorem MapS.nil {W : World} {b : Nat} (ok : Nat → Prop) (h : Mp W b 0 (.map [])) : MapS W b ok [] := ⟨_, h, DX.nil _⟩
theorem below_none {W W1 : World} (h : Below W.heap.size W W1) : W.grownBy W1 none := ⟨h.os, h.tape, h.output, h.size, fun i hi _ => h.block i hi⟩
def keepI (k : Nat) (K : List S38) (x : S42) : Bool := span_At.f k K x.f0 == some 1
def stream_Stream_tidy.f : Option Int := some 0
theorem filter_all {α : Type} (p : α → Bool) (l : List α) (h : ∀ x ∈ l, p x = true) : l.filter p = l := List.filter_eq_self.2 h
theorem filter_strike (X : List S42) (left keep : S42 → Bool) (t : Int) (hk : ∀ x ∈ X, x.f0 = t → keep x = false) : ((X.filter (fun x => left x || keep x)).filter (fun y => !(y.f0 == t))) = X.filter (fun x => (left x && !(x.f0 == t)) || keep x) := by
 rw [List.filter_filter]
 apply List.filter_congr
 intro x hx
 have := hk x hx
 cases left x <;> cases h2 : keep x <;> cases h3 : (x.f0 == t) <;> simp_all
theorem filter_keep (X : List S42) (left keep : S42 → Bool) (t : Int) (hk : ∀ x ∈ X, x.f0 = t → keep x = true) : X.filter (fun x => left x || keep x) = X.filter (fun x => (left x && !(x.f0 == t)) || keep x) := by
 apply List.filter_congr
 intro x hx
 have := hk x hx
 cases left x <;> cases h2 : keep x <;> cases h3 : (x.f0 == t) <;> simp_all
theorem sameKey_int (a b : Int) : (Lit.int .i64 a).sameKey (.int .i64 b) = (a == b) := by
 by_cases e : a = b
 ·
  subst e; rw [WideAt.sameKey_self (by trivial)]; simp
 rw [Maps.sameKey_ne (lit_ne e)]; simp [e]
set_option maxHeartbeats 20000000 in
set_option maxRecDepth 100000 in
theorem stream_Stream_tidy.calls (k g b : Nat) (ok : Nat → Prop) (K : List S38) (X : List S42) (A0 : Option Addr) (c0 : Nat) (w : World) (hb : w.heap[g]? = some (.cells #[.slice A0 K.length c0, .map (some b)] 81 (0, 0))) (hr0 : Kd.F k38 w ok A0 K.length K) (hc0 : K.length ≤ c0) (hm : MapS w b ok X) (hok : ∀ k, ok k → k ≠ g ∧ k ≠ b) (hgb : g ≠ b) (hAt : ∀ x ∈ X, ∃ r, span_At.f k K x.f0 = some r) :
 Calls Try.prog 35 #[.pointer (some ⟨g, 0, none⟩)] w fun e w' => e = .returned (.tuple #[]) ∧ MapS w' b ok (X.filter (keepI k K)) ∧ w.grownBy w' (some b) := by
 have hu := Try.underlying81
 have z1 := (blk_cell hb 1).trans rfl
 have HR0 := Aside0.mk hr0
 have HC0 := Aside0.mk hc0
 have HOK := Aside0.mk hok
 have HGB := Aside0.mk hgb
 have HAT := Aside0.mk hAt
 obtain ⟨D, hD, hX⟩ := hm
 have BG0 := Aside0.mk hb
 have HLT := Aside0.mk (blk_lt hb)
 have HLB := Aside0.mk (World.ownsMap.lt hD)
 have HX0 := Aside0.mk hX
 have HD0 := Aside0.mk hD
 clear hr0 hc0 hok hgb hAt hb hX hD
 go_enter Try.func35, Try.ntmps35
 go_wp2_with (first | ((with_reducible refine gate_dst (N := 7) rfl ?_); refine wpList_range_own _ rfl _ 79 rfl 3 42 (Go.Maps.int_keyed Try.underlying3) Try.underlying79 R0 b X.length D rfl HD0.out ?_; intro w1 hrg hg hs; have HRG := Aside0.mk hrg; have HGR := Aside0.mk hg; have HSZ := Aside0.mk hs; clear hrg hg hs))
 (try simp only [Act.put, List.setIfInBounds_toArray, List.set_cons_zero, List.set_cons_succ])
 go_loopw [] (fun w' => ∃ left cnt D', Aside0 (w'.ranges Try.prog 3 R0 b w.heap.size X.length D' left cnt) ∧ Aside0 (DX D' (X.filter (fun x => left (.int .i64 x.f0) || keepI k K x)) (ItOk w ok)) ∧ Aside0 (w.grownBy w' (some b)) ∧ Aside0 (w.heap.size < w'.heap.size) ∧ Aside0 (∀ t, left t = true → Maps.has D' t = true)) (fun w' => w'.rangeLeft b w.heap.size)
 case atStart => exact ⟨_, _, D, HRG, ⟨by rw [filter_all _ _ (fun x hx => by rw [HX0.out.has]; simp; exact Or.inl ⟨x, hx, rfl⟩)]; exact HX0.out⟩, ⟨HGR.out.but _⟩, ⟨by have := HSZ.out; omega⟩, ⟨fun _ h => h⟩⟩
 case round =>
  clear HRG HGR HSZ
  obtain ⟨left, cnt, D', HRG2, HX2, HGW, HSZ2, HLF⟩ := hrel
  go_wp2_with (first | ((with_reducible refine gate_dst (N := 8) rfl ?_); refine wpList_next_ranges _ rfl _ rfl 3 (Go.Maps.int_keyed Try.underlying3) R0 (Value.int .i64) (fun v : Value => v) (fun key kl h => by obtain ⟨x, h1, _, _⟩ := Go.Maps.keyOf_int_inv Try.underlying3 h; exact ⟨x, h1⟩) (fun v y _ => ⟨v, rfl⟩) b w.heap.size X.length D' left cnt rfl HRG2.out ?_ ?_; rotate_left; intro x c kl y w2 cnt2 hkey hlk hv hat hrg hlt hgr hsz hen; obtain ⟨x_, e1, rfl, hwf⟩ := Go.Maps.keyOf_int_inv Try.underlying3 hkey; obtain rfl : x = x_ := (Value.int.inj e1).2; clear e1; have HRG3 := Aside0.mk hrg; have HLK := Aside0.mk hlk; have HLT3 := Aside0.mk hlt; have HGR3 := Aside0.mk hgr; have HKEY := Aside0.mk hkey; have HSZ3 := Aside0.mk hsz; have HG3 := Aside0.mk (HGW.out.andThen hgr (fun j e_ => Or.inl (by rw [← Option.some.inj e_]; exact Nat.le_refl _))); have BG3 := Aside0.mk (show w2.heap[g]? = some (.cells #[.slice A0 K.length c0, .map (some b)] 81 (0, 0)) from (HG3.out.block g HLT.out (fun e_ => HGB.out (Option.some.inj e_))).trans BG0.out); have zg3_0 := (blk_cell BG3.out 0).trans rfl; have zg3_1 := (blk_cell BG3.out 1).trans rfl; have HR3 := Aside0.mk (Kd.F_step HR0.out (fun k_ hk_ hlt_ => HG3.out.block k_ hlt_ (fun e_ => (HOK.out k_ hk_).2 (Option.some.inj e_)))); clear hkey hlk hv hat hrg hlt hgr hsz; obtain ⟨y, hy⟩ := HX2.out.mem (HLF.out _ HLK.out); have HY := Aside0.mk hy; obtain ⟨r0, hr0⟩ : ∃ r, span_At.f k K x = some r := (by obtain ⟨h1, h2⟩ := getI_some HY.out; obtain ⟨r, hr⟩ := HAT.out y (List.mem_filter.1 h1).1; rw [h2] at hr; exact ⟨r, hr⟩); have HRA := Aside0.mk hr0; clear hr0 hy; (rcases Decidable.em (r0 = 1) with e1 | e1); rotate_left; have E1 := Aside0.mk e1; have q1 : (r0 != 1) = true := (by simpa using e1); clear e1; rotate_left; rotate_left; subst e1; rotate_left; rotate_left; intro hc0 hl0) | ((with_reducible refine gate_dst (N := 17) rfl ?_); (try (refine gate_guard (by rfl) ?_; dsimp only)); refine goesL_ (some 17) rfl rfl Try.func36 (by kernel_rfl) rfl #[.slice A0 K.length c0, .int .i64 x] rfl (by (try simp only [List.map_toArray, List.map_cons, List.map_nil]); first | done | rfl | (simp only [List.length_drop, List.length_take]; rfl)) ?_; refine (span_At.calls k A0 c0 K x _ _ (Kd.F_now HR3.out) HC0.out HRA.out).mono ?_; rintro e_ w3 ⟨rfl, hb⟩; refine ⟨_, rfl, ?_⟩; have HB4 := Aside0.mk hb; have HG4 := Aside0.mk (HG3.out.andThen (below_none hb) (fun j e_ => by simp at e_)); have BG4 := Aside0.mk (blk_below BG3.out hb); have zg4_0 := (blk_cell BG4.out 0).trans rfl; have zg4_1 := (blk_cell BG4.out 1).trans rfl; have HRG4 := Aside0.mk (HRG3.out.kept (below_none hb) (by simp) (by simp)); clear hb) | ((with_reducible refine gate_builtin (b := .delete) rfl ?_); refine wpList_delete_ranges _ rfl _ _ 79 3 rfl 42 (Go.Maps.int_keyed Try.underlying3) Try.underlying79 R0 b w.heap.size X.length D' _ _ rfl HRG4.out (.int .i64 x) (.int .i64 x) rfl HKEY.out ?_; intro w4 cnt4 hrg hle htn; have HRG5 := Aside0.mk hrg; have HLE := Aside0.mk hle; have HTN := Aside0.mk htn.grown; clear hrg hle htn; (try simp only [Act.put])))
  ·
   go_end0
   refine ⟨rfl, ⟨D', ?_, ?_⟩, HGW.out⟩
   ·
    have h := HRG2.out.owns
    have h2 := HX2.out.size
    simp only [hl0, Bool.false_or] at h2
    exact Mp.trim h h2
   have h2 := HX2.out
   simp only [hl0, Bool.false_or] at h2
   exact h2.mono (fun y _ v hv => hv.step (fun k_ hk_ hlt_ => HGW.out.block k_ hlt_ (fun e_ => (HOK.out k_ hk_).2 (Option.some.inj e_))) (fun _ h => h))
  ·
   refine ⟨⟨_, cnt2, D', HRG4, ⟨?_⟩, HG4, ⟨?_⟩, ⟨fun t ht => HLF.out t (by simp only [Bool.and_eq_true] at ht; exact ht.1)⟩⟩, ?_⟩
   ·
    have h := HX2.out
    rw [filter_keep X (fun y => left (.int .i64 y.f0)) (keepI k K) x (fun z hz e => by simp [keepI, e, HRA.out])] at h
    simpa only [sameKey_int] using h
   ·
    have := HB4.out.size; have := HSZ3.out; have := HSZ2.out; omega
   rw [HRG4.out.left_eq, HRG2.out.left_eq]; exact HLT3.out
  have HRG6 := Aside0.mk HRG5.out
  rw [Maps.strike_twice] at HRG6
  refine ⟨⟨_, cnt4, _, HRG6, ⟨?_⟩, ⟨HG4.out.andThen HTN.out (fun j e_ => Or.inr e_)⟩, ⟨?_⟩, ⟨fun t ht => ?_⟩⟩, ?_⟩
  ·
   have h := HX2.out.del x
   rw [filter_strike X (fun y => left (.int .i64 y.f0)) (keepI k K) x (fun z hz e => by simp [keepI, e, HRA.out, E1.out])] at h
   simpa only [sameKey_int] using h
  ·
   have := HB4.out.size; have := HSZ3.out; have := HSZ2.out; have := HTN.out.size; omega
  ·
   simp only [Bool.and_eq_true, Bool.not_eq_true'] at ht
   rw [Maps.has_del_other (fun e => by rw [e, WideAt.sameKey_self (keyI x)] at ht; simp at ht)]
   exact HLF.out t ht.1
  rw [HRG6.out.left_eq, HRG2.out.left_eq]; have := HLT3.out; have := HLE.out; omega


end Go.Proofs.Ytffefaiaifhokaa.PT
