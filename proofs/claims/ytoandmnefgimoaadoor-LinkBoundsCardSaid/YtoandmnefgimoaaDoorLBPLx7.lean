import Derived.Test.YtoandmnefgimoaaDoorLBPLx0
import Derived.Test.YtoandmnefgimoaaDoorLBPLx5
import Derived.Test.YtoandmnefgimoaaDoorLBPLx6
namespace Go.Proofs.YtoandmnefgimoaaDoor.PL
open Go.RowKit Go.Proofs.YtoandmnefgimoaaDoorW.PrintWords Go.Proofs.YtoandmnefgimoaaDoorW.PrintLast Go.Proofs.YtoandmnefgimoaaDoorW.PrintMore
set_option linter.unusedVariables false
set_option linter.unusedSimpArgs false
structure KeepT (ts : List TypeId) (w w' : World) : Prop where
 size : w.heap.size ≤ w'.heap.size
 blk : ∀ (i : Nat) (cs : Array Value) (t : TypeId), w.heap[i]? = some (.cells cs t (0, 0)) → t ∉ ts → w'.heap[i]? = some (.cells cs t (0, 0))
theorem KeepT.refl (ts : List TypeId) (w : World) : KeepT ts w w := ⟨Nat.le_refl _, fun _ _ _ h _ => h⟩
theorem KeepT.trans {ts : List TypeId} {a b c : World} (h : KeepT ts a b) (k : KeepT ts b c) : KeepT ts a c := ⟨Nat.le_trans h.size k.size, fun i cs t hi ht => k.blk i cs t (h.blk i cs t hi ht) ht⟩
theorem KeepT.below {ts : List TypeId} {a b c : World} (h : KeepT ts a b) (k : Below b.heap.size b c) : KeepT ts a c := h.trans ⟨k.size, fun _ _ _ hi _ => blk_below hi k⟩
theorem KeepT.drewN {ts : List TypeId} {a b : World} (h : KeepT ts a b) (n : Nat) : KeepT ts a (b.drewN n) := ⟨h.size, h.blk⟩
theorem KeepT.drew {ts : List TypeId} {a b : World} (h : KeepT ts a b) : KeepT ts a b.drew := ⟨h.size, h.blk⟩
theorem KeepT.alloc {ts : List TypeId} {a b : World} (h : KeepT ts a b) (o : Obj) : KeepT ts a (b.alloc o) := h.below (ba_ (Below.refl _ _) o)
theorem KeepT.grown {ts : List TypeId} {a b c : World} (h : KeepT ts a b) {α : Type} {d : Kd α} {e base : Nat} {ok : Nat → Prop} {v : Value} {xs : List α} (hr : Kd.R d e b base ok v xs) (he : e ∈ ts) (hg : b.grownBy c v.ownBlock) : KeepT ts a c :=
 h.trans ⟨hg.size, fun _ _ t hi ht => blk_grown hi hg (Kd.R_ne hr hi (fun e_ => ht (e_ ▸ he)))⟩
theorem KeepT.set {ts : List TypeId} {a b : World} (h : KeepT ts a b) {g t : Nat} {cs : Array Value} (hb : b.heap[g]? = some (.cells cs t (0, 0))) (ht : t ∈ ts) (i : Nat) (u : Value) : KeepT ts a (b.setCell ⟨g, i, none⟩ u) :=
 h.trans ⟨by simp [World.setCell], fun i' _ t' hi ht' => (Below.heap_setCell b _ u i' (fun e_ => by
  subst e_
  rw [hi] at hb
  injection hb with hb
  injection hb with _ hb _
  exact ht' (hb ▸ ht))).trans hi⟩
set_option maxHeartbeats 4000000 in
set_option maxRecDepth 100000 in
theorem putnum_calls (k : Nat) (n m : Int) (r : List Int) (Bo : Nat) (v : Value) (xs : List Int) (w0 w : World) (hn : IntKind.u64.wrap n = m) (hf : octet_Uint.f k m = some r) (hB : Below w0.heap.size w0 w) (hg : w0.heap.size ≤ Bo)
 (hb : w.heap[Bo]? = some (.cells #[v] 42 (0, 0))) (hO : Kd.R (Kd.int .u8) 5 w w0.heap.size (fun _ => True) v xs) (hl : xs.length + r.length < 140737488355328) :
 Calls Tryd.prog 36 #[.int .i64 n, .pointer (some ⟨Bo, 0, none⟩)] w fun e w' => e = .returned (.tuple #[]) ∧ ∃ v', w'.heap[Bo]? = some (.cells #[v'] 42 (0, 0)) ∧ Kd.R (Kd.int .u8) 5 w' w0.heap.size (fun _ => True) v' (xs ++ r) ∧ Below w0.heap.size w0 w' ∧ KeepT [42, 5] w w' := by
 subst hn
 have HB := am_ hB
 have HF := am_ hf
 have BK := am_ hb
 have HO := am_ hO
 have HK := am_ (KeepT.refl [42, 5] w)
 clear hf hB hb hO
 go_enter Tryd.func36, Tryd.ntmps36
 refine start_ (n := 6) (S := fun w' => w'.cell? ⟨Bo, 0, none⟩ = some v) (ds := [5]) #[false, false, false, false, false, false] (by kernel_rfl) rfl rfl ((kc_ BK.out 0).trans rfl) (fun hHeld => ?_)
 replace HK := am_ HK.out.drew
 replace BK := am_ (show w.drew.heap[Bo]? = some (.cells #[v] 42 (0, 0)) from BK.out)
 replace HB := am_ (bd_ HB.out)
 replace HO := am_ (Kd.R_drew HO.out)
 generalize w.drew = w1 at HB HO BK HK hHeld ⊢
 refine take_ (i := 0) (N := some 3) (v := ?_) (a' := ?_) #[true, false, false, false, false, false] rfl rfl (by kernel_rfl) (fun _ _ _ h => h) (Or.inl ⟨by rfl, ?_⟩) hHeld ?_ ?_
 rotate_left
 ·
  rintro w' s0
  go_simp
  with_reducible rfl
 rotate_left
 ·
  simp only [Act.put, qa_, qb_, qc_, i64_w, i32_w]
  rfl
 refine pure_ (i := 1) (N := some 4) (v := ?_) (a' := ?_) #[true, true, false, false, false, false] rfl rfl (by kernel_rfl) (fun _ _ _ h => h) (Or.inl ⟨by rfl, ?_⟩) ?_ ?_
 rotate_left
 ·
  intro w'
  go_simp
  with_reducible rfl
 rotate_left
 ·
  simp only [Act.put, qa_, qb_, qc_, i64_w, i32_w]
  rfl
 refine pure_ (i := 2) (N := some 5) (v := ?_) (a' := ?_) #[true, true, true, false, false, false] rfl rfl (by kernel_rfl) (fun _ _ _ h => h) (Or.inl ⟨by rfl, ?_⟩) ?_ ?_
 rotate_left
 ·
  intro w'
  go_simp
  with_reducible rfl
 rotate_left
 ·
  simp only [Act.put, qa_, qb_, qc_, i64_w, i32_w]
  rfl
 refine one_ (i := 3) (N := some 6) #[true, true, true, true, false, false] rfl rfl (by kernel_rfl) (by decide) (fun K hK => ?_)
 refine goes_ Tryd.func26 (by kernel_rfl) rfl #[.int .u64 (IntKind.u64.wrap n)] (by rfl) rfl rfl (by (try simp only [List.map_toArray, List.map_cons, List.map_nil]); rfl) ?_
 refine (octet_Uint.calls k _ r _ HF.out).mono ?_
 rintro e w2 ⟨v2, rfl, ho2, hb2⟩
 refine ⟨_, rfl, ?_⟩
 have BK2 := am_ (blk_below BK.out hb2)
 have HO2 := am_ (Kd.R_elder' HO.out (Kd.R_base ho2) hb2)
 have HN2 := am_ (Kd.R_lower ho2 (bz_ HB.out))
 have HB2 := am_ (below_step HB.out hb2)
 have HK2 := am_ (HK.out.below hb2)
 clear ho2 hb2 HO HB BK HK
 refine hK.out _ _ ((kc_ BK2.out 0).trans rfl) (fun hHeld => ?_)
 clear hK K
 obtain ⟨A2, c2, e2⟩ := Kd.R_slice HN2.out
 subst e2
 refine nA (N := some 6) ?_
 refine one_ (i := 4) (N := some 7) #[true, true, true, true, true, false] rfl rfl (by kernel_rfl) (by decide) (fun K hK => ?_)
 refine Kd.R_append_rows_step (Kd.int .u8) (w0 := w0) w0.heap.size (by rfl) (.tmp 3) (.tmp 6) 42 5 (.int .u8 0) 1 rfl Tryd.underlying42 info5 rfl (by decide) (by omega) v xs r A2 r.length c2 (fun k_ => some k_ ≠ (.slice A2 r.length c2 : Value).ownBlock) (fun _ => False) rfl rfl ?aO ?aR (fun _ _ h => h) (fun _ h => h.elim) ?aF HB2.out (bz_ HB2.out) ?aL ?_
 case aR => exact (Kd.R_reads' HN2.out).2.2
 case aF => exact (fun k_ hk => Kd.fresh' (Kd.R_lt HN2.out) k_ hk)
 case aO => exact Kd.R_mono HO2.out (fun _ hk => hk.2)
 case aL => omega
 intro v3 w3 ho3 hb3 hg3 hat3
 have BK3 := am_ (blk_grown BK2.out hg3 (Kd.R_ne HO2.out BK2.out (by decide)))
 have HK3 := am_ (HK2.out.grown HO2.out (by decide) hg3)
 have HB3 := am_ hb3
 have HO3 := am_ (Kd.R_types ho3 BK3.out (by decide))
 clear ho3 hb3 hg3 hat3 BK2 HO2 HN2 HB2 HK2
 refine hK.out _ _ ((kc_ BK3.out 0).trans rfl) (fun hHeld => ?_)
 clear hK K
 refine nA (N := some 7) ?_
 have fz := kf_ BK3.out 0
 obtain ⟨A3, c3, e3⟩ := Kd.R_slice HO3.out
 subst e3
 refine last_ (i := 5) (N := none) #[true, true, true, true, true, true] rfl rfl (by kernel_rfl) (by decide) (fun K hK => ?_)
 refine skip_ (w1 := w3.setCell ⟨Bo, 0, none⟩ (.slice A3 (xs ++ r).length c3)) (by rfl) rfl ?_ ?_
 ·
  go_simp
 refine hK.out _ _ ?_
 clear hK K
 refine done_ (by kernel_rfl) ?_
 have BK4 := am_ (blk_put (cs := #[v]) BK3.out 0 (.slice A3 (xs ++ r).length c3) rfl)
 have HK4 := am_ (HK3.out.set BK3.out (by decide) 0 (.slice A3 (xs ++ r).length c3))
 have HB4 := am_ (bs_ (j := 0) (v := .slice A3 (xs ++ r).length c3) HB3.out hg)
 have HO4 := am_ (Kd.R_far (p := ⟨Bo, 0, none⟩) HO3.out (fun _ hk => hk.2) (.slice A3 (xs ++ r).length c3))
 go_end0
 exact ⟨rfl, _, BK4.out, Kd.R_mono HO4.out (fun _ _ => trivial), HB4.out, HK4.out⟩
def flds (a0 : Int) : List Nat := if a0 = 3 ∨ a0 = 5 then [1, 2, 3, 4] else if a0 = 4 ∨ a0 = 6 then [1, 2, 3] else if a0 = 1 ∨ a0 = 2 then [1, 4, 5] else []
def kptr (g : Nat) : Kd Nat := Kd.scalar (fun j => .pointer (some ⟨g, j, none⟩)) (fun _ => rfl)
theorem info_ptr : (Tryd.prog.info? 96).map (fun i => (i.zero, i.size, i.bytes)) = some (some (.pointer none), 1, 8) := by kernel_rfl
set_option maxHeartbeats 4000000 in
set_option maxRecDepth 100000 in
theorem uses_calls (g : Nat) (a0 : Int) (w : World) (hc : w.cell? ⟨g, 0, none⟩ = some (.int .i64 a0)) :
 Calls Tryd.prog 37 #[.pointer (some ⟨g, 0, none⟩)] w fun e w' => ∃ v, e = .returned v ∧ Kd.R (kptr g) 96 w' w.heap.size (fun _ => True) v (flds a0) ∧ Below w.heap.size w w' := by
 have hu := Tryd.underlying37
 by_cases h35 : a0 = 3 ∨ a0 = 5
 ·
  rw [show flds a0 = [1] ++ [2, 3, 4] from if_pos h35]
  rcases h35 with rfl | rfl
  all_goals
   go_enter Tryd.func37, Tryd.ntmps37
   go_wp2_with ((with_reducible refine gd_ (N := 7) rfl ?_); refine Kd.R_lit (kptr g) (w0 := w) w.heap.size 96 ?hg (N := 7) ?hd (xs := ([1] : List Nat)) (inner := [.pointer (some ⟨g, 1, none⟩)]) (ok := fun _ => True) (okp := fun _ => True) ?hr ?hp (fun _ hk => hk) trivial (Below.refl _ _) (Nat.le_refl _) (by simp) ?_; (case hd => rfl); (case hg => rfl); (case hr => (go_simp; done)); (case hp => exact (Reps.one (show Kd.M (kptr g) _ _ _ (1 : Nat) [.pointer (some ⟨g, 1, none⟩)] from rfl) (Reps.none _ _))); intro v1 w1 ho1 hb1 hg1 hnew1; have HO1 := am_ ho1; have HB1 := am_ hb1; have hc1 := (hb1.cell (World.block_lt_of_cell? _ _ hc)).trans hc; clear ho1 hb1 hg1 hnew1; obtain ⟨A1, c1, e1⟩ := Kd.R_slice HO1.out; subst e1)
   refine start_ (n := 13) (S := fun _ => True) (ds := []) #[false, false, false, false, false, false, false, false, false, false, false, false, false] (by kernel_rfl) rfl rfl trivial (fun hHeld => ?_)
   replace HO1 := am_ (Kd.R_drew HO1.out)
   replace HB1 := am_ (bd_ HB1.out)
   generalize w1.drew = w2 at HO1 HB1 hHeld ⊢
   refine pure_ (i := 0) (N := some 22) (v := ?_) (a' := ?_) #[true, false, false, false, false, false, false, false, false, false, false, false, false] rfl rfl (by kernel_rfl) (fun _ _ _ h => h) (Or.inl ⟨by rfl, ?_⟩) ?_ ?_
   rotate_left
   ·
    intro w'
    go_simp
    with_reducible rfl
   rotate_left
   ·
    simp only [Act.put, qa_, qb_, qc_, i64_w, i32_w]
    rfl
   refine pure_ (i := 1) (N := some 23) (v := ?_) (a' := ?_) #[true, true, false, false, false, false, false, false, false, false, false, false, false] rfl rfl (by kernel_rfl) (fun _ _ _ h => h) (Or.inl ⟨by rfl, ?_⟩) ?_ ?_
   rotate_left
   ·
    intro w'
    go_simp
    with_reducible rfl
   rotate_left
   ·
    simp only [Act.put, qa_, qb_, qc_, i64_w, i32_w]
    rfl
   refine pure_ (i := 2) (N := some 24) (v := ?_) (a' := ?_) #[true, true, true, false, false, false, false, false, false, false, false, false, false] rfl rfl (by kernel_rfl) (fun _ _ _ h => h) (Or.inl ⟨by rfl, ?_⟩) ?_ ?_
   rotate_left
   ·
    intro w'
    go_simp
    with_reducible rfl
   rotate_left
   ·
    simp only [Act.put, qa_, qb_, qc_, i64_w, i32_w]
    rfl
   refine pure_ (i := 3) (N := some 25) (v := ?_) (a' := ?_) #[true, true, true, true, false, false, false, false, false, false, false, false, false] rfl rfl (by kernel_rfl) (fun _ _ _ h => h) (Or.inl ⟨by rfl, ?_⟩) ?_ ?_
   rotate_left
   ·
    intro w'
    go_simp
    with_reducible rfl
   rotate_left
   ·
    simp only [Act.put, qa_, qb_, qc_, i64_w, i32_w]
    rfl
   refine pure_ (i := 4) (N := some 26) (v := ?_) (a' := ?_) #[true, true, true, true, true, false, false, false, false, false, false, false, false] rfl rfl (by kernel_rfl) (fun _ _ _ h => h) (Or.inl ⟨by rfl, ?_⟩) ?_ ?_
   rotate_left
   ·
    intro w'
    go_simp
    with_reducible rfl
   rotate_left
   ·
    simp only [Act.put, qa_, qb_, qc_, i64_w, i32_w]
    rfl
   refine pure_ (i := 5) (N := some 27) (v := ?_) (a' := ?_) #[true, true, true, true, true, true, false, false, false, false, false, false, false] rfl rfl (by kernel_rfl) (fun _ _ _ h => h) (Or.inl ⟨by rfl, ?_⟩) ?_ ?_
   rotate_left
   ·
    intro w'
    go_simp
    with_reducible rfl
   rotate_left
   ·
    simp only [Act.put, qa_, qb_, qc_, i64_w, i32_w]
    rfl
   refine pure_ (i := 6) (N := some 28) (v := ?_) (a' := ?_) #[true, true, true, true, true, true, true, false, false, false, false, false, false] rfl rfl (by kernel_rfl) (fun _ _ _ h => h) (Or.inl ⟨by rfl, ?_⟩) ?_ ?_
   rotate_left
   ·
    intro w'
    go_simp
    with_reducible rfl
   rotate_left
   ·
    simp only [Act.put, qa_, qb_, qc_, i64_w, i32_w]
    rfl
   refine pure_ (i := 7) (N := some 29) (v := ?_) (a' := ?_) #[true, true, true, true, true, true, true, true, false, false, false, false, false] rfl rfl (by kernel_rfl) (fun _ _ _ h => h) (Or.inl ⟨by rfl, ?_⟩) ?_ ?_
   rotate_left
   ·
    intro w'
    go_simp
    with_reducible rfl
   rotate_left
   ·
    simp only [Act.put, qa_, qb_, qc_, i64_w, i32_w]
    rfl
   refine pure_ (i := 8) (N := some 30) (v := ?_) (a' := ?_) #[true, true, true, true, true, true, true, true, true, false, false, false, false] rfl rfl (by kernel_rfl) (fun _ _ _ h => h) (Or.inl ⟨by rfl, ?_⟩) ?_ ?_
   rotate_left
   ·
    intro w'
    go_simp
    with_reducible rfl
   rotate_left
   ·
    simp only [Act.put, qa_, qb_, qc_, i64_w, i32_w]
    rfl
   refine pure_ (i := 9) (N := some 31) (v := ?_) (a' := ?_) #[true, true, true, true, true, true, true, true, true, true, false, false, false] rfl rfl (by kernel_rfl) (fun _ _ _ h => h) (Or.inl ⟨by rfl, ?_⟩) ?_ ?_
   rotate_left
   ·
    intro w'
    go_simp
    with_reducible rfl
   rotate_left
   ·
    simp only [Act.put, qa_, qb_, qc_, i64_w, i32_w]
    rfl
   refine one_ (i := 10) (N := some 32) #[true, true, true, true, true, true, true, true, true, true, true, false, false] rfl rfl (by kernel_rfl) (by decide) (fun K hK => ?_)
   refine Kd.R_lit_step (kptr g) (w0 := w2) w2.heap.size 96 ?hg (N := 32) ?hd (xs := ([2, 3, 4] : List Nat)) (inner := [.pointer (some ⟨g, 2, none⟩), .pointer (some ⟨g, 3, none⟩), .pointer (some ⟨g, 4, none⟩)]) (ok := fun _ => True) (okp := fun _ => True) ?hr ?hp (fun _ hk => hk) trivial (Below.refl _ _) (Nat.le_refl _) (by simp) ?_
   case hd => rfl
   case hg => rfl
   case hr => (go_simp; done)
   case hp => exact (Reps.one (show Kd.M (kptr g) _ _ _ (2 : Nat) [.pointer (some ⟨g, 2, none⟩)] from rfl) (Reps.one (show Kd.M (kptr g) _ _ _ (3 : Nat) [.pointer (some ⟨g, 3, none⟩)] from rfl) (Reps.one (show Kd.M (kptr g) _ _ _ (4 : Nat) [.pointer (some ⟨g, 4, none⟩)] from rfl) (Reps.none _ _))))
   intro v3 w3 ho3 hb3 hg3 hnew3
   clear hg3 hnew3
   have HO1 := am_ (Kd.R_mono (Kd.R_elder' HO1.out (Kd.R_base ho3) hb3) (ok' := fun k_ => some k_ ≠ v3.ownBlock) (fun _ hk => hk.2))
   have HN1 := am_ (Kd.R_lower ho3 (bz_ HB1.out))
   have HB1 := am_ (below_step HB1.out hb3)
   clear ho3 hb3
   refine hK.out _ _ trivial (fun hHeld => ?_)
   clear hK K
   obtain ⟨A3, c3, e3⟩ := Kd.R_slice HN1.out
   subst e3
   refine nA (N := some 32) ?_
   refine one_ (i := 11) (N := some 33) #[true, true, true, true, true, true, true, true, true, true, true, true, false] rfl rfl (by kernel_rfl) (by decide) (fun K hK => ?_)
   refine Kd.R_append_rows_step (kptr g) (w0 := w) w.heap.size (by rfl) (.tmp 22) (.tmp 32) 93 96 (.pointer none) 8 rfl Tryd.underlying93 info_ptr rfl (by show 0 < 1; decide) (by omega) _ ([1] : List Nat) ([2, 3, 4] : List Nat) A3 _ c3 (fun k_ => some k_ ≠ (.slice A3 3 c3 : Value).ownBlock) (fun _ => False) rfl rfl ?aO ?aR (fun _ _ h => h) (fun _ h => h.elim) ?aF HB1.out (bz_ HB1.out) ?aL ?_
   case aR => exact (Kd.R_reads' HN1.out).2.2
   case aF => exact (fun k_ hk => Kd.fresh' (Kd.R_lt HN1.out) k_ hk)
   case aO => exact HO1.out
   case aL => decide
   intro v4 w4 ho4 hb4 hg4 hat4
   have HO4 := am_ (Kd.R_mono ho4 (ok' := fun _ => True) (fun _ _ => trivial))
   have HB4 := am_ hb4
   clear ho4 hb4 hg4 hat4 HO1 HN1 HB1
   refine hK.out _ _ trivial (fun hHeld => ?_)
   clear hK K
   refine nA (N := some 33) ?_
   refine pure_ (i := 12) (N := some 2) (v := ?_) (a' := ?_) #[true, true, true, true, true, true, true, true, true, true, true, true, true] rfl rfl (by kernel_rfl) (fun _ _ _ h => h) (Or.inl ⟨by rfl, ?_⟩) ?_ ?_
   rotate_left
   ·
    intro w'
    go_simp
    with_reducible rfl
   rotate_left
   ·
    simp only [Act.put, qa_, qb_, qc_, i64_w, i32_w]
    rfl
   refine done_ (by kernel_rfl) ?_
   go_wp2
   go_ret
   exact ⟨_, rfl, HO4.out, HB4.out⟩
 by_cases h46 : a0 = 4 ∨ a0 = 6
 ·
  rw [show flds a0 = [1] ++ [2, 3] from (if_neg h35).trans (if_pos h46)]
  rcases h46 with rfl | rfl
  all_goals
   go_enter Tryd.func37, Tryd.ntmps37
   go_wp2_with ((with_reducible refine gd_ (N := 7) rfl ?_); refine Kd.R_lit (kptr g) (w0 := w) w.heap.size 96 ?hg (N := 7) ?hd (xs := ([1] : List Nat)) (inner := [.pointer (some ⟨g, 1, none⟩)]) (ok := fun _ => True) (okp := fun _ => True) ?hr ?hp (fun _ hk => hk) trivial (Below.refl _ _) (Nat.le_refl _) (by simp) ?_; (case hd => rfl); (case hg => rfl); (case hr => (go_simp; done)); (case hp => exact (Reps.one (show Kd.M (kptr g) _ _ _ (1 : Nat) [.pointer (some ⟨g, 1, none⟩)] from rfl) (Reps.none _ _))); intro v1 w1 ho1 hb1 hg1 hnew1; have HO1 := am_ ho1; have HB1 := am_ hb1; have hc1 := (hb1.cell (World.block_lt_of_cell? _ _ hc)).trans hc; clear ho1 hb1 hg1 hnew1; obtain ⟨A1, c1, e1⟩ := Kd.R_slice HO1.out; subst e1)
   refine start_ (n := 10) (S := fun _ => True) (ds := []) #[false, false, false, false, false, false, false, false, false, false] (by kernel_rfl) rfl rfl trivial (fun hHeld => ?_)
   replace HO1 := am_ (Kd.R_drew HO1.out)
   replace HB1 := am_ (bd_ HB1.out)
   generalize w1.drew = w2 at HO1 HB1 hHeld ⊢
   refine pure_ (i := 0) (N := some 34) (v := ?_) (a' := ?_) #[true, false, false, false, false, false, false, false, false, false] rfl rfl (by kernel_rfl) (fun _ _ _ h => h) (Or.inl ⟨by rfl, ?_⟩) ?_ ?_
   rotate_left
   ·
    intro w'
    go_simp
    with_reducible rfl
   rotate_left
   ·
    simp only [Act.put, qa_, qb_, qc_, i64_w, i32_w]
    rfl
   refine pure_ (i := 1) (N := some 35) (v := ?_) (a' := ?_) #[true, true, false, false, false, false, false, false, false, false] rfl rfl (by kernel_rfl) (fun _ _ _ h => h) (Or.inl ⟨by rfl, ?_⟩) ?_ ?_
   rotate_left
   ·
    intro w'
    go_simp
    with_reducible rfl
   rotate_left
   ·
    simp only [Act.put, qa_, qb_, qc_, i64_w, i32_w]
    rfl
   refine pure_ (i := 2) (N := some 36) (v := ?_) (a' := ?_) #[true, true, true, false, false, false, false, false, false, false] rfl rfl (by kernel_rfl) (fun _ _ _ h => h) (Or.inl ⟨by rfl, ?_⟩) ?_ ?_
   rotate_left
   ·
    intro w'
    go_simp
    with_reducible rfl
   rotate_left
   ·
    simp only [Act.put, qa_, qb_, qc_, i64_w, i32_w]
    rfl
   refine pure_ (i := 3) (N := some 37) (v := ?_) (a' := ?_) #[true, true, true, true, false, false, false, false, false, false] rfl rfl (by kernel_rfl) (fun _ _ _ h => h) (Or.inl ⟨by rfl, ?_⟩) ?_ ?_
   rotate_left
   ·
    intro w'
    go_simp
    with_reducible rfl
   rotate_left
   ·
    simp only [Act.put, qa_, qb_, qc_, i64_w, i32_w]
    rfl
   refine pure_ (i := 4) (N := some 38) (v := ?_) (a' := ?_) #[true, true, true, true, true, false, false, false, false, false] rfl rfl (by kernel_rfl) (fun _ _ _ h => h) (Or.inl ⟨by rfl, ?_⟩) ?_ ?_
   rotate_left
   ·
    intro w'
    go_simp
    with_reducible rfl
   rotate_left
   ·
    simp only [Act.put, qa_, qb_, qc_, i64_w, i32_w]
    rfl
   refine pure_ (i := 5) (N := some 39) (v := ?_) (a' := ?_) #[true, true, true, true, true, true, false, false, false, false] rfl rfl (by kernel_rfl) (fun _ _ _ h => h) (Or.inl ⟨by rfl, ?_⟩) ?_ ?_
   rotate_left
   ·
    intro w'
    go_simp
    with_reducible rfl
   rotate_left
   ·
    simp only [Act.put, qa_, qb_, qc_, i64_w, i32_w]
    rfl
   refine pure_ (i := 6) (N := some 40) (v := ?_) (a' := ?_) #[true, true, true, true, true, true, true, false, false, false] rfl rfl (by kernel_rfl) (fun _ _ _ h => h) (Or.inl ⟨by rfl, ?_⟩) ?_ ?_
   rotate_left
   ·
    intro w'
    go_simp
    with_reducible rfl
   rotate_left
   ·
    simp only [Act.put, qa_, qb_, qc_, i64_w, i32_w]
    rfl
   refine one_ (i := 7) (N := some 41) #[true, true, true, true, true, true, true, true, false, false] rfl rfl (by kernel_rfl) (by decide) (fun K hK => ?_)
   refine Kd.R_lit_step (kptr g) (w0 := w2) w2.heap.size 96 ?hg (N := 41) ?hd (xs := ([2, 3] : List Nat)) (inner := [.pointer (some ⟨g, 2, none⟩), .pointer (some ⟨g, 3, none⟩)]) (ok := fun _ => True) (okp := fun _ => True) ?hr ?hp (fun _ hk => hk) trivial (Below.refl _ _) (Nat.le_refl _) (by simp) ?_
   case hd => rfl
   case hg => rfl
   case hr => (go_simp; done)
   case hp => exact (Reps.one (show Kd.M (kptr g) _ _ _ (2 : Nat) [.pointer (some ⟨g, 2, none⟩)] from rfl) (Reps.one (show Kd.M (kptr g) _ _ _ (3 : Nat) [.pointer (some ⟨g, 3, none⟩)] from rfl) (Reps.none _ _)))
   intro v3 w3 ho3 hb3 hg3 hnew3
   clear hg3 hnew3
   have HO1 := am_ (Kd.R_mono (Kd.R_elder' HO1.out (Kd.R_base ho3) hb3) (ok' := fun k_ => some k_ ≠ v3.ownBlock) (fun _ hk => hk.2))
   have HN1 := am_ (Kd.R_lower ho3 (bz_ HB1.out))
   have HB1 := am_ (below_step HB1.out hb3)
   clear ho3 hb3
   refine hK.out _ _ trivial (fun hHeld => ?_)
   clear hK K
   obtain ⟨A3, c3, e3⟩ := Kd.R_slice HN1.out
   subst e3
   refine nA (N := some 41) ?_
   refine one_ (i := 8) (N := some 42) #[true, true, true, true, true, true, true, true, true, false] rfl rfl (by kernel_rfl) (by decide) (fun K hK => ?_)
   refine Kd.R_append_rows_step (kptr g) (w0 := w) w.heap.size (by rfl) (.tmp 34) (.tmp 41) 93 96 (.pointer none) 8 rfl Tryd.underlying93 info_ptr rfl (by show 0 < 1; decide) (by omega) _ ([1] : List Nat) ([2, 3] : List Nat) A3 _ c3 (fun k_ => some k_ ≠ (.slice A3 2 c3 : Value).ownBlock) (fun _ => False) rfl rfl ?aO ?aR (fun _ _ h => h) (fun _ h => h.elim) ?aF HB1.out (bz_ HB1.out) ?aL ?_
   case aR => exact (Kd.R_reads' HN1.out).2.2
   case aF => exact (fun k_ hk => Kd.fresh' (Kd.R_lt HN1.out) k_ hk)
   case aO => exact HO1.out
   case aL => decide
   intro v4 w4 ho4 hb4 hg4 hat4
   have HO4 := am_ (Kd.R_mono ho4 (ok' := fun _ => True) (fun _ _ => trivial))
   have HB4 := am_ hb4
   clear ho4 hb4 hg4 hat4 HO1 HN1 HB1
   refine hK.out _ _ trivial (fun hHeld => ?_)
   clear hK K
   refine nA (N := some 42) ?_
   refine pure_ (i := 9) (N := some 2) (v := ?_) (a' := ?_) #[true, true, true, true, true, true, true, true, true, true] rfl rfl (by kernel_rfl) (fun _ _ _ h => h) (Or.inl ⟨by rfl, ?_⟩) ?_ ?_
   rotate_left
   ·
    intro w'
    go_simp
    with_reducible rfl
   rotate_left
   ·
    simp only [Act.put, qa_, qb_, qc_, i64_w, i32_w]
    rfl
   refine done_ (by kernel_rfl) ?_
   go_wp2
   go_ret
   exact ⟨_, rfl, HO4.out, HB4.out⟩
 by_cases h12 : a0 = 1 ∨ a0 = 2
 ·
  rw [show flds a0 = [1] ++ [4, 5] from (if_neg h35).trans ((if_neg h46).trans (if_pos h12))]
  rcases h12 with rfl | rfl
  all_goals
   go_enter Tryd.func37, Tryd.ntmps37
   go_wp2_with ((with_reducible refine gd_ (N := 7) rfl ?_); refine Kd.R_lit (kptr g) (w0 := w) w.heap.size 96 ?hg (N := 7) ?hd (xs := ([1] : List Nat)) (inner := [.pointer (some ⟨g, 1, none⟩)]) (ok := fun _ => True) (okp := fun _ => True) ?hr ?hp (fun _ hk => hk) trivial (Below.refl _ _) (Nat.le_refl _) (by simp) ?_; (case hd => rfl); (case hg => rfl); (case hr => (go_simp; done)); (case hp => exact (Reps.one (show Kd.M (kptr g) _ _ _ (1 : Nat) [.pointer (some ⟨g, 1, none⟩)] from rfl) (Reps.none _ _))); intro v1 w1 ho1 hb1 hg1 hnew1; have HO1 := am_ ho1; have HB1 := am_ hb1; have hc1 := (hb1.cell (World.block_lt_of_cell? _ _ hc)).trans hc; clear ho1 hb1 hg1 hnew1; obtain ⟨A1, c1, e1⟩ := Kd.R_slice HO1.out; subst e1)
   refine start_ (n := 10) (S := fun _ => True) (ds := []) #[false, false, false, false, false, false, false, false, false, false] (by kernel_rfl) rfl rfl trivial (fun hHeld => ?_)
   replace HO1 := am_ (Kd.R_drew HO1.out)
   replace HB1 := am_ (bd_ HB1.out)
   generalize w1.drew = w2 at HO1 HB1 hHeld ⊢
   refine pure_ (i := 0) (N := some 43) (v := ?_) (a' := ?_) #[true, false, false, false, false, false, false, false, false, false] rfl rfl (by kernel_rfl) (fun _ _ _ h => h) (Or.inl ⟨by rfl, ?_⟩) ?_ ?_
   rotate_left
   ·
    intro w'
    go_simp
    with_reducible rfl
   rotate_left
   ·
    simp only [Act.put, qa_, qb_, qc_, i64_w, i32_w]
    rfl
   refine pure_ (i := 1) (N := some 44) (v := ?_) (a' := ?_) #[true, true, false, false, false, false, false, false, false, false] rfl rfl (by kernel_rfl) (fun _ _ _ h => h) (Or.inl ⟨by rfl, ?_⟩) ?_ ?_
   rotate_left
   ·
    intro w'
    go_simp
    with_reducible rfl
   rotate_left
   ·
    simp only [Act.put, qa_, qb_, qc_, i64_w, i32_w]
    rfl
   refine pure_ (i := 2) (N := some 45) (v := ?_) (a' := ?_) #[true, true, true, false, false, false, false, false, false, false] rfl rfl (by kernel_rfl) (fun _ _ _ h => h) (Or.inl ⟨by rfl, ?_⟩) ?_ ?_
   rotate_left
   ·
    intro w'
    go_simp
    with_reducible rfl
   rotate_left
   ·
    simp only [Act.put, qa_, qb_, qc_, i64_w, i32_w]
    rfl
   refine pure_ (i := 3) (N := some 46) (v := ?_) (a' := ?_) #[true, true, true, true, false, false, false, false, false, false] rfl rfl (by kernel_rfl) (fun _ _ _ h => h) (Or.inl ⟨by rfl, ?_⟩) ?_ ?_
   rotate_left
   ·
    intro w'
    go_simp
    with_reducible rfl
   rotate_left
   ·
    simp only [Act.put, qa_, qb_, qc_, i64_w, i32_w]
    rfl
   refine pure_ (i := 4) (N := some 47) (v := ?_) (a' := ?_) #[true, true, true, true, true, false, false, false, false, false] rfl rfl (by kernel_rfl) (fun _ _ _ h => h) (Or.inl ⟨by rfl, ?_⟩) ?_ ?_
   rotate_left
   ·
    intro w'
    go_simp
    with_reducible rfl
   rotate_left
   ·
    simp only [Act.put, qa_, qb_, qc_, i64_w, i32_w]
    rfl
   refine pure_ (i := 5) (N := some 48) (v := ?_) (a' := ?_) #[true, true, true, true, true, true, false, false, false, false] rfl rfl (by kernel_rfl) (fun _ _ _ h => h) (Or.inl ⟨by rfl, ?_⟩) ?_ ?_
   rotate_left
   ·
    intro w'
    go_simp
    with_reducible rfl
   rotate_left
   ·
    simp only [Act.put, qa_, qb_, qc_, i64_w, i32_w]
    rfl
   refine pure_ (i := 6) (N := some 49) (v := ?_) (a' := ?_) #[true, true, true, true, true, true, true, false, false, false] rfl rfl (by kernel_rfl) (fun _ _ _ h => h) (Or.inl ⟨by rfl, ?_⟩) ?_ ?_
   rotate_left
   ·
    intro w'
    go_simp
    with_reducible rfl
   rotate_left
   ·
    simp only [Act.put, qa_, qb_, qc_, i64_w, i32_w]
    rfl
   refine one_ (i := 7) (N := some 50) #[true, true, true, true, true, true, true, true, false, false] rfl rfl (by kernel_rfl) (by decide) (fun K hK => ?_)
   refine Kd.R_lit_step (kptr g) (w0 := w2) w2.heap.size 96 ?hg (N := 50) ?hd (xs := ([4, 5] : List Nat)) (inner := [.pointer (some ⟨g, 4, none⟩), .pointer (some ⟨g, 5, none⟩)]) (ok := fun _ => True) (okp := fun _ => True) ?hr ?hp (fun _ hk => hk) trivial (Below.refl _ _) (Nat.le_refl _) (by simp) ?_
   case hd => rfl
   case hg => rfl
   case hr => (go_simp; done)
   case hp => exact (Reps.one (show Kd.M (kptr g) _ _ _ (4 : Nat) [.pointer (some ⟨g, 4, none⟩)] from rfl) (Reps.one (show Kd.M (kptr g) _ _ _ (5 : Nat) [.pointer (some ⟨g, 5, none⟩)] from rfl) (Reps.none _ _)))
   intro v3 w3 ho3 hb3 hg3 hnew3
   clear hg3 hnew3
   have HO1 := am_ (Kd.R_mono (Kd.R_elder' HO1.out (Kd.R_base ho3) hb3) (ok' := fun k_ => some k_ ≠ v3.ownBlock) (fun _ hk => hk.2))
   have HN1 := am_ (Kd.R_lower ho3 (bz_ HB1.out))
   have HB1 := am_ (below_step HB1.out hb3)
   clear ho3 hb3
   refine hK.out _ _ trivial (fun hHeld => ?_)
   clear hK K
   obtain ⟨A3, c3, e3⟩ := Kd.R_slice HN1.out
   subst e3
   refine nA (N := some 50) ?_
   refine one_ (i := 8) (N := some 51) #[true, true, true, true, true, true, true, true, true, false] rfl rfl (by kernel_rfl) (by decide) (fun K hK => ?_)
   refine Kd.R_append_rows_step (kptr g) (w0 := w) w.heap.size (by rfl) (.tmp 43) (.tmp 50) 93 96 (.pointer none) 8 rfl Tryd.underlying93 info_ptr rfl (by show 0 < 1; decide) (by omega) _ ([1] : List Nat) ([4, 5] : List Nat) A3 _ c3 (fun k_ => some k_ ≠ (.slice A3 2 c3 : Value).ownBlock) (fun _ => False) rfl rfl ?aO ?aR (fun _ _ h => h) (fun _ h => h.elim) ?aF HB1.out (bz_ HB1.out) ?aL ?_
   case aR => exact (Kd.R_reads' HN1.out).2.2
   case aF => exact (fun k_ hk => Kd.fresh' (Kd.R_lt HN1.out) k_ hk)
   case aO => exact HO1.out
   case aL => decide
   intro v4 w4 ho4 hb4 hg4 hat4
   have HO4 := am_ (Kd.R_mono ho4 (ok' := fun _ => True) (fun _ _ => trivial))
   have HB4 := am_ hb4
   clear ho4 hb4 hg4 hat4 HO1 HN1 HB1
   refine hK.out _ _ trivial (fun hHeld => ?_)
   clear hK K
   refine nA (N := some 51) ?_
   refine pure_ (i := 9) (N := some 2) (v := ?_) (a' := ?_) #[true, true, true, true, true, true, true, true, true, true] rfl rfl (by kernel_rfl) (fun _ _ _ h => h) (Or.inl ⟨by rfl, ?_⟩) ?_ ?_
   rotate_left
   ·
    intro w'
    go_simp
    with_reducible rfl
   rotate_left
   ·
    simp only [Act.put, qa_, qb_, qc_, i64_w, i32_w]
    rfl
   refine done_ (by kernel_rfl) ?_
   go_wp2
   go_ret
   exact ⟨_, rfl, HO4.out, HB4.out⟩
 rw [show flds a0 = [] from (if_neg h35).trans ((if_neg h46).trans (if_neg h12))]
 have n1 : (a0 == 1) = false := beq_eq_false_iff_ne.mpr (fun e => h12 (.inl e))
 have n2 : (a0 == 2) = false := beq_eq_false_iff_ne.mpr (fun e => h12 (.inr e))
 have n3 : (a0 == 3) = false := beq_eq_false_iff_ne.mpr (fun e => h35 (.inl e))
 have n4 : (a0 == 4) = false := beq_eq_false_iff_ne.mpr (fun e => h46 (.inl e))
 have n5 : (a0 == 5) = false := beq_eq_false_iff_ne.mpr (fun e => h35 (.inr e))
 have n6 : (a0 == 6) = false := beq_eq_false_iff_ne.mpr (fun e => h46 (.inr e))
 go_enter Tryd.func37, Tryd.ntmps37
 go_wp2_with ((with_reducible refine gd_ (N := 7) rfl ?_); refine Kd.R_lit (kptr g) (w0 := w) w.heap.size 96 ?hg (N := 7) ?hd (xs := ([1] : List Nat)) (inner := [.pointer (some ⟨g, 1, none⟩)]) (ok := fun _ => True) (okp := fun _ => True) ?hr ?hp (fun _ hk => hk) trivial (Below.refl _ _) (Nat.le_refl _) (by simp) ?_; (case hd => rfl); (case hg => rfl); (case hr => (go_simp; done)); (case hp => exact (Reps.one (show Kd.M (kptr g) _ _ _ (1 : Nat) [.pointer (some ⟨g, 1, none⟩)] from rfl) (Reps.none _ _))); intro v1 w1 ho1 hb1 hg1 hnew1; have HO1 := am_ ho1; have HB1 := am_ hb1; have hc1 := (hb1.cell (World.block_lt_of_cell? _ _ hc)).trans hc; clear ho1 hb1 hg1 hnew1; obtain ⟨A1, c1, e1⟩ := Kd.R_slice HO1.out; subst e1)
 go_ret
 exact ⟨_, rfl, Kd.R_nil _ _ _ _ _, HB1.out⟩
theorem goesV_ {P : Program} {ops : Array Oper} {Q : Exit → Act → World → Prop} {rest : List Oper} {oi : Oper} {a : Act} {w : World} (N : Option Tmp) (hd : oi.dst = N) (hg : oi.guard = none) {f : FuncId} {fn : Func} {t : Operand} {bs : Array Operand} {ts : Array TypeId} {caps : Array Value} (hf : P.funcs[f]? = some fn) (hname : (fn.name == "runtime.NumGoroutine") = false) (hb : fn.body.isSome = true) (args : Array Value)
 (hop : oi.op = .call { callee := .value t, args := bs, argTypes := ts }) (ht : a.eval t = .func (.func f) #[] caps) (hargs : bs.map a.eval ++ caps = args)
 (h : Calls P f args w fun e w' => ∃ v, e = .returned v ∧ wpList P ops Q rest (a.put N v) w') : wpList P ops Q (oi :: rest) a w := by
 refine wpList_plain hg fun K hK => ?_
 have he := enters_ hf hname hb args w
 have hrun : (execOp a.eval oi).run P w = .ok (.enter f args) w := by
  unfold execOp
  simp [hop, resolve, Deferred.ofValue, invoke, ht, hargs, he]
 unfold Oper.wp
 rw [hrun, Oper.upon_enter]
 refine h.mono fun e w2 hh => ?_
 obtain ⟨v, rfl, hk⟩ := hh
 subst hd
 exact hK _ _ hk
def fld6 (a0 a1 a2 a3 a4 a5 : Int) (j : Nat) : Int := ([a0, a1, a2, a3, a4, a5] : List Int).getD j 0
def parcel_Put.num (k : Nat) (out : List Int) (n : Int) : Option (List Int) := (octet_Uint.f k (n % 18446744073709551616)).bind fun r => if out.length + r.length < 140737488355328 then some (out ++ r) else none
def parcel_Put.nums (k : Nat) : List Int → List Int → Option (List Int)
 | out, [] => some out
 | out, n :: ns => (parcel_Put.num k out n).bind fun o => parcel_Put.nums k o ns
def parcel_Put.items (k : Nat) : List Int → List S77 → Option (List Int)
 | out, [] => some out
 | out, x :: xs => (parcel_Put.num k out x.f0).bind fun o1 => (parcel_Put.num k o1 (wrap64 x.f1)).bind fun o2 => (parcel_Put.num k o2 (x.f2.length : Int)).bind fun o3 => if o3.length + x.f2.length < 140737488355328 then parcel_Put.items k (o3 ++ x.f2) xs else none
def parcel_Put.f (k : Nat) (a0 a1 a2 a3 a4 a5 : Int) (l6 : List S110) (l7 : List S77) : Option (List Int × Int) :=
 (parcel_Check.f k a0 a1 a2 a3 a4 a5 l6 l7).bind fun e =>
 if e = 0 then
  (if 1 ≤ a0 ∧ a0 ≤ 6 then
   (parcel_Put.nums k [a0 % 256] ((flds a0).map (fld6 a0 a1 a2 a3 a4 a5))).bind fun o =>
   if a0 = 1 then
    (span_Put.f k l6).bind fun s => if o.length + s.1.length < 140737488355328 then (parcel_Put.num k (o ++ s.1) (l7.length : Int)).bind fun o2 => (parcel_Put.items k o2 l7).bind fun o3 => some (o3, 0) else none
   else some (o, 0)
  else none)
 else some ([], e)
theorem parcel_Put.num_out {k : Nat} {o r : List Int} {n : Int} (h : parcel_Put.num k o n = some r) : ∃ q, octet_Uint.f k (n % 18446744073709551616) = some q ∧ o.length + q.length < 140737488355328 ∧ r = o ++ q := by
 obtain ⟨q, hq, h1⟩ := Option.bind_eq_some_iff.mp h
 by_cases hl : o.length + q.length < 140737488355328
 ·
  rw [if_pos hl] at h1
  exact ⟨q, hq, hl, (Option.some.inj h1).symm⟩
 rw [if_neg hl] at h1; exact absurd h1 (by simp)
theorem flds_len (a0 : Int) : (flds a0).length ≤ 4 := by
 unfold flds
 split
 ·
  decide
 split
 ·
  decide
 split <;> decide
theorem flds_pos {a0 : Int} (h : 1 ≤ a0 ∧ a0 ≤ 6) : 0 < (flds a0).length := by
 unfold flds
 split
 ·
  decide
 split
 ·
  decide
 split
 ·
  decide
 omega
theorem flds_mem {a0 : Int} {j : Nat} (h : j ∈ flds a0) : j = 1 ∨ j = 2 ∨ j = 3 ∨ j = 4 ∨ j = 5 := by
 unfold flds at h
 split at h
 ·
  simp at h; omega
 split at h
 ·
  simp at h; omega
 split at h
 ·
  simp at h; omega
 simp at h
theorem R_keepT {α : Type} {d : Kd α} {e base : Nat} {ok : Nat → Prop} {v : Value} {xs : List α} {ts : List TypeId} {w w' : World} (h : Kd.R d e w base ok v xs) (hk : KeepT ts w w') (he : ∀ q, q ∈ e :: d.E → q ∉ ts) : Kd.R d e w' base ok v xs :=
 Kd.R_mono (Kd.R_step (Kd.R_bound h) (fun k hk' _ => by
  obtain ⟨_, _, _, q, hq, cells, hc⟩ := hk'
  rw [hc]; exact hk.blk k cells q hc (he q hq))) (fun _ hk' => hk'.1)
theorem keep_store3 {w : World} {g t : Nat} {z0 z1 z2 : Value} (hb : w.heap[g]? = some (.cells #[z0, z1, z2] t (0, 0))) (c0 c1 c2 : Value) : KeepT [t] w (((w.setCell ⟨g, 0, none⟩ c0).setCell ⟨g, 1, none⟩ c1).setCell ⟨g, 2, none⟩ c2) :=
 (((KeepT.refl _ _).set hb (by simp) 0 c0).set (blk_put hb 0 c0 rfl) (by simp) 1 c1).set (blk_put (blk_put hb 0 c0 rfl) 1 c1 rfl) (by simp) 2 c2
theorem R_keepI {base : Nat} {ok : Nat → Prop} {v : Value} {xs : List Int} {w w' : World} (h : Kd.R (Kd.int .u8) 5 w base ok v xs) (hk : KeepT [77] w w') : Kd.R (Kd.int .u8) 5 w' base ok v xs :=
 R_keepT h hk (fun q hq => by
  have hq' : q ∈ [5] := hq
  simp only [List.mem_singleton] at hq'
  subst hq'
  decide)
theorem len_C {α : Type} {d : Kd α} {w : World} {A : Option Addr} {n : Nat} {xs : List α} (h : Kd.C d w A n xs) : n ≤ 9223372036854775807 := h.2.1
theorem U_keepT {g base : Nat} {ok : Nat → Prop} {v : Value} {xs : List Nat} {w w' : World} (h : Kd.R (kptr g) 96 w base ok v xs) (hk : KeepT [42, 5] w w') : Kd.R (kptr g) 96 w' base ok v xs :=
 R_keepT h hk (fun q hq => by
  have hq' : q ∈ [96] := hq
  simp only [List.mem_singleton] at hq'
  subst hq'
  decide)
set_option maxHeartbeats 16000000 in
set_option maxRecDepth 100000 in
theorem parcel_Put.calls (k : Nat) (a0_0 : Int) (a0_1 : Int) (a0_2 : Int) (a0_3 : Int) (a0_4 : Int) (a0_5 : Int) (A0_6 : Option Addr) (c0_6 : Nat) (l0_6 : List S110) (A0_7 : Option Addr) (c0_7 : Nat) (l0_7 : List S77) (r1 : List Int) (r2 : Int) (w : World) (hr0_6 : Kd.C k110 w A0_6 l0_6.length l0_6) (hc0_6 : l0_6.length ≤ c0_6) (hr0_7 : Kd.C k77 w A0_7 l0_7.length l0_7) (hc0_7 : l0_7.length ≤ c0_7) (h : parcel_Put.f k a0_0 a0_1 a0_2 a0_3 a0_4 a0_5 l0_6 l0_7 = some (r1, r2)) :
 Calls Tryd.prog 21 #[.agg #[.int .i64 a0_0, .int .i64 a0_1, .int .i64 a0_2, .int .i64 a0_3, .int .i64 a0_4, .int .i64 a0_5, .slice A0_6 l0_6.length c0_6, .slice A0_7 l0_7.length c0_7]] w fun e w' => ∃ v0_ : Value, e = .returned (.tuple #[v0_, .int .i64 r2]) ∧ Kd.R (Kd.int .u8) 5 w' w.heap.size (fun _ => True) v0_ r1 ∧ Below w.heap.size w w' := by
 have hu51 := Tryd.underlying37
 have hu62 := Tryd.underlying77
 have hmf : ∀ (fn : Fn) (first cap : Array Value) (w : World), (Instr.makeFunc fn first cap).run Tryd.prog w = .ok (.func fn first cap) w := fun _ _ _ _ => rfl
 have HR0_6 := am_ hr0_6
 have HC0_6 := am_ hc0_6
 have HR0_7 := am_ hr0_7
 have HC0_7 := am_ hc0_7
 clear hr0_6 hc0_6 hr0_7 hc0_7
 unfold parcel_Put.f at h
 obtain ⟨e0, hch, h1⟩ := Option.bind_eq_some_iff.mp h
 have HCH := am_ hch
 clear h hch
 by_cases he : e0 = 0
 case neg =>
  rw [if_neg he] at h1
  have heb : (e0 != 0) = true := bne_iff_ne.mpr he
  simp only [Option.some.injEq, Prod.mk.injEq] at h1
  obtain ⟨rfl, rfl⟩ := h1
  go_enter Tryd.func21, Tryd.ntmps21
  go_wp2_with (first | ((with_reducible refine gd_ (N := 1) rfl ?_); refine bE 1 #[.int .i64 a0_0, .int .i64 a0_1, .int .i64 a0_2, .int .i64 a0_3, .int .i64 a0_4, .int .i64 a0_5, .slice A0_6 l0_6.length c0_6, .slice A0_7 l0_7.length c0_7] 37 ?_; intro gp hg w1 hbox hb; have HB1 := am_ hb; have Ggp := am_ (show w.heap.size ≤ gp by rw [hg]; exact Nat.le_refl _); have BP1 := am_ hbox; have hza_0 : w1.cell? ⟨gp, 0, none⟩ = some (.int .i64 a0_0) := (kc_ BP1.out 0).trans rfl; have hza_1 : w1.cell? ⟨gp, 1, none⟩ = some (.int .i64 a0_1) := (kc_ BP1.out 1).trans rfl; have hza_2 : w1.cell? ⟨gp, 2, none⟩ = some (.int .i64 a0_2) := (kc_ BP1.out 2).trans rfl; have hza_3 : w1.cell? ⟨gp, 3, none⟩ = some (.int .i64 a0_3) := (kc_ BP1.out 3).trans rfl; have hza_4 : w1.cell? ⟨gp, 4, none⟩ = some (.int .i64 a0_4) := (kc_ BP1.out 4).trans rfl; have hza_5 : w1.cell? ⟨gp, 5, none⟩ = some (.int .i64 a0_5) := (kc_ BP1.out 5).trans rfl; have hza_6 : w1.cell? ⟨gp, 6, none⟩ = some (.slice A0_6 l0_6.length c0_6) := (kc_ BP1.out 6).trans rfl; have hza_7 : w1.cell? ⟨gp, 7, none⟩ = some (.slice A0_7 l0_7.length c0_7) := (kc_ BP1.out 7).trans rfl; have fza_0 := kf_ BP1.out 0; have fza_1 := kf_ BP1.out 1; have fza_2 := kf_ BP1.out 2; have fza_3 := kf_ BP1.out 3; have fza_4 := kf_ BP1.out 4; have fza_5 := kf_ BP1.out 5; have fza_6 := kf_ BP1.out 6; have fza_7 := kf_ BP1.out 7; clear hb hbox hg) | ((with_reducible refine gate_callee (f := 35) rfl ?_); refine gL (some 14) Tryd.func35 #[.agg #[.int .i64 a0_0, .int .i64 a0_1, .int .i64 a0_2, .int .i64 a0_3, .int .i64 a0_4, .int .i64 a0_5, .slice A0_6 l0_6.length c0_6, .slice A0_7 l0_7.length c0_7]] ?_; (with_reducible refine (parcel_Check.calls k a0_0 a0_1 a0_2 a0_3 a0_4 a0_5 _ _ l0_6 _ _ l0_7 _ _ ?side1 HC0_6.out ?side3 HC0_7.out HCH.out).mono ?_); (case side1 => repeat (exact (Kd.C_below HR0_6.out HB1.out))); (case side3 => repeat (exact (Kd.C_below HR0_7.out HB1.out))); rintro e w2 ⟨rfl, hb⟩; refine ⟨_, rfl, ?_⟩; have HB2 := am_ (below_step HB1.out hb); have BP2 := am_ (blk_below BP1.out hb); have hzb_0 : w2.cell? ⟨gp, 0, none⟩ = some (.int .i64 a0_0) := (kc_ BP2.out 0).trans rfl; have hzb_1 : w2.cell? ⟨gp, 1, none⟩ = some (.int .i64 a0_1) := (kc_ BP2.out 1).trans rfl; have hzb_2 : w2.cell? ⟨gp, 2, none⟩ = some (.int .i64 a0_2) := (kc_ BP2.out 2).trans rfl; have hzb_3 : w2.cell? ⟨gp, 3, none⟩ = some (.int .i64 a0_3) := (kc_ BP2.out 3).trans rfl; have hzb_4 : w2.cell? ⟨gp, 4, none⟩ = some (.int .i64 a0_4) := (kc_ BP2.out 4).trans rfl; have hzb_5 : w2.cell? ⟨gp, 5, none⟩ = some (.int .i64 a0_5) := (kc_ BP2.out 5).trans rfl; have hzb_6 : w2.cell? ⟨gp, 6, none⟩ = some (.slice A0_6 l0_6.length c0_6) := (kc_ BP2.out 6).trans rfl; have hzb_7 : w2.cell? ⟨gp, 7, none⟩ = some (.slice A0_7 l0_7.length c0_7) := (kc_ BP2.out 7).trans rfl; clear hb))
  go_ret2
  exact ⟨_, rfl, Kd.R_nil _ _ _ _ _, HB2.out⟩
 subst he
 rw [if_pos rfl] at h1
 by_cases hki : 1 ≤ a0_0 ∧ a0_0 ≤ 6
 case neg => rw [if_neg hki] at h1; exact absurd h1 (by simp)
 rw [if_pos hki] at h1
 have HKI := am_ hki
 clear hki
 obtain ⟨o, ho, h2⟩ := Option.bind_eq_some_iff.mp h1
 have HN := am_ ho
 have H2 := am_ h2
 clear h1 ho h2
 go_enter Tryd.func21, Tryd.ntmps21
 go_wp2_with (first | ((with_reducible refine gd_ (N := 1) rfl ?_); refine bE 1 #[.int .i64 a0_0, .int .i64 a0_1, .int .i64 a0_2, .int .i64 a0_3, .int .i64 a0_4, .int .i64 a0_5, .slice A0_6 l0_6.length c0_6, .slice A0_7 l0_7.length c0_7] 37 ?_; intro gp hg w1 hbox hb; have HB1 := am_ hb; have Ggp := am_ (show w.heap.size ≤ gp by rw [hg]; exact Nat.le_refl _); have BP1 := am_ hbox; have hza_0 : w1.cell? ⟨gp, 0, none⟩ = some (.int .i64 a0_0) := (kc_ BP1.out 0).trans rfl; have hza_1 : w1.cell? ⟨gp, 1, none⟩ = some (.int .i64 a0_1) := (kc_ BP1.out 1).trans rfl; have hza_2 : w1.cell? ⟨gp, 2, none⟩ = some (.int .i64 a0_2) := (kc_ BP1.out 2).trans rfl; have hza_3 : w1.cell? ⟨gp, 3, none⟩ = some (.int .i64 a0_3) := (kc_ BP1.out 3).trans rfl; have hza_4 : w1.cell? ⟨gp, 4, none⟩ = some (.int .i64 a0_4) := (kc_ BP1.out 4).trans rfl; have hza_5 : w1.cell? ⟨gp, 5, none⟩ = some (.int .i64 a0_5) := (kc_ BP1.out 5).trans rfl; have hza_6 : w1.cell? ⟨gp, 6, none⟩ = some (.slice A0_6 l0_6.length c0_6) := (kc_ BP1.out 6).trans rfl; have hza_7 : w1.cell? ⟨gp, 7, none⟩ = some (.slice A0_7 l0_7.length c0_7) := (kc_ BP1.out 7).trans rfl; have fza_0 := kf_ BP1.out 0; have fza_1 := kf_ BP1.out 1; have fza_2 := kf_ BP1.out 2; have fza_3 := kf_ BP1.out 3; have fza_4 := kf_ BP1.out 4; have fza_5 := kf_ BP1.out 5; have fza_6 := kf_ BP1.out 6; have fza_7 := kf_ BP1.out 7; clear hb hbox hg) | ((with_reducible refine gate_callee (f := 35) rfl ?_); refine gL (some 14) Tryd.func35 #[.agg #[.int .i64 a0_0, .int .i64 a0_1, .int .i64 a0_2, .int .i64 a0_3, .int .i64 a0_4, .int .i64 a0_5, .slice A0_6 l0_6.length c0_6, .slice A0_7 l0_7.length c0_7]] ?_; (with_reducible refine (parcel_Check.calls k a0_0 a0_1 a0_2 a0_3 a0_4 a0_5 _ _ l0_6 _ _ l0_7 _ _ ?side1 HC0_6.out ?side3 HC0_7.out HCH.out).mono ?_); (case side1 => repeat (exact (Kd.C_below HR0_6.out HB1.out))); (case side3 => repeat (exact (Kd.C_below HR0_7.out HB1.out))); rintro e w2 ⟨rfl, hb⟩; refine ⟨_, rfl, ?_⟩; have HB2 := am_ (below_step HB1.out hb); have BP2 := am_ (blk_below BP1.out hb); have hzb_0 : w2.cell? ⟨gp, 0, none⟩ = some (.int .i64 a0_0) := (kc_ BP2.out 0).trans rfl; have hzb_1 : w2.cell? ⟨gp, 1, none⟩ = some (.int .i64 a0_1) := (kc_ BP2.out 1).trans rfl; have hzb_2 : w2.cell? ⟨gp, 2, none⟩ = some (.int .i64 a0_2) := (kc_ BP2.out 2).trans rfl; have hzb_3 : w2.cell? ⟨gp, 3, none⟩ = some (.int .i64 a0_3) := (kc_ BP2.out 3).trans rfl; have hzb_4 : w2.cell? ⟨gp, 4, none⟩ = some (.int .i64 a0_4) := (kc_ BP2.out 4).trans rfl; have hzb_5 : w2.cell? ⟨gp, 5, none⟩ = some (.int .i64 a0_5) := (kc_ BP2.out 5).trans rfl; have hzb_6 : w2.cell? ⟨gp, 6, none⟩ = some (.slice A0_6 l0_6.length c0_6) := (kc_ BP2.out 6).trans rfl; have hzb_7 : w2.cell? ⟨gp, 7, none⟩ = some (.slice A0_7 l0_7.length c0_7) := (kc_ BP2.out 7).trans rfl; clear hb) | ((with_reducible refine gd_ (N := 21) rfl ?_); refine Kd.R_lit (Kd.int .u8) (w0 := w2) w2.heap.size 5 ?hg (N := 21) ?hd (xs := ([a0_0 % 256] : List Int)) (inner := [.int .u8 (a0_0 % 256)]) (ok := fun _ => True) (okp := fun _ => True) ?hr ?hp (fun _ hk => hk) trivial (Below.refl _ _) (Nat.le_refl _) (by simp) ?_; (case hd => rfl); (case hg => rfl); (case hr => (go_simp; done)); (case hp => exact (Reps.one (show Kd.M (Kd.int .u8) _ _ _ (a0_0 % 256) [.int .u8 (a0_0 % 256)] from rfl) (Reps.none _ _))); intro v3 w3 ho3 hb3 hg3 hnew3; have HO3 := am_ (Kd.R_lower ho3 (bz_ HB2.out)); have HB3 := am_ (below_step HB2.out hb3); have BP3 := am_ (blk_below BP2.out hb3); clear ho3 hb3 hg3 hnew3; obtain ⟨A3, c3, e3⟩ := Kd.R_slice HO3.out; subst e3) | ((with_reducible refine gd_ (N := 5) rfl ?_); refine bE 5 #[.slice none 0 0] 42 ?_; intro gb hg w4 hbox hb; have HB4 := am_ (below_step HB3.out hb); have Ggb := am_ (show w.heap.size ≤ gb by (rw [hg]; exact bz_ HB3.out)); have BO4 := am_ hbox; have BP4 := am_ (blk_below BP3.out hb); have HO4 := am_ (Kd.R_mono (Kd.R_step (Kd.R_bound HO3.out) (fun k_ hk_ _ => hb.block k_ hk_.2.2.1)) (ok' := fun k_ => k_ ≠ gb) (fun k_ hk_ e_ => by have := hk_.2.2.1; omega)); have fzo := kf_ BO4.out 0; have hzo : w4.cell? ⟨gb, 0, none⟩ = some (.slice none 0 0) := (kc_ BO4.out 0).trans rfl; clear hb hbox hg) | ((with_reducible refine gate_store (t := 42) (p := 5) (v := .tmp 21) rfl ?_); refine sE 42 5 (.tmp 21) (w4.setCell ⟨gb, 0, none⟩ (.slice A3 1 c3)) ?_; intro w5 hw5; have BO5 := am_ (show w5.heap[gb]? = some (.cells #[.slice A3 1 c3] 42 (0, 0)) by (rw [hw5]; exact blk_put BO4.out 0 _ rfl)); have HB5 := am_ (show Below w.heap.size w w5 by (rw [hw5]; exact bs_ (j := 0) (v := .slice A3 1 c3) HB4.out Ggb.out)); have BP5 := am_ (show w5.heap[gp]? = some (.cells #[.int .i64 a0_0, .int .i64 a0_1, .int .i64 a0_2, .int .i64 a0_3, .int .i64 a0_4, .int .i64 a0_5, .slice A0_6 l0_6.length c0_6, .slice A0_7 l0_7.length c0_7] 37 (0, 0)) by (rw [hw5]; exact (Below.heap_setCell w4 _ _ gp (blk_ne BP4.out BO4.out (by decide))).trans BP4.out)); have HO5 := am_ (show Kd.R (Kd.int .u8) 5 w5 w.heap.size (fun _ => True) (.slice A3 1 c3) [a0_0 % 256] by (rw [hw5]; exact Kd.R_mono (Kd.R_far (p := ⟨gb, 0, none⟩) HO4.out (fun _ hk => hk) _) (fun _ _ => trivial))); have hzc := (kc_ BP5.out 0).trans rfl; clear hw5) | ((with_reducible refine gate_callee (f := 37) rfl ?_); refine gL (some 23) Tryd.func37 #[.pointer (some ⟨gp, 0, none⟩)] ?_; refine (uses_calls gp a0_0 _ ((kc_ BP5.out 0).trans rfl)).mono ?_; rintro e w6 ⟨v6, rfl, ho6, hb6⟩; refine ⟨_, rfl, ?_⟩; have HB6 := am_ (below_step HB5.out hb6); have BP6 := am_ (blk_below BP5.out hb6); have BO6 := am_ (blk_below BO5.out hb6); have HO6 := am_ (Kd.R_below HO5.out hb6); have HU6 := am_ (Kd.R_lower ho6 (bz_ HB5.out)); obtain ⟨gu, cu, eu, _, _, _⟩ := Kd.R_form ho6 (flds_pos HKI.out); subst eu; clear ho6 hb6))
 go_loopg [25] 5 (fun kq v25 w' => ∃ (i : Int) (v : Value) (xs : List Int), v25 = .int .i64 i ∧ Aside0 (0 ≤ i ∧ i ≤ ((flds a0_0).length : Int) ∧ (flds a0_0).length + 1 ≤ kq + i.toNat) ∧ Aside0 (parcel_Put.nums k xs (((flds a0_0).drop i.toNat).map (fld6 a0_0 a0_1 a0_2 a0_3 a0_4 a0_5)) = some o) ∧ Aside0 (Below w.heap.size w w') ∧ Aside0 (w'.heap[gp]? = some (.cells #[.int .i64 a0_0, .int .i64 a0_1, .int .i64 a0_2, .int .i64 a0_3, .int .i64 a0_4, .int .i64 a0_5, .slice A0_6 l0_6.length c0_6, .slice A0_7 l0_7.length c0_7] 37 (0, 0))) ∧ Aside0 (w'.heap[gb]? = some (.cells #[v] 42 (0, 0))) ∧ Aside0 (Kd.R (Kd.int .u8) 5 w' w.heap.size (fun _ => True) v xs) ∧ Aside0 (Kd.R (kptr gp) 96 w' w.heap.size (fun _ => True) (.slice (some ⟨gu, 0, none⟩) (flds a0_0).length cu) (flds a0_0)))
 case atStart => exact ⟨0, _, _, rfl, ⟨by have := flds_len a0_0; omega⟩, HN, HB6, BP6, BO6, HO6, HU6⟩
 case round =>
 obtain ⟨i, v, xs, rfl, HI, HNR, HB, BP, BO, HO, HU⟩ := hrel
 clear HB1 HB2 HB3 HB4 HB5 HB6 BP1 BP2 BP3 BP4 BP5 BP6 BO4 BO5 BO6 HO3 HO4 HO5 HO6 HU6 HN
 by_cases hi : i < ((flds a0_0).length : Int)
 case pos =>
  obtain ⟨j, hj⟩ : ∃ j : Nat, rdOf 0 (flds a0_0) i = j := ⟨_, rfl⟩
  have h0 := HI.out.1
  have hlt : i.toNat < (flds a0_0).length := by omega
  have hje : (flds a0_0)[i.toNat] = j := by rw [← hj]; unfold rdOf; rw [List.getD_eq_getElem?_getD, List.getElem?_eq_getElem hlt]; rfl
  have hd : (flds a0_0).drop i.toNat = j :: (flds a0_0).drop (i.toNat + 1) := by rw [List.drop_eq_getElem_cons hlt, hje]
  have hjm : j ∈ flds a0_0 := hje ▸ List.getElem_mem hlt
  have hnr := HNR.out
  rw [hd, List.map_cons] at hnr
  obtain ⟨xs1, hn1, hn2⟩ := Option.bind_eq_some_iff.mp hnr
  obtain ⟨r, hr, hl, rfl⟩ := parcel_Put.num_out hn1
  have HN2 := am_ hn2
  have hp := (Kd.R_celln (0 : Nat) HU.out i h0 hi).1
  rw [hj] at hp
  have hz1 : wr.cell? ⟨gu, i.toNat, none⟩ = some (.pointer (some ⟨gp, j, none⟩)) := hp
  have hz2 : wr.cell? ⟨gp, j, none⟩ = some (.int .i64 (fld6 a0_0 a0_1 a0_2 a0_3 a0_4 a0_5 j)) := by
   rcases flds_mem hjm with rfl | rfl | rfl | rfl | rfl <;> exact (kc_ BP.out _).trans rfl
  have p0 := eq_true h0
  have p1 := eq_true hi
  have p2 := eq_true hlt
  have hw : wrap64 (i + 1) = i + 1 := by have := flds_len a0_0; unfold wrap64; omega
  clear hnr hn1 hn2 hp hd hje hj
  go_wp2_with (((with_reducible refine gd_ (N := 33) rfl ?_); refine goesV_ (some 33) rfl rfl Tryd.func36 (by kernel_rfl) rfl #[.int .i64 (fld6 a0_0 a0_1 a0_2 a0_3 a0_4 a0_5 j), .pointer (some ⟨gb, 0, none⟩)] rfl rfl (by (try simp only [List.map_toArray, List.map_cons, List.map_nil]); rfl) ?_; refine (putnum_calls k (fld6 a0_0 a0_1 a0_2 a0_3 a0_4 a0_5 j) _ r gb v xs w _ rfl hr HB.out Ggb.out BO.out HO.out hl).mono ?_; rintro e w9 ⟨rfl, v9, hbk, ho, hb, hk⟩; refine ⟨_, rfl, ?_⟩; have HB9 := am_ hb; have BO9 := am_ hbk; have HO9 := am_ ho; have HK9 := am_ hk; have BP9 := am_ (hk.blk gp _ _ BP.out (by decide)); have HU9 := am_ (U_keepT HU.out hk); clear hb hbk ho hk))
  cases gk with
  | zero => exact absurd HI.out (by omega)
  | succ k2 =>
  go_roundg k2
  case measure => omega
  case rel => exact ⟨i + 1, v9, _, rfl, ⟨by have := HI.out; omega⟩, ⟨by rw [show (i + 1).toNat = i.toNat + 1 by omega]; exact HN2.out⟩, HB9, BP9, BO9, HO9, HU9⟩
 have hnr := HNR.out
 rw [List.drop_eq_nil_of_le (show (flds a0_0).length ≤ i.toNat by have := HI.out; omega), List.map_nil] at hnr
 obtain rfl : xs = o := Option.some.inj hnr
 have q1 := eq_false hi
 have q2 := eq_false (show ¬ i.toNat < (flds a0_0).length by have := HI.out; omega)
 clear hnr hi HNR HU
 obtain ⟨Ax, cx, ex⟩ := Kd.R_slice HO.out
 subst ex
 have hzv : wr.cell? ⟨gb, 0, none⟩ = some (.slice Ax xs.length cx) := (kc_ BO.out 0).trans rfl
 have hzv_0 : wr.cell? ⟨gp, 0, none⟩ = some (.int .i64 a0_0) := (kc_ BP.out 0).trans rfl
 have hzv_6 : wr.cell? ⟨gp, 6, none⟩ = some (.slice A0_6 l0_6.length c0_6) := (kc_ BP.out 6).trans rfl
 have H2' := H2.out
 clear H2
 by_cases hk1 : a0_0 = 1
 case neg =>
  rw [if_neg hk1] at H2'
  simp only [Option.some.injEq, Prod.mk.injEq] at H2'
  obtain ⟨rfl, rfl⟩ := H2'
  have k1b : (a0_0 != 1) = true := bne_iff_ne.mpr hk1
  go_wp2
  go_ret2
  exact ⟨_, rfl, HO.out, HB.out⟩
 rw [if_pos hk1] at H2'
 have k1b : (a0_0 != 1) = false := bne_eq_false_iff_eq.mpr hk1
 clear hk1
 obtain ⟨⟨s1, s2⟩, hs, h3⟩ := Option.bind_eq_some_iff.mp H2'
 by_cases hl1 : xs.length + s1.length < 140737488355328
 case neg => exact absurd ((if_neg hl1).symm.trans h3) (by simp)
 have h4 := (if_pos hl1).symm.trans h3
 obtain ⟨o2, hn2, h5⟩ := Option.bind_eq_some_iff.mp h4
 obtain ⟨o3, ho3, h6⟩ := Option.bind_eq_some_iff.mp h5
 simp only [Option.some.injEq, Prod.mk.injEq] at h6
 obtain ⟨rfl, rfl⟩ := h6
 obtain ⟨r, hr, hl, rfl⟩ := parcel_Put.num_out hn2
 have HS := am_ (show span_Put.f k l0_6 = some (s1, s2) from hs)
 have HIT := am_ (show parcel_Put.items k ((xs ++ s1) ++ r) l0_7 = some o3 from ho3)
 clear H2' hs h3 h4 hn2 h5 ho3
 go_wp2_with (first | ((with_reducible refine gate_callee (f := 38) rfl ?_); refine gL (some 42) Tryd.func38 #[.slice A0_6 l0_6.length c0_6] ?_; (with_reducible refine (span_Put.calls k _ _ l0_6 s1 s2 _ ?side1 HC0_6.out HS.out).mono ?_); (case side1 => repeat (exact (Kd.C_below HR0_6.out HB.out))); rintro e w10 ⟨v10, rfl, hq, hb⟩; refine ⟨_, rfl, ?_⟩; have HB10 := am_ (below_step HB.out hb); have BP10 := am_ (blk_below BP.out hb); have BO10 := am_ (blk_below BO.out hb); have HO10 := am_ (Kd.R_mono (Kd.R_elder' HO.out (Kd.R_base hq) hb) (ok' := fun k_ => some k_ ≠ v10.ownBlock) (fun _ hk => hk.2)); have HS10 := am_ (Kd.R_lower hq (bz_ HB.out)); have hzw : w10.cell? ⟨gb, 0, none⟩ = some (.slice Ax xs.length cx) := (kc_ BO10.out 0).trans rfl; have fzw := kf_ BO10.out 0; obtain ⟨As, cs_, es⟩ := Kd.R_slice HS10.out; subst es; clear hq hb) | ((with_reducible refine gate_builtin (b := .append) (xs := #[.tmp 45, .tmp 46]) rfl ?_); at_builtin; refine Kd.R_append_rows (Kd.int .u8) (w0 := w) w.heap.size rfl (.tmp 45) (.tmp 46) 42 5 (.int .u8 0) 1 rfl Tryd.underlying42 info5 rfl (by decide) (by omega) (.slice Ax xs.length cx) xs s1 As _ cs_ (fun k_ => some k_ ≠ (.slice As s1.length cs_ : Value).ownBlock) (fun _ => False) rfl rfl HO10.out (Kd.R_reads' HS10.out).2.2 (fun _ _ h => h) (fun _ h => h.elim) (fun k_ hk => Kd.fresh' (Kd.R_lt HS10.out) k_ hk) HB10.out (bz_ HB10.out) (by omega) ?_; intro v11 w11 ho11 hb11 hg11 hat11; have BO11 := am_ (blk_grown BO10.out hg11 (Kd.R_ne HO10.out BO10.out (by decide))); have BP11 := am_ (blk_grown BP10.out hg11 (Kd.R_ne HO10.out BP10.out (by decide))); have HB11 := am_ hb11; have HO11 := am_ (Kd.R_types ho11 BO11.out (by decide)); have hz11 : w11.cell? ⟨gb, 0, none⟩ = some (.slice Ax xs.length cx) := (kc_ BO11.out 0).trans rfl; have fz11 := kf_ BO11.out 0; obtain ⟨A11, c11, e11⟩ := Kd.R_slice HO11.out; subst e11; clear ho11 hb11 hg11 hat11) | ((with_reducible refine gate_store (t := 42) (p := 5) (v := .tmp 47) rfl ?_); refine store_event rfl (t := 42) (p := 5) (v := .tmp 47) rfl rfl (w1 := w11.setCell ⟨gb, 0, none⟩ (.slice A11 (xs ++ s1).length c11)) ?hr47 ?_; (case hr47 => (go_simp; done)); intro w12 hw; have BO12 := am_ (show w12.heap[gb]? = some (.cells #[.slice A11 (xs ++ s1).length c11] 42 (0, 0)) by (rw [hw]; exact blk_put BO11.out 0 _ rfl)); have HB12 := am_ (show Below w.heap.size w w12 by (rw [hw]; exact bs_ (j := 0) (v := .slice A11 (xs ++ s1).length c11) HB11.out Ggb.out)); have BP12 := am_ (show w12.heap[gp]? = some (.cells #[.int .i64 a0_0, .int .i64 a0_1, .int .i64 a0_2, .int .i64 a0_3, .int .i64 a0_4, .int .i64 a0_5, .slice A0_6 l0_6.length c0_6, .slice A0_7 l0_7.length c0_7] 37 (0, 0)) by (rw [hw]; exact (Below.heap_setCell w11 _ _ gp (blk_ne BP11.out BO11.out (by decide))).trans BP11.out)); have HO12 := am_ (show Kd.R (Kd.int .u8) 5 w12 w.heap.size (fun _ => True) (.slice A11 (xs ++ s1).length c11) (xs ++ s1) by (rw [hw]; exact Kd.R_mono (Kd.R_far (p := ⟨gb, 0, none⟩) HO11.out (fun _ hk => hk.2) _) (fun _ _ => trivial))); have hzq_7 : w12.cell? ⟨gp, 7, none⟩ = some (.slice A0_7 l0_7.length c0_7) := (kc_ BP12.out 7).trans rfl; clear hw) | ((with_reducible refine gd_ (N := 52) rfl ?_); refine goesV_ (some 52) rfl rfl Tryd.func36 (by kernel_rfl) rfl #[.int .i64 (l0_7.length : Int), .pointer (some ⟨gb, 0, none⟩)] rfl rfl (by (try simp only [List.map_toArray, List.map_cons, List.map_nil]); rfl) ?_; refine (putnum_calls k (l0_7.length : Int) _ r gb (.slice A11 (xs ++ s1).length c11) (xs ++ s1) w _ rfl hr HB12.out Ggb.out BO12.out HO12.out hl).mono ?_; rintro e w13 ⟨rfl, v13, hbk, ho, hb, hk⟩; refine ⟨_, rfl, ?_⟩; have HB13 := am_ hb; have BO13 := am_ hbk; have HO13 := am_ ho; have HK13 := am_ hk; have BP13 := am_ (hk.blk gp _ _ BP12.out (by decide)); have hzr_7 : w13.cell? ⟨gp, 7, none⟩ = some (.slice A0_7 l0_7.length c0_7) := (kc_ BP13.out 7).trans rfl; clear hb hbk ho hk))
 go_loopg [56] (l0_7.length + 1) (fun kq v56 w' => ∃ (i : Int) (u : Value) (ys : List Int), v56 = .int .i64 i ∧ Aside0 (0 ≤ i ∧ i ≤ (l0_7.length : Int) ∧ l0_7.length + 1 ≤ kq + i.toNat) ∧ Aside0 (parcel_Put.items k ys (l0_7.drop i.toNat) = some o3) ∧ Aside0 (Below w.heap.size w w') ∧ Aside0 (w'.heap[gp]? = some (.cells #[.int .i64 a0_0, .int .i64 a0_1, .int .i64 a0_2, .int .i64 a0_3, .int .i64 a0_4, .int .i64 a0_5, .slice A0_6 l0_6.length c0_6, .slice A0_7 l0_7.length c0_7] 37 (0, 0))) ∧ Aside0 (w'.heap[gb]? = some (.cells #[u] 42 (0, 0))) ∧ Aside0 (Kd.R (Kd.int .u8) 5 w' w.heap.size (fun _ => True) u ys))
 case atStart => exact ⟨0, _, _, rfl, ⟨by omega⟩, HIT, HB13, BP13, BO13, HO13⟩
 case round =>
 obtain ⟨i, u, ys, rfl, HI, HNR, HB, BP, BO, HO⟩ := hrel
 clear HB10 HB11 HB12 HB13 BP10 BP11 BP12 BP13 BO10 BO11 BO12 BO13 HO10 HO11 HO12 HO13 HIT HK13 HS10
 by_cases hi : i < (l0_7.length : Int)
 case pos =>
  have h0 := HI.out.1
  have hlt : i.toNat < l0_7.length := by omega
  obtain ⟨ad, A2, c2, hA, q0, q1, q2, l2, g2⟩ := at_T77 HR0_7.out i h0 hi
  obtain ⟨x, hx⟩ : ∃ x : S77, rd_T77 l0_7 i = x := ⟨_, rfl⟩
  rw [hx] at q0 q1 q2 l2 g2
  have hje : l0_7[i.toNat] = x := by rw [← hx]; unfold rd_T77; rw [List.getD_eq_getElem?_getD, List.getElem?_eq_getElem hlt]; rfl
  have hd : l0_7.drop i.toNat = x :: l0_7.drop (i.toNat + 1) := by rw [List.drop_eq_getElem_cons hlt, hje]
  replace q0 := (HB.out.cell (World.block_lt_of_cell? w _ q0)).trans q0
  replace q1 := (HB.out.cell (World.block_lt_of_cell? w _ q1)).trans q1
  replace q2 := (HB.out.cell (World.block_lt_of_cell? w _ q2)).trans q2
  subst hA
  have hnr := HNR.out
  rw [hd] at hnr
  clear HNR
  obtain ⟨o1, n1, m1⟩ := Option.bind_eq_some_iff.mp hnr
  obtain ⟨o2, n2, m2⟩ := Option.bind_eq_some_iff.mp m1
  obtain ⟨p3, n3, m3⟩ := Option.bind_eq_some_iff.mp m2
  obtain ⟨ra, hr1, hm1, rfl⟩ := parcel_Put.num_out n1
  obtain ⟨rb, hr2, hm2, rfl⟩ := parcel_Put.num_out n2
  obtain ⟨rc, hr3, hm3, rfl⟩ := parcel_Put.num_out n3
  obtain ⟨y3, hy3⟩ : ∃ y : List Int, y = ys ++ ra ++ rb ++ rc := ⟨_, rfl⟩
  rw [← hy3] at m3
  have HY3 := am_ hy3
  clear hy3
  by_cases hl4 : y3.length + x.f2.length < 140737488355328
  case neg => exact absurd ((if_neg hl4).symm.trans m3) (by simp)
  have HN2 := am_ ((if_pos hl4).symm.trans m3)
  clear hnr n1 m1 n2 m2 n3 m3 hd hje hx
  have p0 := eq_true h0
  have p1 := eq_true hi
  have p2 := eq_true hlt
  have hl7 : l0_7.length ≤ 9223372036854775807 := len_C HR0_7.out
  have hw : wrap64 (i + 1) = i + 1 := by unfold wrap64; omega
  go_wp2_with (first | ((with_reducible refine gd_ (N := 12) rfl ?_); refine bE 12 #[.int .i64 0, .int .u32 0, .slice none 0 0] 77 ?_; intro gi hg w20 hbox hb; have HB20 := am_ (below_step HB.out hb); have Ggi := am_ (show w.heap.size ≤ gi by (rw [hg]; exact bz_ HB.out)); have BI20 := am_ hbox; have BP20 := am_ (blk_below BP.out hb); have BO20 := am_ (blk_below BO.out hb); have HO20 := am_ (Kd.R_below HO.out hb); have hi0_0 : w20.cell? ⟨gi, 0, none⟩ = some (.int .i64 0) := (kc_ BI20.out 0).trans rfl; have hi0_1 : w20.cell? ⟨gi, 1, none⟩ = some (.int .u32 0) := (kc_ BI20.out 1).trans rfl; have hi0_2 : w20.cell? ⟨gi, 2, none⟩ = some (.slice none 0 0) := (kc_ BI20.out 2).trans rfl; have fi0_0 := kf_ BI20.out 0; have fi0_1 := kf_ BI20.out 1; have fi0_2 := kf_ BI20.out 2; clear hb hbox hg) | ((with_reducible refine gate_store (t := 77) (p := 12) (v := .tmp 59) rfl ?_); refine store_event rfl (t := 77) (p := 12) (v := .tmp 59) rfl rfl (w1 := ((w20.setCell ⟨gi, 0, none⟩ (.int .i64 x.f0)).setCell ⟨gi, 1, none⟩ (.int .u32 x.f1)).setCell ⟨gi, 2, none⟩ (.slice A2 x.f2.length c2)) ?hr3 ?_; (case hr3 => (go_simp; done)); intro w21 hw; have hk := keep_store3 BI20.out (.int .i64 x.f0) (.int .u32 x.f1) (.slice A2 x.f2.length c2); rw [← hw] at hk; have BI21 := am_ (show w21.heap[gi]? = some (.cells #[.int .i64 x.f0, .int .u32 x.f1, .slice A2 x.f2.length c2] 77 (0, 0)) by (rw [hw]; exact blk_put (blk_put (blk_put BI20.out 0 _ rfl) 1 _ rfl) 2 _ rfl)); have HB21 := am_ (show Below w.heap.size w w21 by (rw [hw]; exact bs_ (bs_ (bs_ HB20.out Ggi.out) Ggi.out) Ggi.out)); have BP21 := am_ (hk.blk gp _ _ BP20.out (by decide)); have BO21 := am_ (hk.blk gb _ _ BO20.out (by decide)); have HO21 := am_ (R_keepI HO20.out hk); have hib_0 : w21.cell? ⟨gi, 0, none⟩ = some (.int .i64 x.f0) := (kc_ BI21.out 0).trans rfl; have hib_1 : w21.cell? ⟨gi, 1, none⟩ = some (.int .u32 x.f1) := (kc_ BI21.out 1).trans rfl; have hib_2 : w21.cell? ⟨gi, 2, none⟩ = some (.slice A2 x.f2.length c2) := (kc_ BI21.out 2).trans rfl; clear hw hk) | ((with_reducible refine gd_ (N := 63) rfl ?_); refine goesV_ (some 63) rfl rfl Tryd.func36 (by kernel_rfl) rfl #[.int .i64 (x.f0), .pointer (some ⟨gb, 0, none⟩)] rfl rfl (by (try simp only [List.map_toArray, List.map_cons, List.map_nil]); rfl) ?_; refine (putnum_calls k (x.f0) _ ra gb u ys w _ rfl hr1 HB21.out Ggb.out BO21.out HO21.out hm1).mono ?_; rintro e w22 ⟨rfl, v22, hbk, ho, hb, hk⟩; refine ⟨_, rfl, ?_⟩; have HB22 := am_ hb; have BO22 := am_ hbk; have HO22 := am_ ho; have HK22 := am_ hk; have BP22 := am_ (hk.blk gp _ _ BP21.out (by decide)); have BI22 := am_ (hk.blk gi _ _ BI21.out (by decide)); have hic22_1 : w22.cell? ⟨gi, 1, none⟩ = some (.int .u32 x.f1) := (kc_ BI22.out 1).trans rfl; clear hb hbk ho hk) | ((with_reducible refine gd_ (N := 68) rfl ?_); refine goesV_ (some 68) rfl rfl Tryd.func36 (by kernel_rfl) rfl #[.int .i64 (wrap64 x.f1), .pointer (some ⟨gb, 0, none⟩)] rfl rfl (by (try simp only [List.map_toArray, List.map_cons, List.map_nil]); rfl) ?_; refine (putnum_calls k (wrap64 x.f1) _ rb gb v22 (ys ++ ra) w _ rfl hr2 HB22.out Ggb.out BO22.out HO22.out hm2).mono ?_; rintro e w23 ⟨rfl, v23, hbk, ho, hb, hk⟩; refine ⟨_, rfl, ?_⟩; have HB23 := am_ hb; have BO23 := am_ hbk; have HO23 := am_ ho; have HK23 := am_ hk; have BP23 := am_ (hk.blk gp _ _ BP22.out (by decide)); have BI23 := am_ (hk.blk gi _ _ BI22.out (by decide)); have hic23_2 : w23.cell? ⟨gi, 2, none⟩ = some (.slice A2 x.f2.length c2) := (kc_ BI23.out 2).trans rfl; clear hb hbk ho hk) | ((with_reducible refine gd_ (N := 73) rfl ?_); refine goesV_ (some 73) rfl rfl Tryd.func36 (by kernel_rfl) rfl #[.int .i64 (x.f2.length : Int), .pointer (some ⟨gb, 0, none⟩)] rfl rfl (by (try simp only [List.map_toArray, List.map_cons, List.map_nil]); rfl) ?_; refine (putnum_calls k (x.f2.length : Int) _ rc gb v23 (ys ++ ra ++ rb) w _ rfl hr3 HB23.out Ggb.out BO23.out HO23.out hm3).mono ?_; rintro e w24 ⟨rfl, v24, hbk, ho, hb, hk⟩; refine ⟨_, rfl, ?_⟩; rw [← HY3.out] at ho; have HB24 := am_ hb; have BO24 := am_ hbk; have HO24 := am_ ho; have HK24 := am_ hk; have BP24 := am_ (hk.blk gp _ _ BP23.out (by decide)); have BI24 := am_ (hk.blk gi _ _ BI23.out (by decide)); have hic24_2 : w24.cell? ⟨gi, 2, none⟩ = some (.slice A2 x.f2.length c2) := (kc_ BI24.out 2).trans rfl; obtain ⟨A24, c24, e24⟩ := Kd.R_slice ho; subst e24; have hzu : w24.cell? ⟨gb, 0, none⟩ = some (.slice A24 y3.length c24) := (kc_ hbk 0).trans rfl; clear hb hbk ho hk) | ((with_reducible refine gate_builtin (b := .append) (xs := #[.tmp 74, .tmp 76]) rfl ?_); at_builtin; refine Kd.R_append_rows (Kd.int .u8) (w0 := w) w.heap.size rfl (.tmp 74) (.tmp 76) 42 5 (.int .u8 0) 1 rfl Tryd.underlying42 info5 rfl (by decide) (by omega) (.slice A24 y3.length c24) y3 x.f2 A2 _ c2 (fun _ => True) (fun _ => False) rfl rfl HO24.out (Kd.C_below g2 HB24.out) (fun _ _ h => h) (fun _ h => h.elim) (fun _ _ => trivial) HB24.out (bz_ HB24.out) (by omega) ?_; intro v25 w25 ho hb hg hat; have BO25 := am_ (blk_grown BO24.out hg (Kd.R_ne HO24.out BO24.out (by decide))); have BP25 := am_ (blk_grown BP24.out hg (Kd.R_ne HO24.out BP24.out (by decide))); have HB25 := am_ hb; have HO25 := am_ (Kd.R_types ho BO25.out (by decide)); have hz25 : w25.cell? ⟨gb, 0, none⟩ = some (.slice A24 y3.length c24) := (kc_ BO25.out 0).trans rfl; have fz25 := kf_ BO25.out 0; obtain ⟨A25, c25, e25⟩ := Kd.R_slice HO25.out; subst e25; clear ho hb hg hat) | ((with_reducible refine gate_store (t := 42) (p := 5) (v := .tmp 77) rfl ?_); refine store_event rfl (t := 42) (p := 5) (v := .tmp 77) rfl rfl (w1 := w25.setCell ⟨gb, 0, none⟩ (.slice A25 (y3 ++ x.f2).length c25)) ?hr77 ?_; (case hr77 => (go_simp; done)); intro w26 hw; have BO26 := am_ (show w26.heap[gb]? = some (.cells #[.slice A25 (y3 ++ x.f2).length c25] 42 (0, 0)) by (rw [hw]; exact blk_put BO25.out 0 _ rfl)); have HB26 := am_ (show Below w.heap.size w w26 by (rw [hw]; exact bs_ (j := 0) (v := .slice A25 (y3 ++ x.f2).length c25) HB25.out Ggb.out)); have BP26 := am_ (show w26.heap[gp]? = some (.cells #[.int .i64 a0_0, .int .i64 a0_1, .int .i64 a0_2, .int .i64 a0_3, .int .i64 a0_4, .int .i64 a0_5, .slice A0_6 l0_6.length c0_6, .slice (some ad) l0_7.length c0_7] 37 (0, 0)) by (rw [hw]; exact (Below.heap_setCell w25 _ _ gp (blk_ne BP25.out BO25.out (by decide))).trans BP25.out)); have HO26 := am_ (show Kd.R (Kd.int .u8) 5 w26 w.heap.size (fun _ => True) (.slice A25 (y3 ++ x.f2).length c25) (y3 ++ x.f2) by (rw [hw]; exact Kd.R_mono (Kd.R_far (p := ⟨gb, 0, none⟩) HO25.out (fun _ hk => hk.2) _) (fun _ _ => trivial))); clear hw))
  cases gk with
  | zero => exact absurd HI.out (by omega)
  | succ k2 =>
  go_roundg k2
  case measure => omega
  case rel => exact ⟨i + 1, _, _, rfl, ⟨by have := HI.out; omega⟩, ⟨by rw [show (i + 1).toNat = i.toNat + 1 by omega]; exact HN2.out⟩, HB26, BP26, BO26, HO26⟩
 have hnr := HNR.out
 rw [List.drop_eq_nil_of_le (show l0_7.length ≤ i.toNat by have := HI.out; omega)] at hnr
 obtain rfl : ys = o3 := Option.some.inj hnr
 have q1 := eq_false hi
 have q2 := eq_false (show ¬ i.toNat < l0_7.length by have := HI.out; omega)
 obtain ⟨Au, cu2, eu⟩ := Kd.R_slice HO.out
 subst eu
 have hzu : wr.cell? ⟨gb, 0, none⟩ = some (.slice Au ys.length cu2) := (kc_ BO.out 0).trans rfl
 go_wp2
 go_ret2
 exact ⟨_, rfl, HO.out, HB.out⟩
end Go.Proofs.YtoandmnefgimoaaDoor.PL
