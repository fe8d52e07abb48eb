import Derived.Test.YtoandmnefgimoaaDoorLBPLx0
import Derived.Test.YtoandmnefgimoaaDoorLBPLx2
namespace Go.Proofs.YtoandmnefgimoaaDoor.PL
open Go.RowKit Go.Proofs.YtoandmnefgimoaaDoorW.PrintWords Go.Proofs.YtoandmnefgimoaaDoorW.PrintLast Go.Proofs.YtoandmnefgimoaaDoorW.PrintMore
set_option linter.unusedVariables false
set_option linter.unusedSimpArgs false
def link_Link_fresh.T10 : Bool × List (List Nat × List Nat) := (true, [([], []), ([0], [0]), ([1], [1]), ([2], [2]), ([], []), ([4], [4]), ([3, 5], [3, 5]), ([0, 0, 1, 2, 3, 4, 5, 6], [0]), ([7, 0, 1, 2, 3, 4, 5, 6], [7]), ([8, 6, 0, 1, 2, 3, 4, 5, 6], [6, 8])])
def link_Link_fresh.B10 : List Nat := [0, 1, 3, 7, 0, 16, 63, 127, 255, 511]
theorem link_Link_fresh.tab10 : rtab .any (opsOf Tryd.f29 10) = link_Link_fresh.T10 := by kernel_rfl
theorem link_Link_fresh.bits10 : waitsOk link_Link_fresh.T10.2 link_Link_fresh.B10 = true := by kernel_rfl
def link_Link_fresh.F (L : LK) (n : Int) : Bool × LK :=
 if n > L.high then
  (if n - L.high < 64 then
   (if Go.bits .and .u64 (IntKind.u64.wrap (L.taken * 2 ^ (n - L.high).toNat)) 1 = 1 then (false, { L with high := n, taken := IntKind.u64.wrap (L.taken * 2 ^ (n - L.high).toNat) }) else (true, { L with high := n, taken := Go.bits .or .u64 (IntKind.u64.wrap (L.taken * 2 ^ (n - L.high).toNat)) 1 }))
  else (true, { L with high := n, taken := 1 }))
 else if L.high - n ≥ 64 then (false, L)
 else if Go.bits .and .u64 (L.taken / 2 ^ (L.high - n).toNat) 1 = 1 then (false, L)
 else (true, { L with taken := Go.bits .or .u64 L.taken (IntKind.u64.wrap (2 ^ (L.high - n).toNat)) })
set_option maxHeartbeats 4000000 in
set_option maxRecDepth 100000 in
theorem link_Link_fresh.calls (B g : Nat) (L : LK) (ok : Nat → Prop) (n : Int) (w : World) (hL : LKat w ok g L) (h1 : 1 ≤ n) (h2 : n ≤ 1099511627776) (h3 : 0 ≤ L.high) (h4 : L.high ≤ 1099511627776) (hB : ∀ k, ok k → B ≤ k) (hBw : B ≤ w.heap.size) :
 Calls Tryd.prog 29 #[.pointer (some ⟨g, 0, none⟩), .int .i64 n] w fun e w' => e = .returned (.bool (link_Link_fresh.F L n).1) ∧ LKat w' ok g (link_Link_fresh.F L n).2 ∧ Kept w w' ok ∧ Below B w w' := by
 have hu := Tryd.underlying71
 obtain ⟨vs_, hv⟩ := hL
 have BV0 := am_ hv
 have HB0 := am_ (Below.refl B w)
 have HK0 := am_ (kept_refl w ok)
 have HBB := am_ hB
 have HBW := am_ hBw
 clear hv hB hBw
 have z0_5 := (kc_ BV0.out.1 5).trans rfl
 have f0_5 := kf_ BV0.out.1 5
 have z0_7 := (kc_ BV0.out.1 7).trans rfl
 have f0_7 := kf_ BV0.out.1 7
 unfold link_Link_fresh.F
 by_cases c1 : n > L.high
 case pos =>
  rw [if_pos c1]
  have d1 := decide_eq_true c1
  by_cases c2 : n - L.high < 64
  case pos =>
   rw [if_pos c2]
   have d2 := decide_eq_true c2
   obtain ⟨T, hT⟩ : ∃ T : Int, IntKind.u64.wrap (L.taken * 2 ^ (n - L.high).toNat) = T := ⟨_, rfl⟩
   rw [hT]
   by_cases c3 : Go.bits .and .u64 T 1 = 1
   case pos =>
    rw [if_pos c3]
    have d3 : (Go.bits .and .u64 T 1 == 1) = true := beq_iff_eq.mpr c3
    clear c3
    go_enter Tryd.func29, Tryd.ntmps29
    go_wp2_with (first | ((with_reducible refine gate_store (t := 48) (p := 28) (v := .tmp 26) rfl ?_); refine sE 48 28 (.tmp 26) (w.setCell ⟨g, 7, none⟩ (.int .u64 T)) ?_; intro w1 hw; have BV1 := am_ (show LKv w1 ok g ({ L with taken := T }) vs_ by (rw [hw]; exact BV0.out.put (L' := { L with taken := T }) rfl 7 (.int .u64 T) rfl)); have HB1 := am_ (show Below B w w1 by (rw [hw]; exact HB0.out.setCell (HBB.out g BV0.out.2.2) _)); have HK1 := am_ (show Kept w w1 ok by (rw [hw]; exact kept_set HK0.out BV0.out.2.2 _)); have z1_5 := (kc_ BV1.out.1 5).trans rfl; have f1_5 := kf_ BV1.out.1 5; have z1_7 := (kc_ BV1.out.1 7).trans rfl; have f1_7 := kf_ BV1.out.1 7; clear hw) | ((with_reducible refine gate_store (t := 3) (p := 35) (v := .tmp 33) rfl ?_); refine sE 3 35 (.tmp 33) (w1.setCell ⟨g, 5, none⟩ (.int .i64 n)) ?_; intro w2 hw; have BV2 := am_ (show LKv w2 ok g ({ L with high := n, taken := T }) vs_ by (rw [hw]; exact BV1.out.put (L' := { L with high := n, taken := T }) rfl 5 (.int .i64 n) rfl)); have HB2 := am_ (show Below B w w2 by (rw [hw]; exact HB1.out.setCell (HBB.out g BV1.out.2.2) _)); have HK2 := am_ (show Kept w w2 ok by (rw [hw]; exact kept_set HK1.out BV1.out.2.2 _)); have z2_5 := (kc_ BV2.out.1 5).trans rfl; have f2_5 := kf_ BV2.out.1 5; have z2_7 := (kc_ BV2.out.1 7).trans rfl; have f2_7 := kf_ BV2.out.1 7; clear hw))
    go_ret
    exact ⟨rfl, ⟨vs_, BV2.out⟩, HK2.out, HB2.out⟩
   rw [if_neg c3]
   have d3 : (Go.bits .and .u64 T 1 == 1) = false := beq_eq_false_iff_ne.mpr c3
   clear c3
   go_enter Tryd.func29, Tryd.ntmps29
   go_wp2_with (first | ((with_reducible refine gate_store (t := 48) (p := 28) (v := .tmp 26) rfl ?_); refine sE 48 28 (.tmp 26) (w.setCell ⟨g, 7, none⟩ (.int .u64 T)) ?_; intro w1 hw; have BV1 := am_ (show LKv w1 ok g ({ L with taken := T }) vs_ by (rw [hw]; exact BV0.out.put (L' := { L with taken := T }) rfl 7 (.int .u64 T) rfl)); have HB1 := am_ (show Below B w w1 by (rw [hw]; exact HB0.out.setCell (HBB.out g BV0.out.2.2) _)); have HK1 := am_ (show Kept w w1 ok by (rw [hw]; exact kept_set HK0.out BV0.out.2.2 _)); have z1_5 := (kc_ BV1.out.1 5).trans rfl; have f1_5 := kf_ BV1.out.1 5; have z1_7 := (kc_ BV1.out.1 7).trans rfl; have f1_7 := kf_ BV1.out.1 7; clear hw) | ((with_reducible refine gate_store (t := 3) (p := 35) (v := .tmp 33) rfl ?_); refine sE 3 35 (.tmp 33) (w1.setCell ⟨g, 5, none⟩ (.int .i64 n)) ?_; intro w2 hw; have BV2 := am_ (show LKv w2 ok g ({ L with high := n, taken := T }) vs_ by (rw [hw]; exact BV1.out.put (L' := { L with high := n, taken := T }) rfl 5 (.int .i64 n) rfl)); have HB2 := am_ (show Below B w w2 by (rw [hw]; exact HB1.out.setCell (HBB.out g BV1.out.2.2) _)); have HK2 := am_ (show Kept w w2 ok by (rw [hw]; exact kept_set HK1.out BV1.out.2.2 _)); have z2_5 := (kc_ BV2.out.1 5).trans rfl; have f2_5 := kf_ BV2.out.1 5; have z2_7 := (kc_ BV2.out.1 7).trans rfl; have f2_7 := kf_ BV2.out.1 7; clear hw))
   refine start_ (n := 10) (S := fun w' => w'.heap[g]? = some (.cells #[.int .i64 ({ L with high := n, taken := T }).own, .int .i64 ({ L with high := n, taken := T }).other, .int .i64 ({ L with high := n, taken := T }).queue, .int .i64 ({ L with high := n, taken := T }).made, vs_, .int .i64 ({ L with high := n, taken := T }).high, .int .i64 ({ L with high := n, taken := T }).heard, .int .u64 ({ L with high := n, taken := T }).taken] 71 (0, 0))) (ds := [9]) #[false, false, false, false, false, false, false, false, false, false] (by kernel_rfl) rfl rfl (kd_ BV2.out.1) (fun hHeld => ?_)
   refine with_tabW link_Link_fresh.tab10 link_Link_fresh.bits10 (fun HT_ HW_ => ?_)
   have BV3 := am_ (show LKv w2.drew ok g ({ L with high := n, taken := T }) vs_ from BV2.out.step (fun _ _ _ => rfl))
   have HB3 := am_ (below_drew HB2.out)
   have HK3 := am_ (show Kept w w2.drew ok from HK2.out)
   generalize w2.drew = w3 at BV3 HB3 HK3 hHeld ⊢
   have z3_7 := (kc_ BV3.out.1 7).trans rfl
   have f3_7 := kf_ BV3.out.1 7
   refine pA 0 (some 54) #[o1,o0,o0,o0,o0,o0,o0,o0,o0,o0] HT_ ?_
   refine pA 1 (some 55) #[o1,o1,o0,o0,o0,o0,o0,o0,o0,o0] HT_ ?_
   refine pA 2 (some 56) #[o1,o1,o1,o0,o0,o0,o0,o0,o0,o0] HT_ ?_
   refine tA (v := ?_) 3 (some 57) #[o1,o1,o1,o1,o0,o0,o0,o0,o0,o0] HT_ HW_ hHeld ?_ ?_
   rotate_left
   ·
    rintro w' s0
    have q_ := (kc_ s0 7).trans rfl
    go_simp
    with_reducible rfl
   refine pA 4 (some 58) #[o1,o1,o1,o1,o1,o0,o0,o0,o0,o0] HT_ ?_
   refine pA 5 (some 59) #[o1,o1,o1,o1,o1,o1,o0,o0,o0,o0] HT_ ?_
   refine pA 6 (some 60) #[o1,o1,o1,o1,o1,o1,o1,o0,o0,o0] HT_ ?_
   refine pA 7 (some 61) #[o1,o1,o1,o1,o1,o1,o1,o1,o0,o0] HT_ ?_
   refine pA 8 (some 62) #[o1,o1,o1,o1,o1,o1,o1,o1,o1,o0] HT_ ?_
   refine last_ (i := 9) (N := none) #[true, true, true, true, true, true, true, true, true, true] rfl rfl (one_of HT_.out (by kernel_rfl)) (by decide) (fun K hK => ?_)
   refine skip_ (w1 := w3.setCell ⟨g, 7, none⟩ (.int .u64 (Go.bits .or .u64 T (IntKind.u64.wrap 1)))) (by rfl) rfl ?_ ?_
   ·
    go_simp
   refine hK.out _ _ ?_
   clear hK K
   generalize hw_ : w3.setCell ⟨g, 7, none⟩ (.int .u64 (Go.bits .or .u64 T (IntKind.u64.wrap 1))) = w4
   have BV4 := am_ (show LKv w4 ok g ({ L with high := n, taken := Go.bits .or .u64 T 1 }) vs_ by (rw [← hw_]; exact BV3.out.put (L' := { L with high := n, taken := Go.bits .or .u64 T 1 }) rfl 7 (.int .u64 (Go.bits .or .u64 T (IntKind.u64.wrap 1))) rfl))
   have HB4 := am_ (show Below B w w4 by (rw [← hw_]; exact HB3.out.setCell (HBB.out g BV3.out.2.2) _))
   have HK4 := am_ (show Kept w w4 ok by (rw [← hw_]; exact kept_set HK3.out BV3.out.2.2 _))
   clear hw_
   refine dA HT_ ?_
   go_wp2
   go_ret
   exact ⟨rfl, ⟨vs_, BV4.out⟩, HK4.out, HB4.out⟩
  rw [if_neg c2]
  have d2 := decide_eq_false c2
  go_enter Tryd.func29, Tryd.ntmps29
  go_wp2_with (first | ((with_reducible refine gate_store (t := 48) (p := 31) (v := .const (.int .u64 0)) rfl ?_); refine store_event rfl (t := 48) (p := 31) (v := .const (.int .u64 0)) rfl rfl (w1 := w.setCell ⟨g, 7, none⟩ (.int .u64 0)) ?hr ?_; (case hr => first | (go_simp; done) | (go_simp; rfl)); intro w1 hw; have BV1 := am_ (show LKv w1 ok g ({ L with taken := 0 }) vs_ by (rw [hw]; exact BV0.out.put (L' := { L with taken := 0 }) rfl 7 (.int .u64 0) rfl)); have HB1 := am_ (show Below B w w1 by (rw [hw]; exact HB0.out.setCell (HBB.out g BV0.out.2.2) _)); have HK1 := am_ (show Kept w w1 ok by (rw [hw]; exact kept_set HK0.out BV0.out.2.2 _)); have z1_5 := (kc_ BV1.out.1 5).trans rfl; have f1_5 := kf_ BV1.out.1 5; have z1_7 := (kc_ BV1.out.1 7).trans rfl; have f1_7 := kf_ BV1.out.1 7; clear hw) | ((with_reducible refine gate_store (t := 3) (p := 35) (v := .tmp 33) rfl ?_); refine sE 3 35 (.tmp 33) (w1.setCell ⟨g, 5, none⟩ (.int .i64 n)) ?_; intro w2 hw; have BV2 := am_ (show LKv w2 ok g ({ L with high := n, taken := 0 }) vs_ by (rw [hw]; exact BV1.out.put (L' := { L with high := n, taken := 0 }) rfl 5 (.int .i64 n) rfl)); have HB2 := am_ (show Below B w w2 by (rw [hw]; exact HB1.out.setCell (HBB.out g BV1.out.2.2) _)); have HK2 := am_ (show Kept w w2 ok by (rw [hw]; exact kept_set HK1.out BV1.out.2.2 _)); have z2_5 := (kc_ BV2.out.1 5).trans rfl; have f2_5 := kf_ BV2.out.1 5; have z2_7 := (kc_ BV2.out.1 7).trans rfl; have f2_7 := kf_ BV2.out.1 7; clear hw))
  refine start_ (n := 10) (S := fun w' => w'.heap[g]? = some (.cells #[.int .i64 ({ L with high := n, taken := 0 }).own, .int .i64 ({ L with high := n, taken := 0 }).other, .int .i64 ({ L with high := n, taken := 0 }).queue, .int .i64 ({ L with high := n, taken := 0 }).made, vs_, .int .i64 ({ L with high := n, taken := 0 }).high, .int .i64 ({ L with high := n, taken := 0 }).heard, .int .u64 ({ L with high := n, taken := 0 }).taken] 71 (0, 0))) (ds := [9]) #[false, false, false, false, false, false, false, false, false, false] (by kernel_rfl) rfl rfl (kd_ BV2.out.1) (fun hHeld => ?_)
  refine with_tabW link_Link_fresh.tab10 link_Link_fresh.bits10 (fun HT_ HW_ => ?_)
  have BV3 := am_ (show LKv w2.drew ok g ({ L with high := n, taken := 0 }) vs_ from BV2.out.step (fun _ _ _ => rfl))
  have HB3 := am_ (below_drew HB2.out)
  have HK3 := am_ (show Kept w w2.drew ok from HK2.out)
  generalize w2.drew = w3 at BV3 HB3 HK3 hHeld ⊢
  have z3_7 := (kc_ BV3.out.1 7).trans rfl
  have f3_7 := kf_ BV3.out.1 7
  refine pA 0 (some 54) #[o1,o0,o0,o0,o0,o0,o0,o0,o0,o0] HT_ ?_
  refine pA 1 (some 55) #[o1,o1,o0,o0,o0,o0,o0,o0,o0,o0] HT_ ?_
  refine pA 2 (some 56) #[o1,o1,o1,o0,o0,o0,o0,o0,o0,o0] HT_ ?_
  refine tA (v := ?_) 3 (some 57) #[o1,o1,o1,o1,o0,o0,o0,o0,o0,o0] HT_ HW_ hHeld ?_ ?_
  rotate_left
  ·
   rintro w' s0
   have q_ := (kc_ s0 7).trans rfl
   go_simp
   with_reducible rfl
  refine pA 4 (some 58) #[o1,o1,o1,o1,o1,o0,o0,o0,o0,o0] HT_ ?_
  refine pA 5 (some 59) #[o1,o1,o1,o1,o1,o1,o0,o0,o0,o0] HT_ ?_
  refine pA 6 (some 60) #[o1,o1,o1,o1,o1,o1,o1,o0,o0,o0] HT_ ?_
  refine pA 7 (some 61) #[o1,o1,o1,o1,o1,o1,o1,o1,o0,o0] HT_ ?_
  refine pA 8 (some 62) #[o1,o1,o1,o1,o1,o1,o1,o1,o1,o0] HT_ ?_
  refine last_ (i := 9) (N := none) #[true, true, true, true, true, true, true, true, true, true] rfl rfl (one_of HT_.out (by kernel_rfl)) (by decide) (fun K hK => ?_)
  refine skip_ (w1 := w3.setCell ⟨g, 7, none⟩ (.int .u64 (Go.bits .or .u64 0 (IntKind.u64.wrap 1)))) (by rfl) rfl ?_ ?_
  ·
   go_simp
  refine hK.out _ _ ?_
  clear hK K
  generalize hw_ : w3.setCell ⟨g, 7, none⟩ (.int .u64 (Go.bits .or .u64 0 (IntKind.u64.wrap 1))) = w4
  have BV4 := am_ (show LKv w4 ok g ({ L with high := n, taken := 1 }) vs_ by (rw [← hw_]; exact BV3.out.put (L' := { L with high := n, taken := 1 }) rfl 7 (.int .u64 (Go.bits .or .u64 0 (IntKind.u64.wrap 1))) rfl))
  have HB4 := am_ (show Below B w w4 by (rw [← hw_]; exact HB3.out.setCell (HBB.out g BV3.out.2.2) _))
  have HK4 := am_ (show Kept w w4 ok by (rw [← hw_]; exact kept_set HK3.out BV3.out.2.2 _))
  clear hw_
  refine dA HT_ ?_
  go_wp2
  go_ret
  exact ⟨rfl, ⟨vs_, BV4.out⟩, HK4.out, HB4.out⟩
 rw [if_neg c1]
 have d1 := decide_eq_false c1
 by_cases c2 : L.high - n ≥ 64
 case pos =>
  rw [if_pos c2]
  have d2 := decide_eq_true c2
  go_enter Tryd.func29, Tryd.ntmps29
  go_wp2
  go_ret
  exact ⟨rfl, ⟨vs_, BV0.out⟩, HK0.out, HB0.out⟩
 rw [if_neg c2]
 have d2 := decide_eq_false c2
 by_cases c3 : Go.bits .and .u64 (L.taken / 2 ^ (L.high - n).toNat) 1 = 1
 case pos =>
  rw [if_pos c3]
  have d3 : (Go.bits .and .u64 (L.taken / 2 ^ (L.high - n).toNat) 1 == 1) = true := beq_iff_eq.mpr c3
  clear c3
  go_enter Tryd.func29, Tryd.ntmps29
  go_wp2
  go_ret
  exact ⟨rfl, ⟨vs_, BV0.out⟩, HK0.out, HB0.out⟩
 rw [if_neg c3]
 have d3 : (Go.bits .and .u64 (L.taken / 2 ^ (L.high - n).toNat) 1 == 1) = false := beq_eq_false_iff_ne.mpr c3
 clear c3
 go_enter Tryd.func29, Tryd.ntmps29
 go_wp2
 refine start_ (n := 10) (S := fun w' => w'.heap[g]? = some (.cells #[.int .i64 (L).own, .int .i64 (L).other, .int .i64 (L).queue, .int .i64 (L).made, vs_, .int .i64 (L).high, .int .i64 (L).heard, .int .u64 (L).taken] 71 (0, 0))) (ds := [9]) #[false, false, false, false, false, false, false, false, false, false] (by kernel_rfl) rfl rfl (kd_ BV0.out.1) (fun hHeld => ?_)
 refine with_tabW link_Link_fresh.tab10 link_Link_fresh.bits10 (fun HT_ HW_ => ?_)
 have BV1 := am_ (show LKv w.drew ok g (L) vs_ from BV0.out.step (fun _ _ _ => rfl))
 have HB1 := am_ (below_drew HB0.out)
 have HK1 := am_ (show Kept w w.drew ok from HK0.out)
 generalize w.drew = w1 at BV1 HB1 HK1 hHeld ⊢
 have z1_7 := (kc_ BV1.out.1 7).trans rfl
 have f1_7 := kf_ BV1.out.1 7
 refine pA 0 (some 54) #[o1,o0,o0,o0,o0,o0,o0,o0,o0,o0] HT_ ?_
 refine pA 1 (some 55) #[o1,o1,o0,o0,o0,o0,o0,o0,o0,o0] HT_ ?_
 refine pA 2 (some 56) #[o1,o1,o1,o0,o0,o0,o0,o0,o0,o0] HT_ ?_
 refine tA (v := ?_) 3 (some 57) #[o1,o1,o1,o1,o0,o0,o0,o0,o0,o0] HT_ HW_ hHeld ?_ ?_
 rotate_left
 ·
  rintro w' s0
  have q_ := (kc_ s0 7).trans rfl
  go_simp
  with_reducible rfl
 refine pA 4 (some 58) #[o1,o1,o1,o1,o1,o0,o0,o0,o0,o0] HT_ ?_
 refine pA 5 (some 59) #[o1,o1,o1,o1,o1,o1,o0,o0,o0,o0] HT_ ?_
 refine pA 6 (some 60) #[o1,o1,o1,o1,o1,o1,o1,o0,o0,o0] HT_ ?_
 refine pA 7 (some 61) #[o1,o1,o1,o1,o1,o1,o1,o1,o0,o0] HT_ ?_
 refine pA 8 (some 62) #[o1,o1,o1,o1,o1,o1,o1,o1,o1,o0] HT_ ?_
 refine last_ (i := 9) (N := none) #[true, true, true, true, true, true, true, true, true, true] rfl rfl (one_of HT_.out (by kernel_rfl)) (by decide) (fun K hK => ?_)
 refine skip_ (w1 := w1.setCell ⟨g, 7, none⟩ (.int .u64 (Go.bits .or .u64 L.taken (IntKind.u64.wrap (2 ^ (L.high - n).toNat))))) (by rfl) rfl ?_ ?_
 ·
  go_simp
 refine hK.out _ _ ?_
 clear hK K
 generalize hw_ : w1.setCell ⟨g, 7, none⟩ (.int .u64 (Go.bits .or .u64 L.taken (IntKind.u64.wrap (2 ^ (L.high - n).toNat)))) = w2
 have BV2 := am_ (show LKv w2 ok g ({ L with taken := Go.bits .or .u64 L.taken (IntKind.u64.wrap (2 ^ (L.high - n).toNat)) }) vs_ by (rw [← hw_]; exact BV1.out.put (L' := { L with taken := Go.bits .or .u64 L.taken (IntKind.u64.wrap (2 ^ (L.high - n).toNat)) }) rfl 7 (.int .u64 (Go.bits .or .u64 L.taken (IntKind.u64.wrap (2 ^ (L.high - n).toNat)))) rfl))
 have HB2 := am_ (show Below B w w2 by (rw [← hw_]; exact HB1.out.setCell (HBB.out g BV1.out.2.2) _))
 have HK2 := am_ (show Kept w w2 ok by (rw [← hw_]; exact kept_set HK1.out BV1.out.2.2 _))
 clear hw_
 refine dA HT_ ?_
 go_wp2
 go_ret
 exact ⟨rfl, ⟨vs_, BV2.out⟩, HK2.out, HB2.out⟩
end Go.Proofs.YtoandmnefgimoaaDoor.PL
