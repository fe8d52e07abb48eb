import Derived.Test.YtoandmnefgimoaaDoorLBPLx0
import Derived.Test.YtoandmnefgimoaaDoorLBPLx2
namespace Go.Proofs.YtoandmnefgimoaaDoor.PL
open Go.RowKit Go.Proofs.YtoandmnefgimoaaDoorW.PrintWords Go.Proofs.YtoandmnefgimoaaDoorW.PrintLast Go.Proofs.YtoandmnefgimoaaDoorW.PrintMore
set_option linter.unusedVariables false
set_option linter.unusedSimpArgs false
def link_Link_put.T1 : Bool × List (List Nat × List Nat) := (true, [([], []), ([0], [0]), ([1], [1]), ([2], [2]), ([3], [3]), ([], []), ([5], [5]), ([6], [6]), ([7], [7]), ([4, 8], [4, 8])])
def link_Link_put.B1 : List Nat := [0, 1, 3, 7, 15, 0, 32, 96, 224, 511]
theorem link_Link_put.tab1 : rtab .any (opsOf Tryd.f22 1) = link_Link_put.T1 := by kernel_rfl
theorem link_Link_put.bits1 : waitsOk link_Link_put.T1.2 link_Link_put.B1 = true := by kernel_rfl
def putE (L : LK) : Int := if (L.ws.length : Int) ≥ L.queue then 9 else 0
def putL (L : LK) (kind : Int) (l : List Int) : LK := if (L.ws.length : Int) ≥ L.queue then L else { L with ws := L.ws ++ [⟨kind, l⟩] }
set_option maxHeartbeats 4000000 in
set_option maxRecDepth 100000 in
theorem link_Link_put.calls (B g : Nat) (L : LK) (ok okb : Nat → Prop) (kind : Int) (A : Option Addr) (c : Nat) (l : List Int) (w : World) (hL : LKat w ok g L) (hb : Kd.R (Kd.int .u8) 5 w 0 okb (.slice A l.length c) l) (hd : ∀ k, okb k → ¬ ok k) (hlen : L.ws.length < 1000) (hB : ∀ k, ok k → B ≤ k) (hBw : B ≤ w.heap.size) :
 Calls Tryd.prog 22 #[.pointer (some ⟨g, 0, none⟩), .int .u8 kind, .slice A l.length c] w fun e w' => e = .returned (.int .i64 (putE L)) ∧ LKat w' (fun k => ok k ∨ okb k ∨ w.heap.size ≤ k) g (putL L kind l) ∧ Kept w w' ok ∧ Below B w w' := by
 have hu := Tryd.underlying71
 obtain ⟨v, hv⟩ := hL
 obtain ⟨Av, cv, rfl, hcv⟩ := hv.slice
 have BV := am_ hv
 have BK := am_ hv.1
 have BR := am_ hb
 have HD := am_ hd
 have HL := am_ hlen
 have HBB := am_ hB
 have HBW := am_ hBw
 clear hb hd hlen hB hBw hv hcv
 by_cases hq : (L.ws.length : Int) ≥ L.queue
 case pos =>
  have b1 := decide_eq_true hq
  rw [show putE L = 9 from if_pos hq]
  have hp : putL L kind l = L := if_pos hq
  rw [hp]
  clear hq hp
  go_enter Tryd.func22, Tryd.ntmps22
  go_wp2
  refine start_ (n := 10) (S := fun w' => w'.heap[g]? = some (.cells #[.int .i64 L.own, .int .i64 L.other, .int .i64 L.queue, .int .i64 L.made, .slice Av L.ws.length cv, .int .i64 L.high, .int .i64 L.heard, .int .u64 L.taken] 71 (0, 0))) (ds := []) #[false, false, false, false, false, false, false, false, false, false] (by kernel_rfl) rfl rfl (kd_ BK.out) (fun hHeld => ?_)
  refine with_tabW link_Link_put.tab1 link_Link_put.bits1 (fun HT_ HW_ => ?_)
  refine pA 0 (some 7) #[o1,o0,o0,o0,o0,o0,o0,o0,o0,o0] HT_ ?_
  refine pA 1 (some 8) #[o1,o1,o0,o0,o0,o0,o0,o0,o0,o0] HT_ ?_
  refine pA 2 (some 9) #[o1,o1,o1,o0,o0,o0,o0,o0,o0,o0] HT_ ?_
  refine tA (v := ?_) 3 (some 10) #[o1,o1,o1,o1,o0,o0,o0,o0,o0,o0] HT_ HW_ hHeld ?_ ?_
  rotate_left
  ·
   rintro w' s0
   have q_ := (kc_ s0 4).trans rfl
   go_simp
   with_reducible rfl
  refine pA 4 (some 11) #[o1,o1,o1,o1,o1,o0,o0,o0,o0,o0] HT_ ?_
  refine pA 5 (some 12) #[o1,o1,o1,o1,o1,o1,o0,o0,o0,o0] HT_ ?_
  refine pA 6 (some 13) #[o1,o1,o1,o1,o1,o1,o1,o0,o0,o0] HT_ ?_
  refine pA 7 (some 14) #[o1,o1,o1,o1,o1,o1,o1,o1,o0,o0] HT_ ?_
  refine tA (v := ?_) 8 (some 15) #[o1,o1,o1,o1,o1,o1,o1,o1,o1,o0] HT_ HW_ hHeld ?_ ?_
  rotate_left
  ·
   rintro w' s0
   have q_ := (kc_ s0 2).trans rfl
   go_simp
   with_reducible rfl
  refine pA 9 (some 16) #[o1,o1,o1,o1,o1,o1,o1,o1,o1,o1] HT_ ?_
  refine dA HT_ ?_
  have BV1 := am_ (show LKv w.drew ok g L (.slice Av L.ws.length cv) from BV.out.step (fun _ _ _ => rfl))
  have HB1 := am_ (show Below B w w.drew from below_drew (Below.refl _ _))
  have HK1 := am_ (show Kept w w.drew ok from ⟨Nat.le_refl _, fun _ _ _ => rfl⟩)
  have BR1 := am_ (Kd.R_drew BR.out)
  have HS1 := am_ (show w.drew.heap.size = w.heap.size from rfl)
  generalize w.drew = w1 at BV1 HB1 HK1 BR1 HS1 ⊢
  go_wp2
  go_ret
  exact ⟨rfl, ⟨_, BV1.out.mono (fun k hk => Or.inl hk)⟩, HK1.out, HB1.out⟩
 have b1 := decide_eq_false hq
 rw [show putE L = 0 from if_neg hq]
 have hp : putL L kind l = { L with ws := L.ws ++ [⟨kind, l⟩] } := if_neg hq
 rw [hp]
 clear hq hp
 go_enter Tryd.func22, Tryd.ntmps22
 go_wp2
 refine start_ (n := 10) (S := fun w' => w'.heap[g]? = some (.cells #[.int .i64 L.own, .int .i64 L.other, .int .i64 L.queue, .int .i64 L.made, .slice Av L.ws.length cv, .int .i64 L.high, .int .i64 L.heard, .int .u64 L.taken] 71 (0, 0))) (ds := []) #[false, false, false, false, false, false, false, false, false, false] (by kernel_rfl) rfl rfl (kd_ BK.out) (fun hHeld => ?_)
 refine with_tabW link_Link_put.tab1 link_Link_put.bits1 (fun HT_ HW_ => ?_)
 refine pA 0 (some 7) #[o1,o0,o0,o0,o0,o0,o0,o0,o0,o0] HT_ ?_
 refine pA 1 (some 8) #[o1,o1,o0,o0,o0,o0,o0,o0,o0,o0] HT_ ?_
 refine pA 2 (some 9) #[o1,o1,o1,o0,o0,o0,o0,o0,o0,o0] HT_ ?_
 refine tA (v := ?_) 3 (some 10) #[o1,o1,o1,o1,o0,o0,o0,o0,o0,o0] HT_ HW_ hHeld ?_ ?_
 rotate_left
 ·
  rintro w' s0
  have q_ := (kc_ s0 4).trans rfl
  go_simp
  with_reducible rfl
 refine pA 4 (some 11) #[o1,o1,o1,o1,o1,o0,o0,o0,o0,o0] HT_ ?_
 refine pA 5 (some 12) #[o1,o1,o1,o1,o1,o1,o0,o0,o0,o0] HT_ ?_
 refine pA 6 (some 13) #[o1,o1,o1,o1,o1,o1,o1,o0,o0,o0] HT_ ?_
 refine pA 7 (some 14) #[o1,o1,o1,o1,o1,o1,o1,o1,o0,o0] HT_ ?_
 refine tA (v := ?_) 8 (some 15) #[o1,o1,o1,o1,o1,o1,o1,o1,o1,o0] HT_ HW_ hHeld ?_ ?_
 rotate_left
 ·
  rintro w' s0
  have q_ := (kc_ s0 2).trans rfl
  go_simp
  with_reducible rfl
 refine pA 9 (some 16) #[o1,o1,o1,o1,o1,o1,o1,o1,o1,o1] HT_ ?_
 refine dA HT_ ?_
 have BV1 := am_ (show LKv w.drew ok g L (.slice Av L.ws.length cv) from BV.out.step (fun _ _ _ => rfl))
 have HB1 := am_ (show Below B w w.drew from below_drew (Below.refl _ _))
 have HK1 := am_ (show Kept w w.drew ok from ⟨Nat.le_refl _, fun _ _ _ => rfl⟩)
 have BR1 := am_ (Kd.R_drew BR.out)
 have HS1 := am_ (show w.drew.heap.size = w.heap.size from rfl)
 generalize w.drew = w1 at BV1 HB1 HK1 BR1 HS1 ⊢
 have BX1 := am_ BV1.out.1
 have hz1 := (kc_ BX1.out 4).trans rfl
 go_wp2_with (first | ((with_reducible refine gate_builtin (b := .append) rfl ?_); refine Kd.Q_append k79 (w0 := w1) 0 (by rfl) (.tmp 21) (.tmp 25) 69 79 (.agg #[(.int .u8 0), (.slice none 0 0)]) 32 rfl Tryd.underlying69 info79 rfl (by decide) (by decide) (.slice Av L.ws.length cv) L.ws (⟨kind, l⟩ : S79) [.int .u8 kind, .slice A l.length c] (fun k => (ok k ∨ okb k ∨ w.heap.size ≤ k) ∧ k ≠ g) okb rfl rfl (k79_mkM _ _ _ (⟨kind, l⟩ : S79) BR1.out) ?a1 ?a2 (Kd.Q_mono BV1.out.2.1 (fun k hk => ⟨Or.inl hk.1, hk.2⟩)) (Below.refl _ _) (Nat.zero_le _) ?a3 ?_; (case a1 => exact fun k hk => ⟨⟨Or.inr (Or.inl hk), fun e_ => HD.out k hk (by rw [e_]; exact BV1.out.2.2)⟩, fun e_ => HD.out k hk (BV1.out.2.1.1 k e_.symm).1⟩); (case a2 => exact fun k hk => ⟨Or.inr (Or.inr (by have := HS1.out; omega)), fun e_ => by have := blk_lt BV1.out.1; omega⟩); (case a3 => have := HL.out; omega); intro v2 w2 ho hb hg hat; have BX2 := am_ (blk_grown BV1.out.1 hg (Kd.Q_ne BV1.out.2.1 BV1.out.1 (by decide))); have HQ2 := am_ ho; have HB2 := am_ (HB1.out.trans ((Below.refl B w1).grown hg (by have := HS1.out; have := HBW.out; omega) (fun k hk => HBB.out k (BV1.out.2.1.1 k hk).1))); have HK2 := am_ (kept_grown HK1.out hg (fun k hk _ => (BV1.out.2.1.1 k hk).1)); obtain ⟨A2, c2, e2, _⟩ := Kd.Q_slice ho; subst e2; clear ho hb hg hat; have fz2 := kf_ BX2.out 4; have hz2 := (kc_ BX2.out 4).trans rfl) | ((with_reducible refine gate_store (t := 69) (p := 28) (v := .tmp 26) rfl ?_); refine sE 69 28 (.tmp 26) (w2.setCell ⟨g, 4, none⟩ (.slice A2 (L.ws ++ [(⟨kind, l⟩ : S79)]).length c2)) ?_; intro w3 hw; have BX3 := am_ (show w3.heap[g]? = some (.cells #[.int .i64 L.own, .int .i64 L.other, .int .i64 L.queue, .int .i64 L.made, .slice A2 (L.ws ++ [(⟨kind, l⟩ : S79)]).length c2, .int .i64 L.high, .int .i64 L.heard, .int .u64 L.taken] 71 (0, 0)) by (rw [hw]; exact blk_put BX2.out 4 _ rfl)); have HQ3 := am_ (show Kd.Q k79 79 w3 0 (fun k => (ok k ∨ okb k ∨ w.heap.size ≤ k) ∧ k ≠ g) (.slice A2 (L.ws ++ [(⟨kind, l⟩ : S79)]).length c2) (L.ws ++ [⟨kind, l⟩]) by (rw [hw]; exact Kd.Q_far HQ2.out (p := ⟨g, 4, none⟩) (fun k hk => hk.2) _)); have HB3 := am_ (show Below B w w3 by (rw [hw]; exact HB2.out.setCell (HBB.out g BV1.out.2.2) _)); have HK3 := am_ (show Kept w w3 ok by (rw [hw]; exact kept_set HK2.out BV1.out.2.2 _)); clear hw fz2 hz2))
 go_ret
 exact ⟨rfl, ⟨_, BX3.out, HQ3.out, Or.inl BV1.out.2.2⟩, HK3.out, HB3.out⟩
end Go.Proofs.YtoandmnefgimoaaDoor.PL
