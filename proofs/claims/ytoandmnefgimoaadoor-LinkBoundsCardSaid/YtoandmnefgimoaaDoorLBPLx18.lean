import Derived.Test.YtoandmnefgimoaaDoorLBPLx0
import Derived.Test.YtoandmnefgimoaaDoorLBPLx15
import Derived.Test.YtoandmnefgimoaaDoorLBPLx17
namespace Go.Proofs.YtoandmnefgimoaaDoor.PL
open Go.RowKit Go.Proofs.YtoandmnefgimoaaDoorW.PrintWords Go.Proofs.YtoandmnefgimoaaDoorW.PrintLast Go.Proofs.YtoandmnefgimoaaDoorW.PrintMore
set_option linter.unusedVariables false
set_option linter.unusedSimpArgs false
def parcel_taker_item.f (k : Nat) (l0 : List Int) (at_ e : Int) : Option (Int × Int × List Int × Int × Int) :=
 (parcel_taker_num.f k l0 at_ e 1099511627776).bind fun a => (parcel_taker_num.f k l0 a.2.1 a.2.2 4294967295).bind fun b => (parcel_taker_num.f k l0 b.2.1 b.2.2 400).bind fun c =>
 if c.2.2 = 0 then (if c.1 > wrap64 ((l0.length : Int) - c.2.1) then some (a.1, b.1 % 4294967296, [], c.2.1, 3)
  else (if 0 ≤ c.2.1 then (if c.2.1 ≤ wrap64 (c.2.1 + c.1) then (if wrap64 (c.2.1 + c.1) ≤ (l0.length : Int) then (slices_Clone_byte_byte.f ((l0.take (wrap64 (c.2.1 + c.1)).toNat).drop c.2.1.toNat)).bind fun q => some (a.1, b.1 % 4294967296, q, wrap64 (c.2.1 + c.1), 0) else none) else none) else none))
 else some (a.1, b.1 % 4294967296, [], c.2.1, c.2.2)
theorem parcel_taker_item.keep_new {w W : World} {g : Nat} (h : KeepBut w W g none) {b : Nat} (hb : w.heap.size ≤ b) (j : Nat) (u : Value) : KeepBut w (W.setCell ⟨b, j, none⟩ u) g none :=
 ⟨by simpa [World.setCell] using h.1, fun i hi hg hr => (Below.heap_setCell W ⟨b, j, none⟩ u i (fun e_ => by simp only at e_; omega)).trans (h.2 i hi hg hr)⟩
theorem parcel_taker_item.keep_far {W W' : World} {g i : Nat} {o : Obj} (hk : KeepBut W W' g none) (h : W.heap[i]? = some o) (hne : i ≠ g) : W'.heap[i]? = some o := (hk.2 i (blk_lt h) hne (by simp)).trans h
theorem parcel_taker_item.R_farT {α : Type} {d : Kd α} {e base : Nat} {v : Value} {xs : List α} {w w' : World} (h : Kd.R d e w base (fun _ => True) v xs) {g t : Nat} {cs : Array Value} (hb : w.heap[g]? = some (.cells cs t (0, 0))) (ht : ∀ q, q ∈ e :: d.E → q ≠ t) (hf : ∀ i, i ≠ g → w'.heap[i]? = w.heap[i]?) : Kd.R d e w' base (fun _ => True) v xs :=
 Kd.R_mono (Kd.R_step (Kd.R_bound h) (fun k hk _ => hf k (fun e_ => by
  subst e_
  obtain ⟨_, _, _, q, hq, cells, hc⟩ := hk
  rw [hb] at hc
  injection hc with hc
  injection hc with _ hc _
  exact ht q hq hc.symm))) (fun _ _ => trivial)
theorem parcel_taker_item.ne_bytes : ∀ t, t ≠ 5 → ∀ q, q ∈ 5 :: Kd.E (Kd.int .u8) → q ≠ t := fun t ht q hq => by
 have hq' : q ∈ [5] := hq
 simp only [List.mem_singleton] at hq'
 subst hq'
 exact ht.symm
theorem parcel_taker_item.far1 (w : World) (g j : Nat) (u : Value) (i : Nat) (h : i ≠ g) : (w.setCell ⟨g, j, none⟩ u).heap[i]? = w.heap[i]? := Below.heap_setCell w ⟨g, j, none⟩ u i h
theorem parcel_taker_item.keep_then {w W W' : World} {g : Nat} (h : KeepBut w W g none) (hk : KeepBut W W' g none) : KeepBut w W' g none := h.trans hk (.inl rfl)
def parcel_taker_item.T3 : Bool × List (List Nat × List Nat) := (true, [([], []), ([0], [0]), ([1], [1]), ([2], [2]), ([3], [3]), ([4], [4]), ([5], [5]), ([5], [5]), ([7, 5], [5, 7]), ([8, 5], [5, 8]), ([9, 5], [5, 9]), ([10, 5], [5, 10]), ([5], [5]), ([12, 5], [5, 12]), ([13, 5], [5, 13]), ([14, 5], [5, 14]), ([11, 15, 5], [5, 11, 15]), ([6, 16, 5], [5, 6, 16]), ([5, 17], [5, 17])])
def parcel_taker_item.B3 : List Nat := [0, 1, 3, 7, 15, 31, 63, 63, 191, 447, 959, 1983, 63, 4159, 12351, 28735, 65471, 131071, 262143]
theorem parcel_taker_item.tab3 : rtab .any (opsOf Tryd.f54 3) = parcel_taker_item.T3 := by kernel_rfl
theorem parcel_taker_item.bits3 : waitsOk parcel_taker_item.T3.2 parcel_taker_item.B3 = true := by kernel_rfl
def parcel_taker_item.T6 : Bool × List (List Nat × List Nat) := (true, [([], []), ([0], [0]), ([1], [1]), ([2], [2]), ([], []), ([4], [4]), ([5], [5]), ([6], [6]), ([], []), ([8], [8]), ([9], [9]), ([10], [10]), ([], []), ([11, 12], [11, 12]), ([3, 7, 13], [3, 7, 13]), ([14], [14]), ([0, 1, 2, 3, 4, 5, 6, 7, 8, 9, 10, 11, 12, 13, 14, 15], []), ([16, 15, 15, 0, 1, 2, 3, 4, 5, 6, 7, 8, 9, 10, 11, 12, 13, 14, 15], [15, 16])])
def parcel_taker_item.B6 : List Nat := [0, 1, 3, 7, 0, 16, 48, 112, 0, 256, 768, 1792, 0, 7936, 16383, 32767, 65535, 131071]
theorem parcel_taker_item.tab6 : rtab .any (opsOf Tryd.f54 6) = parcel_taker_item.T6 := by kernel_rfl
theorem parcel_taker_item.bits6 : waitsOk parcel_taker_item.T6.2 parcel_taker_item.B6 = true := by kernel_rfl
set_option maxHeartbeats 8000000 in
set_option maxRecDepth 100000 in
theorem parcel_taker_item.calls (k gt : Nat) (A0 : Option Addr) (c0 : Nat) (l0 : List Int) (at_ e r1 r2 : Int) (r3 : List Int) (r4 r5 : Int) (w0 w : World) (hr0 : Kd.C (Kd.int .u8) w0 A0 l0.length l0) (hc0 : l0.length ≤ c0) (hB : Below w0.heap.size w0 w) (hg : w0.heap.size ≤ gt)
 (hb : w.heap[gt]? = some (.cells #[.slice A0 l0.length c0, .int .i64 at_, .int .i64 e] 118 (0, 0))) (h : parcel_taker_item.f k l0 at_ e = some (r1, r2, r3, r4, r5)) :
 Calls Tryd.prog 54 #[.pointer (some ⟨gt, 0, none⟩)] w fun x w' => ∃ v, x = .returned (.agg #[.int .i64 r1, .int .u32 r2, v]) ∧ Kd.R (Kd.int .u8) 5 w' w.heap.size (fun _ => True) v r3 ∧ w'.heap[gt]? = some (.cells #[.slice A0 l0.length c0, .int .i64 r4, .int .i64 r5] 118 (0, 0)) ∧ Below w0.heap.size w0 w' ∧ KeepBut w w' gt none := by
 have hu := Tryd.underlying118
 have hu62 := Tryd.underlying77
 have HR0 := am_ hr0
 have HC0 := am_ hc0
 have HB := am_ hB
 have BT := am_ hb
 have HG := am_ hg
 have GT := am_ (blk_lt hb)
 have HSZ := am_ hB.size
 clear hr0 hc0 hB hb hg
 unfold parcel_taker_item.f at h
 obtain ⟨⟨a1, a2, a3⟩, ha, h⟩ := Option.bind_eq_some_iff.mp h
 obtain ⟨⟨b1, b2, b3⟩, hb, h⟩ := Option.bind_eq_some_iff.mp h
 obtain ⟨⟨c1, c2, c3⟩, hc, h⟩ := Option.bind_eq_some_iff.mp h
 dsimp only at ha hb hc h
 have HNA := am_ ha
 have HNB := am_ hb
 have HNC := am_ hc
 clear ha hb hc
 by_cases h1 : c3 = 0
 case neg =>
  rw [if_neg h1] at h
  simp only [Option.some.injEq, Prod.mk.injEq] at h
  obtain ⟨rfl, rfl, rfl, rfl, rfl⟩ := h
  have e1 : (c3 == 0) = false := beq_eq_false_iff_ne.mpr h1
  clear h1
  go_enter Tryd.func54, Tryd.ntmps54
  go_wp2_with (first | ((with_reducible refine gd_ (N := 2) rfl ?_); refine bE 2 #[.int .i64 0, .int .u32 0, .slice none 0 0] 77 ?_; intro gr hg w1 hbox hb; have HB1 := am_ (below_step HB.out hb); have BT1 := am_ (blk_below BT.out hb); have Ggr := am_ (show w.heap.size ≤ gr by rw [hg]; exact Nat.le_refl _); have HK1 := am_ (KeepBut.of_below hb gt none); have Ngr := am_ (show gr ≠ gt from fun e_ => by have := GT.out; omega); have Bgr1 := am_ hbox; clear hb hbox hg) | ((with_reducible refine gd_ (N := 6) rfl ?_); refine gL (some 6) Tryd.func52 #[.pointer (some ⟨gt, 0, none⟩), .int .u64 1099511627776] ?_; refine (parcel_taker_num.calls k gt A0 c0 l0 at_ e 1099511627776 a1 a2 a3 w0 _ HR0.out HC0.out HB1.out HG.out BT1.out HNA.out).mono ?_; rintro x w2 ⟨rfl, hbt, hb, hk⟩; refine ⟨_, rfl, ?_⟩; have HB2 := am_ hb; have BT2 := am_ hbt; have HK2 := am_ (parcel_taker_item.keep_then HK1.out hk); have Bgr2 := am_ (parcel_taker_item.keep_far hk Bgr1.out Ngr.out); clear hb hbt hk) | ((with_reducible refine gd_ (N := 8) rfl ?_); refine gL (some 8) Tryd.func52 #[.pointer (some ⟨gt, 0, none⟩), .int .u64 4294967295] ?_; refine (parcel_taker_num.calls k gt A0 c0 l0 a2 a3 4294967295 b1 b2 b3 w0 _ HR0.out HC0.out HB2.out HG.out BT2.out HNB.out).mono ?_; rintro x w3 ⟨rfl, hbt, hb, hk⟩; refine ⟨_, rfl, ?_⟩; have HB3 := am_ hb; have BT3 := am_ hbt; have HK3 := am_ (parcel_taker_item.keep_then HK2.out hk); have Bgr3 := am_ (parcel_taker_item.keep_far hk Bgr2.out Ngr.out); clear hb hbt hk) | ((with_reducible refine gd_ (N := 3) rfl ?_); refine bE 3 #[.int .i64 0, .int .u32 0, .slice none 0 0] 77 ?_; intro gx hg w4 hbox hb; have HB4 := am_ (below_step HB3.out hb); have BT4 := am_ (blk_below BT3.out hb); have Ggx := am_ (show w.heap.size ≤ gx by (rw [hg]; exact HK3.out.1)); have HK4 := am_ (parcel_taker_item.keep_then HK3.out (KeepBut.of_below hb gt none)); have Ngx := am_ (show gx ≠ gt from fun e_ => by have := GT.out; have := HK3.out.1; omega); have Brx := am_ (show gr ≠ gx from fun e_ => absurd (blk_lt Bgr3.out) (by rw [e_, hg]; exact Nat.lt_irrefl _)); have Bgr4 := am_ (blk_below Bgr3.out hb); have Bgx4 := am_ hbox; have hzn_0 : w4.cell? ⟨gx, 0, none⟩ = some (.int .i64 0) := (kc_ Bgx4.out 0).trans rfl; have hzn_1 : w4.cell? ⟨gx, 1, none⟩ = some (.int .u32 0) := (kc_ Bgx4.out 1).trans rfl; have hzn_2 : w4.cell? ⟨gx, 2, none⟩ = some (.slice none 0 0) := (kc_ Bgx4.out 2).trans rfl; have fzn_0 := kf_ Bgx4.out 0; have fzn_1 := kf_ Bgx4.out 1; have fzn_2 := kf_ Bgx4.out 2; clear hb hbox hg) | ((with_reducible refine gate_store (t := 77) (p := 3) (v := .tmp 10) rfl ?_); refine sE 77 3 (.tmp 10) (sets gx w4 0 [.int .i64 a1, .int .u32 (b1 % 4294967296), .slice none 0 0]) ?_; intro w5 hw; have Bgx5 := am_ (show w5.heap[gx]? = some (.cells #[.int .i64 a1, .int .u32 (b1 % 4294967296), .slice none 0 0] 77 (0, 0)) by (rw [hw]; exact blk_put (blk_put (blk_put (Bgx4.out) 0 _ rfl) 1 _ rfl) 2 _ rfl)); have HB5 := am_ (show Below w0.heap.size w0 w5 by (rw [hw]; exact bs_ (bs_ (bs_ (HB4.out) (Nat.le_trans HSZ.out Ggx.out)) (Nat.le_trans HSZ.out Ggx.out)) (Nat.le_trans HSZ.out Ggx.out))); have HK5 := am_ (show KeepBut w w5 gt none by (rw [hw]; exact parcel_taker_item.keep_new (parcel_taker_item.keep_new (parcel_taker_item.keep_new (HK4.out) Ggx.out 0 _) Ggx.out 1 _) Ggx.out 2 _)); have hf : ∀ i, i ≠ gx → w5.heap[i]? = w4.heap[i]? := fun i hi => (by rw [hw]; exact (parcel_taker_item.far1 _ gx _ _ i hi).trans ((parcel_taker_item.far1 _ gx _ _ i hi).trans (parcel_taker_item.far1 _ gx _ _ i hi))); have BT5 := am_ ((hf gt (Ne.symm Ngx.out)).trans BT4.out); have Bgr5 := am_ ((hf gr Brx.out).trans Bgr4.out); clear hw hf) | ((with_reducible refine gd_ (N := 12) rfl ?_); refine gL (some 12) Tryd.func52 #[.pointer (some ⟨gt, 0, none⟩), .int .u64 400] ?_; refine (parcel_taker_num.calls k gt A0 c0 l0 b2 b3 400 c1 c2 c3 w0 _ HR0.out HC0.out HB5.out HG.out BT5.out HNC.out).mono ?_; rintro x w6 ⟨rfl, hbt, hb, hk⟩; refine ⟨_, rfl, ?_⟩; have HB6 := am_ hb; have BT6 := am_ hbt; have HK6 := am_ (parcel_taker_item.keep_then HK5.out hk); have Bgr6 := am_ (parcel_taker_item.keep_far hk Bgr5.out Ngr.out); have Bgx6 := am_ (parcel_taker_item.keep_far hk Bgx5.out Ngx.out); clear hb hbt hk))
  refine start_ (n := 19) (S := fun w' => w'.heap[gt]? = some (.cells #[.slice A0 l0.length c0, .int .i64 c2, .int .i64 c3] 118 (0, 0))) (ds := []) #[false, false, false, false, false, false, false, false, false, false, false, false, false, false, false, false, false, false, false] (by kernel_rfl) rfl rfl (kd_ BT6.out) (fun hHeld => ?_)
  refine with_tabW parcel_taker_item.tab3 parcel_taker_item.bits3 (fun HT_ HW_ => ?_)
  have HB7 := am_ (bd_ HB6.out)
  have BT7 := am_ (kd_ BT6.out)
  have Bgx7 := am_ (kd_ Bgx6.out)
  have Bgr7 := am_ (kd_ Bgr6.out)
  have HK7 := am_ (keep_drew HK6.out)
  clear HB6 BT6 Bgx6 Bgr6 HK6
  generalize w6.drew = w7 at HB7 BT7 Bgx7 Bgr7 HK7 hHeld ⊢
  refine pA 0 (some 13) #[o1,o0,o0,o0,o0,o0,o0,o0,o0,o0,o0,o0,o0,o0,o0,o0,o0,o0,o0] HT_ ?_
  refine pA 1 (some 14) #[o1,o1,o0,o0,o0,o0,o0,o0,o0,o0,o0,o0,o0,o0,o0,o0,o0,o0,o0] HT_ ?_
  refine pA 2 (some 15) #[o1,o1,o1,o0,o0,o0,o0,o0,o0,o0,o0,o0,o0,o0,o0,o0,o0,o0,o0] HT_ ?_
  refine tA (v := ?_) 3 (some 16) #[o1,o1,o1,o1,o0,o0,o0,o0,o0,o0,o0,o0,o0,o0,o0,o0,o0,o0,o0] HT_ HW_ hHeld ?_ ?_
  rotate_left
  ·
   rintro w' s0
   have q_ := (kc_ s0 2).trans rfl
   go_simp
   with_reducible rfl
  refine pA 4 (some 17) #[o1,o1,o1,o1,o1,o0,o0,o0,o0,o0,o0,o0,o0,o0,o0,o0,o0,o0,o0] HT_ ?_
  refine pA 5 (some 18) #[o1,o1,o1,o1,o1,o1,o0,o0,o0,o0,o0,o0,o0,o0,o0,o0,o0,o0,o0] HT_ ?_
  refine pO 6 (some 19) #[o1,o1,o1,o1,o1,o1,o1,o0,o0,o0,o0,o0,o0,o0,o0,o0,o0,o0,o0] HT_ ?_
  refine pO 7 (some 20) #[o1,o1,o1,o1,o1,o1,o1,o1,o0,o0,o0,o0,o0,o0,o0,o0,o0,o0,o0] HT_ ?_
  refine pO 8 (some 21) #[o1,o1,o1,o1,o1,o1,o1,o1,o1,o0,o0,o0,o0,o0,o0,o0,o0,o0,o0] HT_ ?_
  refine pO 9 (some 22) #[o1,o1,o1,o1,o1,o1,o1,o1,o1,o1,o0,o0,o0,o0,o0,o0,o0,o0,o0] HT_ ?_
  refine pO 10 (some 23) #[o1,o1,o1,o1,o1,o1,o1,o1,o1,o1,o1,o0,o0,o0,o0,o0,o0,o0,o0] HT_ ?_
  refine pO 11 (some 24) #[o1,o1,o1,o1,o1,o1,o1,o1,o1,o1,o1,o1,o0,o0,o0,o0,o0,o0,o0] HT_ ?_
  refine pO 12 (some 25) #[o1,o1,o1,o1,o1,o1,o1,o1,o1,o1,o1,o1,o1,o0,o0,o0,o0,o0,o0] HT_ ?_
  refine pO 13 (some 26) #[o1,o1,o1,o1,o1,o1,o1,o1,o1,o1,o1,o1,o1,o1,o0,o0,o0,o0,o0] HT_ ?_
  refine pO 14 (some 27) #[o1,o1,o1,o1,o1,o1,o1,o1,o1,o1,o1,o1,o1,o1,o1,o0,o0,o0,o0] HT_ ?_
  refine pO 15 (some 28) #[o1,o1,o1,o1,o1,o1,o1,o1,o1,o1,o1,o1,o1,o1,o1,o1,o0,o0,o0] HT_ ?_
  refine pO 16 (some 29) #[o1,o1,o1,o1,o1,o1,o1,o1,o1,o1,o1,o1,o1,o1,o1,o1,o1,o0,o0] HT_ ?_
  refine pO 17 (some 30) #[o1,o1,o1,o1,o1,o1,o1,o1,o1,o1,o1,o1,o1,o1,o1,o1,o1,o1,o0] HT_ ?_
  refine pA 18 (some 31) #[o1,o1,o1,o1,o1,o1,o1,o1,o1,o1,o1,o1,o1,o1,o1,o1,o1,o1,o1] HT_ ?_
  refine dA HT_ ?_
  have hzt7_0 : w7.cell? ⟨gt, 0, none⟩ = some (.slice A0 l0.length c0) := (kc_ BT7.out 0).trans rfl
  have hzt7_1 : w7.cell? ⟨gt, 1, none⟩ = some (.int .i64 c2) := (kc_ BT7.out 1).trans rfl
  have hzt7_2 : w7.cell? ⟨gt, 2, none⟩ = some (.int .i64 c3) := (kc_ BT7.out 2).trans rfl
  have fzt7_0 := kf_ BT7.out 0
  have fzt7_1 := kf_ BT7.out 1
  have fzt7_2 := kf_ BT7.out 2
  have hzx7_0 : w7.cell? ⟨gx, 0, none⟩ = some (.int .i64 a1) := (kc_ Bgx7.out 0).trans rfl
  have hzx7_1 : w7.cell? ⟨gx, 1, none⟩ = some (.int .u32 (b1 % 4294967296)) := (kc_ Bgx7.out 1).trans rfl
  have hzx7_2 : w7.cell? ⟨gx, 2, none⟩ = some (.slice none 0 0) := (kc_ Bgx7.out 2).trans rfl
  have fzx7_0 := kf_ Bgx7.out 0
  have fzx7_1 := kf_ Bgx7.out 1
  have fzx7_2 := kf_ Bgx7.out 2
  have hzr7_0 : w7.cell? ⟨gr, 0, none⟩ = some (.int .i64 0) := (kc_ Bgr7.out 0).trans rfl
  have hzr7_1 : w7.cell? ⟨gr, 1, none⟩ = some (.int .u32 0) := (kc_ Bgr7.out 1).trans rfl
  have hzr7_2 : w7.cell? ⟨gr, 2, none⟩ = some (.slice none 0 0) := (kc_ Bgr7.out 2).trans rfl
  have fzr7_0 := kf_ Bgr7.out 0
  have fzr7_1 := kf_ Bgr7.out 1
  have fzr7_2 := kf_ Bgr7.out 2
  go_wp2_with (((with_reducible refine gate_store (t := 77) (p := 2) (v := .tmp 65) rfl ?_); refine sE 77 2 (.tmp 65) (sets gr w7 0 [.int .i64 a1, .int .u32 (b1 % 4294967296), .slice none 0 0]) ?_; intro w8 hw; have Bgr8 := am_ (show w8.heap[gr]? = some (.cells #[.int .i64 a1, .int .u32 (b1 % 4294967296), .slice none 0 0] 77 (0, 0)) by (rw [hw]; exact blk_put (blk_put (blk_put (Bgr7.out) 0 _ rfl) 1 _ rfl) 2 _ rfl)); have HB8 := am_ (show Below w0.heap.size w0 w8 by (rw [hw]; exact bs_ (bs_ (bs_ (HB7.out) (Nat.le_trans HSZ.out Ggr.out)) (Nat.le_trans HSZ.out Ggr.out)) (Nat.le_trans HSZ.out Ggr.out))); have HK8 := am_ (show KeepBut w w8 gt none by (rw [hw]; exact parcel_taker_item.keep_new (parcel_taker_item.keep_new (parcel_taker_item.keep_new (HK7.out) Ggr.out 0 _) Ggr.out 1 _) Ggr.out 2 _)); have hf : ∀ i, i ≠ gr → w8.heap[i]? = w7.heap[i]? := fun i hi => (by rw [hw]; exact (parcel_taker_item.far1 _ gr _ _ i hi).trans ((parcel_taker_item.far1 _ gr _ _ i hi).trans (parcel_taker_item.far1 _ gr _ _ i hi))); have BT8 := am_ ((hf gt (Ne.symm Ngr.out)).trans BT7.out); clear hw hf))
  refine bodyPost_ret (results_cell_row rfl _ _ gr 77 #[.int .i64 a1, .int .u32 (b1 % 4294967296), .slice none 0 0] (0, 0) _ rfl Bgr8.out Tryd.underlying77 rfl (by kernel_rfl)) rfl ?_
  exact ⟨_, rfl, Kd.R_nil _ _ _ _ _, BT8.out, HB8.out, HK8.out⟩
 rw [if_pos h1] at h
 subst h1
 by_cases h2 : c1 > wrap64 ((l0.length : Int) - c2)
 case pos =>
  rw [if_pos h2] at h
  simp only [Option.some.injEq, Prod.mk.injEq] at h
  obtain ⟨rfl, rfl, rfl, rfl, rfl⟩ := h
  have e2 := decide_eq_true h2
  clear h2
  go_enter Tryd.func54, Tryd.ntmps54
  go_wp2_with (first | ((with_reducible refine gd_ (N := 2) rfl ?_); refine bE 2 #[.int .i64 0, .int .u32 0, .slice none 0 0] 77 ?_; intro gr hg w1 hbox hb; have HB1 := am_ (below_step HB.out hb); have BT1 := am_ (blk_below BT.out hb); have Ggr := am_ (show w.heap.size ≤ gr by rw [hg]; exact Nat.le_refl _); have HK1 := am_ (KeepBut.of_below hb gt none); have Ngr := am_ (show gr ≠ gt from fun e_ => by have := GT.out; omega); have Bgr1 := am_ hbox; clear hb hbox hg) | ((with_reducible refine gd_ (N := 6) rfl ?_); refine gL (some 6) Tryd.func52 #[.pointer (some ⟨gt, 0, none⟩), .int .u64 1099511627776] ?_; refine (parcel_taker_num.calls k gt A0 c0 l0 at_ e 1099511627776 a1 a2 a3 w0 _ HR0.out HC0.out HB1.out HG.out BT1.out HNA.out).mono ?_; rintro x w2 ⟨rfl, hbt, hb, hk⟩; refine ⟨_, rfl, ?_⟩; have HB2 := am_ hb; have BT2 := am_ hbt; have HK2 := am_ (parcel_taker_item.keep_then HK1.out hk); have Bgr2 := am_ (parcel_taker_item.keep_far hk Bgr1.out Ngr.out); clear hb hbt hk) | ((with_reducible refine gd_ (N := 8) rfl ?_); refine gL (some 8) Tryd.func52 #[.pointer (some ⟨gt, 0, none⟩), .int .u64 4294967295] ?_; refine (parcel_taker_num.calls k gt A0 c0 l0 a2 a3 4294967295 b1 b2 b3 w0 _ HR0.out HC0.out HB2.out HG.out BT2.out HNB.out).mono ?_; rintro x w3 ⟨rfl, hbt, hb, hk⟩; refine ⟨_, rfl, ?_⟩; have HB3 := am_ hb; have BT3 := am_ hbt; have HK3 := am_ (parcel_taker_item.keep_then HK2.out hk); have Bgr3 := am_ (parcel_taker_item.keep_far hk Bgr2.out Ngr.out); clear hb hbt hk) | ((with_reducible refine gd_ (N := 3) rfl ?_); refine bE 3 #[.int .i64 0, .int .u32 0, .slice none 0 0] 77 ?_; intro gx hg w4 hbox hb; have HB4 := am_ (below_step HB3.out hb); have BT4 := am_ (blk_below BT3.out hb); have Ggx := am_ (show w.heap.size ≤ gx by (rw [hg]; exact HK3.out.1)); have HK4 := am_ (parcel_taker_item.keep_then HK3.out (KeepBut.of_below hb gt none)); have Ngx := am_ (show gx ≠ gt from fun e_ => by have := GT.out; have := HK3.out.1; omega); have Brx := am_ (show gr ≠ gx from fun e_ => absurd (blk_lt Bgr3.out) (by rw [e_, hg]; exact Nat.lt_irrefl _)); have Bgr4 := am_ (blk_below Bgr3.out hb); have Bgx4 := am_ hbox; have hzn_0 : w4.cell? ⟨gx, 0, none⟩ = some (.int .i64 0) := (kc_ Bgx4.out 0).trans rfl; have hzn_1 : w4.cell? ⟨gx, 1, none⟩ = some (.int .u32 0) := (kc_ Bgx4.out 1).trans rfl; have hzn_2 : w4.cell? ⟨gx, 2, none⟩ = some (.slice none 0 0) := (kc_ Bgx4.out 2).trans rfl; have fzn_0 := kf_ Bgx4.out 0; have fzn_1 := kf_ Bgx4.out 1; have fzn_2 := kf_ Bgx4.out 2; clear hb hbox hg) | ((with_reducible refine gate_store (t := 77) (p := 3) (v := .tmp 10) rfl ?_); refine sE 77 3 (.tmp 10) (sets gx w4 0 [.int .i64 a1, .int .u32 (b1 % 4294967296), .slice none 0 0]) ?_; intro w5 hw; have Bgx5 := am_ (show w5.heap[gx]? = some (.cells #[.int .i64 a1, .int .u32 (b1 % 4294967296), .slice none 0 0] 77 (0, 0)) by (rw [hw]; exact blk_put (blk_put (blk_put (Bgx4.out) 0 _ rfl) 1 _ rfl) 2 _ rfl)); have HB5 := am_ (show Below w0.heap.size w0 w5 by (rw [hw]; exact bs_ (bs_ (bs_ (HB4.out) (Nat.le_trans HSZ.out Ggx.out)) (Nat.le_trans HSZ.out Ggx.out)) (Nat.le_trans HSZ.out Ggx.out))); have HK5 := am_ (show KeepBut w w5 gt none by (rw [hw]; exact parcel_taker_item.keep_new (parcel_taker_item.keep_new (parcel_taker_item.keep_new (HK4.out) Ggx.out 0 _) Ggx.out 1 _) Ggx.out 2 _)); have hf : ∀ i, i ≠ gx → w5.heap[i]? = w4.heap[i]? := fun i hi => (by rw [hw]; exact (parcel_taker_item.far1 _ gx _ _ i hi).trans ((parcel_taker_item.far1 _ gx _ _ i hi).trans (parcel_taker_item.far1 _ gx _ _ i hi))); have BT5 := am_ ((hf gt (Ne.symm Ngx.out)).trans BT4.out); have Bgr5 := am_ ((hf gr Brx.out).trans Bgr4.out); clear hw hf) | ((with_reducible refine gd_ (N := 12) rfl ?_); refine gL (some 12) Tryd.func52 #[.pointer (some ⟨gt, 0, none⟩), .int .u64 400] ?_; refine (parcel_taker_num.calls k gt A0 c0 l0 b2 b3 400 c1 c2 0 w0 _ HR0.out HC0.out HB5.out HG.out BT5.out HNC.out).mono ?_; rintro x w6 ⟨rfl, hbt, hb, hk⟩; refine ⟨_, rfl, ?_⟩; have HB6 := am_ hb; have BT6 := am_ hbt; have HK6 := am_ (parcel_taker_item.keep_then HK5.out hk); have Bgr6 := am_ (parcel_taker_item.keep_far hk Bgr5.out Ngr.out); have Bgx6 := am_ (parcel_taker_item.keep_far hk Bgx5.out Ngx.out); clear hb hbt hk))
  refine start_ (n := 19) (S := fun w' => w'.heap[gt]? = some (.cells #[.slice A0 l0.length c0, .int .i64 c2, .int .i64 0] 118 (0, 0))) (ds := []) #[false, false, false, false, false, false, false, false, false, false, false, false, false, false, false, false, false, false, false] (by kernel_rfl) rfl rfl (kd_ BT6.out) (fun hHeld => ?_)
  refine with_tabW parcel_taker_item.tab3 parcel_taker_item.bits3 (fun HT_ HW_ => ?_)
  have HB7 := am_ (bd_ HB6.out)
  have BT7 := am_ (kd_ BT6.out)
  have Bgx7 := am_ (kd_ Bgx6.out)
  have Bgr7 := am_ (kd_ Bgr6.out)
  have HK7 := am_ (keep_drew HK6.out)
  clear HB6 BT6 Bgx6 Bgr6 HK6
  generalize w6.drew = w7 at HB7 BT7 Bgx7 Bgr7 HK7 hHeld ⊢
  refine pA 0 (some 13) #[o1,o0,o0,o0,o0,o0,o0,o0,o0,o0,o0,o0,o0,o0,o0,o0,o0,o0,o0] HT_ ?_
  refine pA 1 (some 14) #[o1,o1,o0,o0,o0,o0,o0,o0,o0,o0,o0,o0,o0,o0,o0,o0,o0,o0,o0] HT_ ?_
  refine pA 2 (some 15) #[o1,o1,o1,o0,o0,o0,o0,o0,o0,o0,o0,o0,o0,o0,o0,o0,o0,o0,o0] HT_ ?_
  refine tA (v := ?_) 3 (some 16) #[o1,o1,o1,o1,o0,o0,o0,o0,o0,o0,o0,o0,o0,o0,o0,o0,o0,o0,o0] HT_ HW_ hHeld ?_ ?_
  rotate_left
  ·
   rintro w' s0
   have q_ := (kc_ s0 2).trans rfl
   go_simp
   with_reducible rfl
  refine pA 4 (some 17) #[o1,o1,o1,o1,o1,o0,o0,o0,o0,o0,o0,o0,o0,o0,o0,o0,o0,o0,o0] HT_ ?_
  refine pA 5 (some 18) #[o1,o1,o1,o1,o1,o1,o0,o0,o0,o0,o0,o0,o0,o0,o0,o0,o0,o0,o0] HT_ ?_
  refine pA 6 (some 19) #[o1,o1,o1,o1,o1,o1,o1,o0,o0,o0,o0,o0,o0,o0,o0,o0,o0,o0,o0] HT_ ?_
  refine pA 7 (some 20) #[o1,o1,o1,o1,o1,o1,o1,o1,o0,o0,o0,o0,o0,o0,o0,o0,o0,o0,o0] HT_ ?_
  refine pA 8 (some 21) #[o1,o1,o1,o1,o1,o1,o1,o1,o1,o0,o0,o0,o0,o0,o0,o0,o0,o0,o0] HT_ ?_
  refine pA 9 (some 22) #[o1,o1,o1,o1,o1,o1,o1,o1,o1,o1,o0,o0,o0,o0,o0,o0,o0,o0,o0] HT_ ?_
  refine tA (v := ?_) 10 (some 23) #[o1,o1,o1,o1,o1,o1,o1,o1,o1,o1,o1,o0,o0,o0,o0,o0,o0,o0,o0] HT_ HW_ hHeld ?_ ?_
  rotate_left
  ·
   rintro w' s0
   have q_ := (kc_ s0 0).trans rfl
   go_simp
   with_reducible rfl
  refine pA 11 (some 24) #[o1,o1,o1,o1,o1,o1,o1,o1,o1,o1,o1,o1,o0,o0,o0,o0,o0,o0,o0] HT_ ?_
  refine pA 12 (some 25) #[o1,o1,o1,o1,o1,o1,o1,o1,o1,o1,o1,o1,o1,o0,o0,o0,o0,o0,o0] HT_ ?_
  refine pA 13 (some 26) #[o1,o1,o1,o1,o1,o1,o1,o1,o1,o1,o1,o1,o1,o1,o0,o0,o0,o0,o0] HT_ ?_
  refine pA 14 (some 27) #[o1,o1,o1,o1,o1,o1,o1,o1,o1,o1,o1,o1,o1,o1,o1,o0,o0,o0,o0] HT_ ?_
  refine tA (v := ?_) 15 (some 28) #[o1,o1,o1,o1,o1,o1,o1,o1,o1,o1,o1,o1,o1,o1,o1,o1,o0,o0,o0] HT_ HW_ hHeld ?_ ?_
  rotate_left
  ·
   rintro w' s0
   have q_ := (kc_ s0 1).trans rfl
   go_simp
   with_reducible rfl
  refine pA 16 (some 29) #[o1,o1,o1,o1,o1,o1,o1,o1,o1,o1,o1,o1,o1,o1,o1,o1,o1,o0,o0] HT_ ?_
  refine pA 17 (some 30) #[o1,o1,o1,o1,o1,o1,o1,o1,o1,o1,o1,o1,o1,o1,o1,o1,o1,o1,o0] HT_ ?_
  refine pA 18 (some 31) #[o1,o1,o1,o1,o1,o1,o1,o1,o1,o1,o1,o1,o1,o1,o1,o1,o1,o1,o1] HT_ ?_
  refine dA HT_ ?_
  have hzt7_0 : w7.cell? ⟨gt, 0, none⟩ = some (.slice A0 l0.length c0) := (kc_ BT7.out 0).trans rfl
  have hzt7_1 : w7.cell? ⟨gt, 1, none⟩ = some (.int .i64 c2) := (kc_ BT7.out 1).trans rfl
  have hzt7_2 : w7.cell? ⟨gt, 2, none⟩ = some (.int .i64 0) := (kc_ BT7.out 2).trans rfl
  have fzt7_0 := kf_ BT7.out 0
  have fzt7_1 := kf_ BT7.out 1
  have fzt7_2 := kf_ BT7.out 2
  have hzx7_0 : w7.cell? ⟨gx, 0, none⟩ = some (.int .i64 a1) := (kc_ Bgx7.out 0).trans rfl
  have hzx7_1 : w7.cell? ⟨gx, 1, none⟩ = some (.int .u32 (b1 % 4294967296)) := (kc_ Bgx7.out 1).trans rfl
  have hzx7_2 : w7.cell? ⟨gx, 2, none⟩ = some (.slice none 0 0) := (kc_ Bgx7.out 2).trans rfl
  have fzx7_0 := kf_ Bgx7.out 0
  have fzx7_1 := kf_ Bgx7.out 1
  have fzx7_2 := kf_ Bgx7.out 2
  have hzr7_0 : w7.cell? ⟨gr, 0, none⟩ = some (.int .i64 0) := (kc_ Bgr7.out 0).trans rfl
  have hzr7_1 : w7.cell? ⟨gr, 1, none⟩ = some (.int .u32 0) := (kc_ Bgr7.out 1).trans rfl
  have hzr7_2 : w7.cell? ⟨gr, 2, none⟩ = some (.slice none 0 0) := (kc_ Bgr7.out 2).trans rfl
  have fzr7_0 := kf_ Bgr7.out 0
  have fzr7_1 := kf_ Bgr7.out 1
  have fzr7_2 := kf_ Bgr7.out 2
  go_wp2_with (first | ((with_reducible refine gate_store (t := 28) (p := 34) (v := .const (.int .i64 3)) rfl ?_); refine store_event rfl (t := 28) (p := 34) (v := .const (.int .i64 3)) rfl rfl (w1 := w7.setCell ⟨gt, 2, none⟩ (.int .i64 3)) ?hr ?_; (case hr => (go_simp; done)); intro w8 hw; have BT8 := am_ (show w8.heap[gt]? = some (.cells #[.slice A0 l0.length c0, .int .i64 c2, .int .i64 3] 118 (0, 0)) by (rw [hw]; exact blk_put BT7.out 2 _ rfl)); have HB8 := am_ (show Below w0.heap.size w0 w8 by (rw [hw]; exact bs_ HB7.out HG.out)); have HK8 := am_ (show KeepBut w w8 gt none by (rw [hw]; exact KeepBut.set_ HK7.out 2 _)); have hf : ∀ i, i ≠ gt → w8.heap[i]? = w7.heap[i]? := fun i hi => (by rw [hw]; exact parcel_taker_item.far1 _ gt _ _ i hi); have Bgx8 := am_ ((hf gx Ngx.out).trans Bgx7.out); have Bgr8 := am_ ((hf gr Ngr.out).trans Bgr7.out); have hzx8_0 : w8.cell? ⟨gx, 0, none⟩ = some (.int .i64 a1) := (kc_ Bgx8.out 0).trans rfl; have hzx8_1 : w8.cell? ⟨gx, 1, none⟩ = some (.int .u32 (b1 % 4294967296)) := (kc_ Bgx8.out 1).trans rfl; have hzx8_2 : w8.cell? ⟨gx, 2, none⟩ = some (.slice none 0 0) := (kc_ Bgx8.out 2).trans rfl; have hzr8_0 : w8.cell? ⟨gr, 0, none⟩ = some (.int .i64 0) := (kc_ Bgr8.out 0).trans rfl; have hzr8_1 : w8.cell? ⟨gr, 1, none⟩ = some (.int .u32 0) := (kc_ Bgr8.out 1).trans rfl; have hzr8_2 : w8.cell? ⟨gr, 2, none⟩ = some (.slice none 0 0) := (kc_ Bgr8.out 2).trans rfl; have fzr8_0 := kf_ Bgr8.out 0; have fzr8_1 := kf_ Bgr8.out 1; have fzr8_2 := kf_ Bgr8.out 2; have t8_2 : w8.cell? ⟨gt, 2, none⟩ = some (.int .i64 3) := (kc_ BT8.out 2).trans rfl; clear hw hf) | ((with_reducible refine gate_store (t := 77) (p := 2) (v := .tmp 65) rfl ?_); refine sE 77 2 (.tmp 65) (sets gr w8 0 [.int .i64 a1, .int .u32 (b1 % 4294967296), .slice none 0 0]) ?_; intro w9 hw; have Bgr9 := am_ (show w9.heap[gr]? = some (.cells #[.int .i64 a1, .int .u32 (b1 % 4294967296), .slice none 0 0] 77 (0, 0)) by (rw [hw]; exact blk_put (blk_put (blk_put (Bgr8.out) 0 _ rfl) 1 _ rfl) 2 _ rfl)); have HB9 := am_ (show Below w0.heap.size w0 w9 by (rw [hw]; exact bs_ (bs_ (bs_ (HB8.out) (Nat.le_trans HSZ.out Ggr.out)) (Nat.le_trans HSZ.out Ggr.out)) (Nat.le_trans HSZ.out Ggr.out))); have HK9 := am_ (show KeepBut w w9 gt none by (rw [hw]; exact parcel_taker_item.keep_new (parcel_taker_item.keep_new (parcel_taker_item.keep_new (HK8.out) Ggr.out 0 _) Ggr.out 1 _) Ggr.out 2 _)); have hf : ∀ i, i ≠ gr → w9.heap[i]? = w8.heap[i]? := fun i hi => (by rw [hw]; exact (parcel_taker_item.far1 _ gr _ _ i hi).trans ((parcel_taker_item.far1 _ gr _ _ i hi).trans (parcel_taker_item.far1 _ gr _ _ i hi))); have BT9 := am_ ((hf gt (Ne.symm Ngr.out)).trans BT8.out); clear hw hf))
  refine bodyPost_ret (results_cell_row rfl _ _ gr 77 #[.int .i64 a1, .int .u32 (b1 % 4294967296), .slice none 0 0] (0, 0) _ rfl Bgr9.out Tryd.underlying77 rfl (by kernel_rfl)) rfl ?_
  exact ⟨_, rfl, Kd.R_nil _ _ _ _ _, BT9.out, HB9.out, HK9.out⟩
 rw [if_neg h2] at h
 have e2 := decide_eq_false h2
 clear h2
 by_cases h3 : 0 ≤ c2
 case neg => rw [if_neg h3] at h; exact absurd h (by simp)
 rw [if_pos h3] at h
 by_cases h4 : c2 ≤ wrap64 (c2 + c1)
 case neg => rw [if_neg h4] at h; exact absurd h (by simp)
 rw [if_pos h4] at h
 by_cases h5 : wrap64 (c2 + c1) ≤ (l0.length : Int)
 case neg => rw [if_neg h5] at h; exact absurd h (by simp)
 rw [if_pos h5] at h
 obtain ⟨q, hq, h⟩ := Option.bind_eq_some_iff.mp h
 simp only [Option.some.injEq, Prod.mk.injEq] at h
 obtain ⟨rfl, rfl, rfl, rfl, rfl⟩ := h
 have HQ := am_ hq
 have hc0 := HC0.out
 obtain ⟨ti, hti, hzz⟩ := Option.map_eq_some_iff.1 info5
 simp only [Prod.mk.injEq] at hzz
 have hsl := cut_mid 42 5 .i64 .i64 Tryd.underlying42 hti 1 hzz.2.1 A0 l0.length c0 c2 (wrap64 (c2 + c1)) h3 h4 h5 hc0
 have hln : (wrap64 (c2 + c1)).toNat - c2.toNat = ((l0.take (wrap64 (c2 + c1)).toNat).drop c2.toNat).length := by rw [List.length_drop, List.length_take]; omega
 have hcs := Kd.C_mid (lo := c2.toNat) (hi := (wrap64 (c2 + c1)).toNat) (c := c0) HR0.out (by omega) (by omega) hc0
 have hls : ((l0.take (wrap64 (c2 + c1)).toNat).drop c2.toNat).length ≤ c0 - c2.toNat := by rw [List.length_drop, List.length_take]; omega
 rw [hln] at hsl
 have hcs : Kd.C (Kd.int .u8) w0 (if c0 = c2.toNat then A0 else A0.map (·.add (c2.toNat * 1))) ((l0.take (wrap64 (c2 + c1)).toNat).drop c2.toNat).length ((l0.take (wrap64 (c2 + c1)).toNat).drop c2.toNat) := hcs
 generalize (if c0 = c2.toNat then A0 else A0.map (·.add (c2.toNat * 1))) = As at hsl hcs
 generalize (l0.take (wrap64 (c2 + c1)).toNat).drop c2.toNat = sb at hsl hcs hls HQ
 generalize c0 - c2.toNat = cs_ at hsl hls
 have HCS := am_ hcs
 have HLS := am_ hls
 clear hq h3 h4 h5 hcs hls hln hti hzz hc0
 go_enter Tryd.func54, Tryd.ntmps54
 go_wp2_with (first | ((with_reducible refine gd_ (N := 2) rfl ?_); refine bE 2 #[.int .i64 0, .int .u32 0, .slice none 0 0] 77 ?_; intro gr hg w1 hbox hb; have HB1 := am_ (below_step HB.out hb); have BT1 := am_ (blk_below BT.out hb); have Ggr := am_ (show w.heap.size ≤ gr by rw [hg]; exact Nat.le_refl _); have HK1 := am_ (KeepBut.of_below hb gt none); have Ngr := am_ (show gr ≠ gt from fun e_ => by have := GT.out; omega); have Bgr1 := am_ hbox; clear hb hbox hg) | ((with_reducible refine gd_ (N := 6) rfl ?_); refine gL (some 6) Tryd.func52 #[.pointer (some ⟨gt, 0, none⟩), .int .u64 1099511627776] ?_; refine (parcel_taker_num.calls k gt A0 c0 l0 at_ e 1099511627776 a1 a2 a3 w0 _ HR0.out HC0.out HB1.out HG.out BT1.out HNA.out).mono ?_; rintro x w2 ⟨rfl, hbt, hb, hk⟩; refine ⟨_, rfl, ?_⟩; have HB2 := am_ hb; have BT2 := am_ hbt; have HK2 := am_ (parcel_taker_item.keep_then HK1.out hk); have Bgr2 := am_ (parcel_taker_item.keep_far hk Bgr1.out Ngr.out); clear hb hbt hk) | ((with_reducible refine gd_ (N := 8) rfl ?_); refine gL (some 8) Tryd.func52 #[.pointer (some ⟨gt, 0, none⟩), .int .u64 4294967295] ?_; refine (parcel_taker_num.calls k gt A0 c0 l0 a2 a3 4294967295 b1 b2 b3 w0 _ HR0.out HC0.out HB2.out HG.out BT2.out HNB.out).mono ?_; rintro x w3 ⟨rfl, hbt, hb, hk⟩; refine ⟨_, rfl, ?_⟩; have HB3 := am_ hb; have BT3 := am_ hbt; have HK3 := am_ (parcel_taker_item.keep_then HK2.out hk); have Bgr3 := am_ (parcel_taker_item.keep_far hk Bgr2.out Ngr.out); clear hb hbt hk) | ((with_reducible refine gd_ (N := 3) rfl ?_); refine bE 3 #[.int .i64 0, .int .u32 0, .slice none 0 0] 77 ?_; intro gx hg w4 hbox hb; have HB4 := am_ (below_step HB3.out hb); have BT4 := am_ (blk_below BT3.out hb); have Ggx := am_ (show w.heap.size ≤ gx by (rw [hg]; exact HK3.out.1)); have HK4 := am_ (parcel_taker_item.keep_then HK3.out (KeepBut.of_below hb gt none)); have Ngx := am_ (show gx ≠ gt from fun e_ => by have := GT.out; have := HK3.out.1; omega); have Brx := am_ (show gr ≠ gx from fun e_ => absurd (blk_lt Bgr3.out) (by rw [e_, hg]; exact Nat.lt_irrefl _)); have Bgr4 := am_ (blk_below Bgr3.out hb); have Bgx4 := am_ hbox; have hzn_0 : w4.cell? ⟨gx, 0, none⟩ = some (.int .i64 0) := (kc_ Bgx4.out 0).trans rfl; have hzn_1 : w4.cell? ⟨gx, 1, none⟩ = some (.int .u32 0) := (kc_ Bgx4.out 1).trans rfl; have hzn_2 : w4.cell? ⟨gx, 2, none⟩ = some (.slice none 0 0) := (kc_ Bgx4.out 2).trans rfl; have fzn_0 := kf_ Bgx4.out 0; have fzn_1 := kf_ Bgx4.out 1; have fzn_2 := kf_ Bgx4.out 2; clear hb hbox hg) | ((with_reducible refine gate_store (t := 77) (p := 3) (v := .tmp 10) rfl ?_); refine sE 77 3 (.tmp 10) (sets gx w4 0 [.int .i64 a1, .int .u32 (b1 % 4294967296), .slice none 0 0]) ?_; intro w5 hw; have Bgx5 := am_ (show w5.heap[gx]? = some (.cells #[.int .i64 a1, .int .u32 (b1 % 4294967296), .slice none 0 0] 77 (0, 0)) by (rw [hw]; exact blk_put (blk_put (blk_put (Bgx4.out) 0 _ rfl) 1 _ rfl) 2 _ rfl)); have HB5 := am_ (show Below w0.heap.size w0 w5 by (rw [hw]; exact bs_ (bs_ (bs_ (HB4.out) (Nat.le_trans HSZ.out Ggx.out)) (Nat.le_trans HSZ.out Ggx.out)) (Nat.le_trans HSZ.out Ggx.out))); have HK5 := am_ (show KeepBut w w5 gt none by (rw [hw]; exact parcel_taker_item.keep_new (parcel_taker_item.keep_new (parcel_taker_item.keep_new (HK4.out) Ggx.out 0 _) Ggx.out 1 _) Ggx.out 2 _)); have hf : ∀ i, i ≠ gx → w5.heap[i]? = w4.heap[i]? := fun i hi => (by rw [hw]; exact (parcel_taker_item.far1 _ gx _ _ i hi).trans ((parcel_taker_item.far1 _ gx _ _ i hi).trans (parcel_taker_item.far1 _ gx _ _ i hi))); have BT5 := am_ ((hf gt (Ne.symm Ngx.out)).trans BT4.out); have Bgr5 := am_ ((hf gr Brx.out).trans Bgr4.out); clear hw hf) | ((with_reducible refine gd_ (N := 12) rfl ?_); refine gL (some 12) Tryd.func52 #[.pointer (some ⟨gt, 0, none⟩), .int .u64 400] ?_; refine (parcel_taker_num.calls k gt A0 c0 l0 b2 b3 400 c1 c2 0 w0 _ HR0.out HC0.out HB5.out HG.out BT5.out HNC.out).mono ?_; rintro x w6 ⟨rfl, hbt, hb, hk⟩; refine ⟨_, rfl, ?_⟩; have HB6 := am_ hb; have BT6 := am_ hbt; have HK6 := am_ (parcel_taker_item.keep_then HK5.out hk); have Bgr6 := am_ (parcel_taker_item.keep_far hk Bgr5.out Ngr.out); have Bgx6 := am_ (parcel_taker_item.keep_far hk Bgx5.out Ngx.out); clear hb hbt hk))
 refine start_ (n := 19) (S := fun w' => w'.heap[gt]? = some (.cells #[.slice A0 l0.length c0, .int .i64 c2, .int .i64 0] 118 (0, 0))) (ds := []) #[false, false, false, false, false, false, false, false, false, false, false, false, false, false, false, false, false, false, false] (by kernel_rfl) rfl rfl (kd_ BT6.out) (fun hHeld => ?_)
 refine with_tabW parcel_taker_item.tab3 parcel_taker_item.bits3 (fun HT_ HW_ => ?_)
 have HB7 := am_ (bd_ HB6.out)
 have BT7 := am_ (kd_ BT6.out)
 have Bgx7 := am_ (kd_ Bgx6.out)
 have Bgr7 := am_ (kd_ Bgr6.out)
 have HK7 := am_ (keep_drew HK6.out)
 clear HB6 BT6 Bgx6 Bgr6 HK6
 generalize w6.drew = w7 at HB7 BT7 Bgx7 Bgr7 HK7 hHeld ⊢
 refine pA 0 (some 13) #[o1,o0,o0,o0,o0,o0,o0,o0,o0,o0,o0,o0,o0,o0,o0,o0,o0,o0,o0] HT_ ?_
 refine pA 1 (some 14) #[o1,o1,o0,o0,o0,o0,o0,o0,o0,o0,o0,o0,o0,o0,o0,o0,o0,o0,o0] HT_ ?_
 refine pA 2 (some 15) #[o1,o1,o1,o0,o0,o0,o0,o0,o0,o0,o0,o0,o0,o0,o0,o0,o0,o0,o0] HT_ ?_
 refine tA (v := ?_) 3 (some 16) #[o1,o1,o1,o1,o0,o0,o0,o0,o0,o0,o0,o0,o0,o0,o0,o0,o0,o0,o0] HT_ HW_ hHeld ?_ ?_
 rotate_left
 ·
  rintro w' s0
  have q_ := (kc_ s0 2).trans rfl
  go_simp
  with_reducible rfl
 refine pA 4 (some 17) #[o1,o1,o1,o1,o1,o0,o0,o0,o0,o0,o0,o0,o0,o0,o0,o0,o0,o0,o0] HT_ ?_
 refine pA 5 (some 18) #[o1,o1,o1,o1,o1,o1,o0,o0,o0,o0,o0,o0,o0,o0,o0,o0,o0,o0,o0] HT_ ?_
 refine pA 6 (some 19) #[o1,o1,o1,o1,o1,o1,o1,o0,o0,o0,o0,o0,o0,o0,o0,o0,o0,o0,o0] HT_ ?_
 refine pA 7 (some 20) #[o1,o1,o1,o1,o1,o1,o1,o1,o0,o0,o0,o0,o0,o0,o0,o0,o0,o0,o0] HT_ ?_
 refine pA 8 (some 21) #[o1,o1,o1,o1,o1,o1,o1,o1,o1,o0,o0,o0,o0,o0,o0,o0,o0,o0,o0] HT_ ?_
 refine pA 9 (some 22) #[o1,o1,o1,o1,o1,o1,o1,o1,o1,o1,o0,o0,o0,o0,o0,o0,o0,o0,o0] HT_ ?_
 refine tA (v := ?_) 10 (some 23) #[o1,o1,o1,o1,o1,o1,o1,o1,o1,o1,o1,o0,o0,o0,o0,o0,o0,o0,o0] HT_ HW_ hHeld ?_ ?_
 rotate_left
 ·
  rintro w' s0
  have q_ := (kc_ s0 0).trans rfl
  go_simp
  with_reducible rfl
 refine pA 11 (some 24) #[o1,o1,o1,o1,o1,o1,o1,o1,o1,o1,o1,o1,o0,o0,o0,o0,o0,o0,o0] HT_ ?_
 refine pA 12 (some 25) #[o1,o1,o1,o1,o1,o1,o1,o1,o1,o1,o1,o1,o1,o0,o0,o0,o0,o0,o0] HT_ ?_
 refine pA 13 (some 26) #[o1,o1,o1,o1,o1,o1,o1,o1,o1,o1,o1,o1,o1,o1,o0,o0,o0,o0,o0] HT_ ?_
 refine pA 14 (some 27) #[o1,o1,o1,o1,o1,o1,o1,o1,o1,o1,o1,o1,o1,o1,o1,o0,o0,o0,o0] HT_ ?_
 refine tA (v := ?_) 15 (some 28) #[o1,o1,o1,o1,o1,o1,o1,o1,o1,o1,o1,o1,o1,o1,o1,o1,o0,o0,o0] HT_ HW_ hHeld ?_ ?_
 rotate_left
 ·
  rintro w' s0
  have q_ := (kc_ s0 1).trans rfl
  go_simp
  with_reducible rfl
 refine pA 16 (some 29) #[o1,o1,o1,o1,o1,o1,o1,o1,o1,o1,o1,o1,o1,o1,o1,o1,o1,o0,o0] HT_ ?_
 refine pA 17 (some 30) #[o1,o1,o1,o1,o1,o1,o1,o1,o1,o1,o1,o1,o1,o1,o1,o1,o1,o1,o0] HT_ ?_
 refine pA 18 (some 31) #[o1,o1,o1,o1,o1,o1,o1,o1,o1,o1,o1,o1,o1,o1,o1,o1,o1,o1,o1] HT_ ?_
 refine dA HT_ ?_
 have hzt7_0 : w7.cell? ⟨gt, 0, none⟩ = some (.slice A0 l0.length c0) := (kc_ BT7.out 0).trans rfl
 have hzt7_1 : w7.cell? ⟨gt, 1, none⟩ = some (.int .i64 c2) := (kc_ BT7.out 1).trans rfl
 have hzt7_2 : w7.cell? ⟨gt, 2, none⟩ = some (.int .i64 0) := (kc_ BT7.out 2).trans rfl
 have fzt7_0 := kf_ BT7.out 0
 have fzt7_1 := kf_ BT7.out 1
 have fzt7_2 := kf_ BT7.out 2
 have hzx7_0 : w7.cell? ⟨gx, 0, none⟩ = some (.int .i64 a1) := (kc_ Bgx7.out 0).trans rfl
 have hzx7_1 : w7.cell? ⟨gx, 1, none⟩ = some (.int .u32 (b1 % 4294967296)) := (kc_ Bgx7.out 1).trans rfl
 have hzx7_2 : w7.cell? ⟨gx, 2, none⟩ = some (.slice none 0 0) := (kc_ Bgx7.out 2).trans rfl
 have fzx7_0 := kf_ Bgx7.out 0
 have fzx7_1 := kf_ Bgx7.out 1
 have fzx7_2 := kf_ Bgx7.out 2
 have hzr7_0 : w7.cell? ⟨gr, 0, none⟩ = some (.int .i64 0) := (kc_ Bgr7.out 0).trans rfl
 have hzr7_1 : w7.cell? ⟨gr, 1, none⟩ = some (.int .u32 0) := (kc_ Bgr7.out 1).trans rfl
 have hzr7_2 : w7.cell? ⟨gr, 2, none⟩ = some (.slice none 0 0) := (kc_ Bgr7.out 2).trans rfl
 have fzr7_0 := kf_ Bgr7.out 0
 have fzr7_1 := kf_ Bgr7.out 1
 have fzr7_2 := kf_ Bgr7.out 2
 go_wp2
 refine start_ (n := 18) (S := fun w' => w'.heap[gt]? = some (.cells #[.slice A0 l0.length c0, .int .i64 c2, .int .i64 0] 118 (0, 0))) (ds := [17]) #[false, false, false, false, false, false, false, false, false, false, false, false, false, false, false, false, false, false] (by kernel_rfl) rfl rfl (kd_ BT7.out) (fun hHeld => ?_)
 refine with_tabW parcel_taker_item.tab6 parcel_taker_item.bits6 (fun HT_ HW_ => ?_)
 have HB8 := am_ (bd_ HB7.out)
 have BT8 := am_ (kd_ BT7.out)
 have Bgx8 := am_ (kd_ Bgx7.out)
 have Bgr8 := am_ (kd_ Bgr7.out)
 have HK8 := am_ (keep_drew HK7.out)
 generalize w7.drew = w8 at HB8 BT8 Bgx8 Bgr8 HK8 hHeld ⊢
 refine pA 0 (some 40) #[o1,o0,o0,o0,o0,o0,o0,o0,o0,o0,o0,o0,o0,o0,o0,o0,o0,o0] HT_ ?_
 refine pA 1 (some 41) #[o1,o1,o0,o0,o0,o0,o0,o0,o0,o0,o0,o0,o0,o0,o0,o0,o0,o0] HT_ ?_
 refine pA 2 (some 42) #[o1,o1,o1,o0,o0,o0,o0,o0,o0,o0,o0,o0,o0,o0,o0,o0,o0,o0] HT_ ?_
 refine tA (v := ?_) 3 (some 43) #[o1,o1,o1,o1,o0,o0,o0,o0,o0,o0,o0,o0,o0,o0,o0,o0,o0,o0] HT_ HW_ hHeld ?_ ?_
 rotate_left
 ·
  rintro w' s0
  have q_ := (kc_ s0 0).trans rfl
  go_simp
  with_reducible rfl
 refine pA 4 (some 44) #[o1,o1,o1,o1,o1,o0,o0,o0,o0,o0,o0,o0,o0,o0,o0,o0,o0,o0] HT_ ?_
 refine pA 5 (some 45) #[o1,o1,o1,o1,o1,o1,o0,o0,o0,o0,o0,o0,o0,o0,o0,o0,o0,o0] HT_ ?_
 refine pA 6 (some 46) #[o1,o1,o1,o1,o1,o1,o1,o0,o0,o0,o0,o0,o0,o0,o0,o0,o0,o0] HT_ ?_
 refine tA (v := ?_) 7 (some 47) #[o1,o1,o1,o1,o1,o1,o1,o1,o0,o0,o0,o0,o0,o0,o0,o0,o0,o0] HT_ HW_ hHeld ?_ ?_
 rotate_left
 ·
  rintro w' s0
  have q_ := (kc_ s0 1).trans rfl
  go_simp
  with_reducible rfl
 refine pA 8 (some 48) #[o1,o1,o1,o1,o1,o1,o1,o1,o1,o0,o0,o0,o0,o0,o0,o0,o0,o0] HT_ ?_
 refine pA 9 (some 49) #[o1,o1,o1,o1,o1,o1,o1,o1,o1,o1,o0,o0,o0,o0,o0,o0,o0,o0] HT_ ?_
 refine pA 10 (some 50) #[o1,o1,o1,o1,o1,o1,o1,o1,o1,o1,o1,o0,o0,o0,o0,o0,o0,o0] HT_ ?_
 refine tA (v := ?_) 11 (some 51) #[o1,o1,o1,o1,o1,o1,o1,o1,o1,o1,o1,o1,o0,o0,o0,o0,o0,o0] HT_ HW_ hHeld ?_ ?_
 rotate_left
 ·
  rintro w' s0
  have q_ := (kc_ s0 1).trans rfl
  go_simp
  with_reducible rfl
 refine pA 12 (some 52) #[o1,o1,o1,o1,o1,o1,o1,o1,o1,o1,o1,o1,o1,o0,o0,o0,o0,o0] HT_ ?_
 refine pA 13 (some 53) #[o1,o1,o1,o1,o1,o1,o1,o1,o1,o1,o1,o1,o1,o1,o0,o0,o0,o0] HT_ ?_
 refine pure_ (i := 14) (N := some 54) (v := ?_) (a' := ?_) #[true, true, true, true, true, true, true, true, true, true, true, true, true, true, true, false, false, false] rfl rfl (any_of HT_.out (by kernel_rfl)) (fun _ _ _ h => h) (Or.inl ⟨by rfl, ?_⟩) ?_ ?_
 rotate_left
 ·
  intro w'
  go_simp
  (rfl)
 rotate_left
 ·
  simp only [Act.put, qa_, qb_, qc_, i64_w, i32_w]
  rfl
 refine nO 15 (some 55) #[o1,o1,o1,o1,o1,o1,o1,o1,o1,o1,o1,o1,o1,o1,o1,o1,o0,o0] HT_ (fun K hK => ?_)
 refine goes_ Tryd.func60 (by kernel_rfl) rfl #[.slice As sb.length cs_] (by rfl) rfl rfl (by (try simp only [List.map_toArray, List.map_cons, List.map_nil]); rfl) ?_
 refine (slices_Clone_byte_byte.calls As cs_ sb q _ (Kd.C_below HCS.out HB8.out) HLS.out HQ.out).mono ?_
 rintro x w9 ⟨v9, rfl, hr9, hb⟩
 refine ⟨_, rfl, ?_⟩
 have HB9 := am_ (below_step HB8.out hb)
 have BT9 := am_ (blk_below BT8.out hb)
 have Bgx9 := am_ (blk_below Bgx8.out hb)
 have Bgr9 := am_ (blk_below Bgr8.out hb)
 have HK9 := am_ (parcel_taker_item.keep_then HK8.out (KeepBut.of_below hb gt none))
 have HV9 := am_ (Kd.R_lower hr9 HK8.out.1)
 clear hr9 hb
 refine hK.out _ _ BT9.out (fun hHeld => ?_)
 clear hK K
 refine nA ?_
 refine pA 16 (some 56) #[o1,o1,o1,o1,o1,o1,o1,o1,o1,o1,o1,o1,o1,o1,o1,o1,o1,o0] HT_ ?_
 have zx := (kc_ Bgx9.out 2).trans rfl
 have fx := kf_ Bgx9.out 2
 obtain ⟨A9, c9, e9⟩ := Kd.R_slice HV9.out
 subst e9
 refine last_ (i := 17) (N := none) #[true, true, true, true, true, true, true, true, true, true, true, true, true, true, true, true, true, true] rfl rfl (one_of HT_.out (by kernel_rfl)) (by decide) (fun K hK => ?_)
 refine skip_ (w1 := w9.setCell ⟨gx, 2, none⟩ (.slice A9 q.length c9)) (by rfl) rfl ?_ ?_
 ·
  go_simp
 have hf : ∀ i, i ≠ gx → (w9.setCell ⟨gx, 2, none⟩ (.slice A9 q.length c9)).heap[i]? = w9.heap[i]? := fun i hi => parcel_taker_item.far1 _ gx _ _ i hi
 have Bgx10 := am_ (show (w9.setCell ⟨gx, 2, none⟩ (.slice A9 q.length c9)).heap[gx]? = some (.cells #[.int .i64 a1, .int .u32 (b1 % 4294967296), .slice A9 q.length c9] 77 (0, 0)) from blk_put Bgx9.out 2 _ rfl)
 have HB10 := am_ (show Below w0.heap.size w0 (w9.setCell ⟨gx, 2, none⟩ (.slice A9 q.length c9)) from bs_ HB9.out (Nat.le_trans HSZ.out Ggx.out))
 have HK10 := am_ (show KeepBut w (w9.setCell ⟨gx, 2, none⟩ (.slice A9 q.length c9)) gt none from parcel_taker_item.keep_new HK9.out Ggx.out 2 _)
 have BT10 := am_ ((hf gt (Ne.symm Ngx.out)).trans BT9.out)
 have Bgr10 := am_ ((hf gr Brx.out).trans Bgr9.out)
 have HV10 := am_ (parcel_taker_item.R_farT HV9.out Bgx9.out (parcel_taker_item.ne_bytes 77 (by decide)) hf)
 clear hf
 refine hK.out _ _ ?_
 clear hK K
 generalize w9.setCell ⟨gx, 2, none⟩ (.slice A9 q.length c9) = w10 at Bgx10 HB10 HK10 BT10 Bgr10 HV10 ⊢
 refine dA HT_ ?_
 have hzt10_0 : w10.cell? ⟨gt, 0, none⟩ = some (.slice A0 l0.length c0) := (kc_ BT10.out 0).trans rfl
 have hzt10_1 : w10.cell? ⟨gt, 1, none⟩ = some (.int .i64 c2) := (kc_ BT10.out 1).trans rfl
 have hzt10_2 : w10.cell? ⟨gt, 2, none⟩ = some (.int .i64 0) := (kc_ BT10.out 2).trans rfl
 have fzt10_0 := kf_ BT10.out 0
 have fzt10_1 := kf_ BT10.out 1
 have fzt10_2 := kf_ BT10.out 2
 have hzx10_0 : w10.cell? ⟨gx, 0, none⟩ = some (.int .i64 a1) := (kc_ Bgx10.out 0).trans rfl
 have hzx10_1 : w10.cell? ⟨gx, 1, none⟩ = some (.int .u32 (b1 % 4294967296)) := (kc_ Bgx10.out 1).trans rfl
 have hzx10_2 : w10.cell? ⟨gx, 2, none⟩ = some (.slice A9 q.length c9) := (kc_ Bgx10.out 2).trans rfl
 clear zx fx
 go_wp2_with (first | ((with_reducible refine gate_store (t := 3) (p := 64) (v := .tmp 62) rfl ?_); refine sE 3 64 (.tmp 62) (w10.setCell ⟨gt, 1, none⟩ (.int .i64 (wrap64 (c2 + c1)))) ?_; intro w11 hw; have hf : ∀ i, i ≠ gt → w11.heap[i]? = w10.heap[i]? := fun i hi => (by rw [hw]; exact parcel_taker_item.far1 _ gt _ _ i hi); have BT11 := am_ (show w11.heap[gt]? = some (.cells #[.slice A0 l0.length c0, .int .i64 (wrap64 (c2 + c1)), .int .i64 0] 118 (0, 0)) by (rw [hw]; exact blk_put BT10.out 1 _ rfl)); have HB11 := am_ (show Below w0.heap.size w0 w11 by (rw [hw]; exact bs_ HB10.out HG.out)); have HK11 := am_ (show KeepBut w w11 gt none by (rw [hw]; exact KeepBut.set_ HK10.out 1 _)); have Bgx11 := am_ ((hf gx Ngx.out).trans Bgx10.out); have Bgr11 := am_ ((hf gr Ngr.out).trans Bgr10.out); have HV11 := am_ (parcel_taker_item.R_farT HV10.out BT10.out (parcel_taker_item.ne_bytes 118 (by decide)) hf); have hzx11_0 : w11.cell? ⟨gx, 0, none⟩ = some (.int .i64 a1) := (kc_ Bgx11.out 0).trans rfl; have hzx11_1 : w11.cell? ⟨gx, 1, none⟩ = some (.int .u32 (b1 % 4294967296)) := (kc_ Bgx11.out 1).trans rfl; have hzx11_2 : w11.cell? ⟨gx, 2, none⟩ = some (.slice A9 q.length c9) := (kc_ Bgx11.out 2).trans rfl; have hzr11_0 : w11.cell? ⟨gr, 0, none⟩ = some (.int .i64 0) := (kc_ Bgr11.out 0).trans rfl; have hzr11_1 : w11.cell? ⟨gr, 1, none⟩ = some (.int .u32 0) := (kc_ Bgr11.out 1).trans rfl; have hzr11_2 : w11.cell? ⟨gr, 2, none⟩ = some (.slice none 0 0) := (kc_ Bgr11.out 2).trans rfl; have fzr11_0 := kf_ Bgr11.out 0; have fzr11_1 := kf_ Bgr11.out 1; have fzr11_2 := kf_ Bgr11.out 2; clear hw hf) | ((with_reducible refine gate_store (t := 77) (p := 2) (v := .tmp 65) rfl ?_); refine sE 77 2 (.tmp 65) (sets gr w11 0 [.int .i64 a1, .int .u32 (b1 % 4294967296), .slice A9 q.length c9]) ?_; intro w12 hw; have Bgr12 := am_ (show w12.heap[gr]? = some (.cells #[.int .i64 a1, .int .u32 (b1 % 4294967296), .slice A9 q.length c9] 77 (0, 0)) by (rw [hw]; exact blk_put (blk_put (blk_put (Bgr11.out) 0 _ rfl) 1 _ rfl) 2 _ rfl)); have HB12 := am_ (show Below w0.heap.size w0 w12 by (rw [hw]; exact bs_ (bs_ (bs_ (HB11.out) (Nat.le_trans HSZ.out Ggr.out)) (Nat.le_trans HSZ.out Ggr.out)) (Nat.le_trans HSZ.out Ggr.out))); have HK12 := am_ (show KeepBut w w12 gt none by (rw [hw]; exact parcel_taker_item.keep_new (parcel_taker_item.keep_new (parcel_taker_item.keep_new (HK11.out) Ggr.out 0 _) Ggr.out 1 _) Ggr.out 2 _)); have hf : ∀ i, i ≠ gr → w12.heap[i]? = w11.heap[i]? := fun i hi => (by rw [hw]; exact (parcel_taker_item.far1 _ gr _ _ i hi).trans ((parcel_taker_item.far1 _ gr _ _ i hi).trans (parcel_taker_item.far1 _ gr _ _ i hi))); have BT12 := am_ ((hf gt (Ne.symm Ngr.out)).trans BT11.out); have HV12 := am_ (parcel_taker_item.R_farT HV11.out Bgr11.out (parcel_taker_item.ne_bytes 77 (by decide)) hf); clear hw hf))
 refine bodyPost_ret (results_cell_row rfl _ _ gr 77 #[.int .i64 a1, .int .u32 (b1 % 4294967296), .slice A9 q.length c9] (0, 0) _ rfl Bgr12.out Tryd.underlying77 rfl (by kernel_rfl)) rfl ?_
 exact ⟨_, rfl, HV12.out, BT12.out, HB12.out, HK12.out⟩
end Go.Proofs.YtoandmnefgimoaaDoor.PL
