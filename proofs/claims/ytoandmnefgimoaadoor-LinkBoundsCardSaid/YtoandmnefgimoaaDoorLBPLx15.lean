import Derived.Test.YtoandmnefgimoaaDoorLBPLx0
import Derived.Test.YtoandmnefgimoaaDoorLBPLx14
namespace Go.Proofs.YtoandmnefgimoaaDoor.PL
open Go.RowKit Go.Proofs.YtoandmnefgimoaaDoorW.PrintWords Go.Proofs.YtoandmnefgimoaaDoorW.PrintLast Go.Proofs.YtoandmnefgimoaaDoorW.PrintMore
set_option linter.unusedVariables false
set_option linter.unusedSimpArgs false
def parcel_taker_num.f (k : Nat) (l0 : List Int) (at_ e most : Int) : Option (Int × Int × Int) :=
 if e = 0 then (octet_TakeUint.f k l0 at_).bind fun t => (if t.2.2 = 0 then (if t.1 > most then some (0, t.2.1, 6) else some (wrap64 t.1, t.2.1, 0)) else some (0, t.2.1, t.2.2)) else some (0, at_, e)
def parcel_taker_num.T3 : Bool × List (List Nat × List Nat) := (true, [([], []), ([0], [0]), ([1], [1]), ([2], [2]), ([], []), ([4], [4]), ([5], [5]), ([6], [6]), ([3, 7], [3, 7]), ([8], [8]), ([9], [9]), ([9], [9]), ([9], [9]), ([10, 8, 0, 1, 2, 3, 4, 5, 6, 7, 8, 9, 10], [10]), ([11, 13, 0, 1, 2, 3, 4, 5, 6, 7, 8, 9, 10, 11, 13], [11]), ([12, 14, 0, 1, 2, 3, 4, 5, 6, 7, 8, 9, 10, 11, 12, 13, 14], [12])])
def parcel_taker_num.B3 : List Nat := [0, 1, 3, 7, 0, 16, 48, 112, 255, 511, 1023, 1023, 1023, 2047, 12287, 32767]
theorem parcel_taker_num.tab3 : rtab .any (opsOf Tryd.f52 3) = parcel_taker_num.T3 := by kernel_rfl
theorem parcel_taker_num.bits3 : waitsOk parcel_taker_num.T3.2 parcel_taker_num.B3 = true := by kernel_rfl
set_option maxHeartbeats 4000000 in
set_option maxRecDepth 100000 in
theorem parcel_taker_num.calls (k gt : Nat) (A0 : Option Addr) (c0 : Nat) (l0 : List Int) (at_ e most r1 r2 r3 : Int) (w0 w : World) (hr0 : Kd.C (Kd.int .u8) w0 A0 l0.length l0) (hc0 : l0.length ≤ c0) (hB : Below w0.heap.size w0 w) (hg : w0.heap.size ≤ gt)
 (hb : w.heap[gt]? = some (.cells #[.slice A0 l0.length c0, .int .i64 at_, .int .i64 e] 118 (0, 0))) (h : parcel_taker_num.f k l0 at_ e most = some (r1, r2, r3)) :
 Calls Tryd.prog 52 #[.pointer (some ⟨gt, 0, none⟩), .int .u64 most] w fun x w' => x = .returned (.int .i64 r1) ∧ w'.heap[gt]? = some (.cells #[.slice A0 l0.length c0, .int .i64 r2, .int .i64 r3] 118 (0, 0)) ∧ Below w0.heap.size w0 w' ∧ KeepBut w w' gt none := by
 have hu := Tryd.underlying118
 have HR0 := am_ hr0
 have HC0 := am_ hc0
 have HB := am_ hB
 have BT := am_ hb
 have HG := am_ hg
 have HK := am_ (KeepBut.refl w gt none)
 clear hr0 hc0 hB hb
 unfold parcel_taker_num.f at h
 have z1 : w.cell? ⟨gt, 1, none⟩ = some (.int .i64 at_) := (kc_ BT.out 1).trans rfl
 have z2 : w.cell? ⟨gt, 2, none⟩ = some (.int .i64 e) := (kc_ BT.out 2).trans rfl
 by_cases he : e = 0
 case neg =>
  rw [if_neg he] at h
  simp only [Option.some.injEq, Prod.mk.injEq] at h
  obtain ⟨rfl, rfl, rfl⟩ := h
  have heb : (e != 0) = true := bne_iff_ne.mpr he
  go_enter Tryd.func52, Tryd.ntmps52
  go_wp2
  go_ret
  exact ⟨rfl, BT.out, HB.out, HK.out⟩
 rw [if_pos he] at h
 subst he
 obtain ⟨⟨n, nx, e1⟩, ht, h⟩ := Option.bind_eq_some_iff.mp h
 dsimp only at h
 have HT := am_ ht
 clear ht
 by_cases h1 : e1 = 0
 case neg =>
  rw [if_neg h1] at h
  simp only [Option.some.injEq, Prod.mk.injEq] at h
  obtain ⟨rfl, rfl, rfl⟩ := h
  have b1 : (e1 == 0) = false := beq_eq_false_iff_ne.mpr h1
  have b2 : (e1 != 0) = true := bne_iff_ne.mpr h1
  clear h1
  go_enter Tryd.func52, Tryd.ntmps52
  go_wp2
  refine start_ (n := 16) (S := fun w' => w'.heap[gt]? = some (.cells #[.slice A0 l0.length c0, .int .i64 at_, .int .i64 0] 118 (0, 0))) (ds := []) #[false, false, false, false, false, false, false, false, false, false, false, false, false, false, false, false] (by kernel_rfl) rfl rfl (kd_ BT.out) (fun hHeld => ?_)
  refine with_tabW parcel_taker_num.tab3 parcel_taker_num.bits3 (fun HT_ HW_ => ?_)
  replace HB := am_ (bd_ HB.out)
  replace BT := am_ (kd_ BT.out)
  replace HK := am_ (keep_drewN HK.out 1)
  clear z1 z2
  have HK1 := am_ (show KeepBut w w.drew gt none from HK.out)
  clear HK
  generalize hw1 : w.drew = w1 at HB BT HK1 hHeld ⊢
  clear hw1
  refine pA 0 (some 14) #[o1,o0,o0,o0,o0,o0,o0,o0,o0,o0,o0,o0,o0,o0,o0,o0] HT_ ?_
  refine pA 1 (some 15) #[o1,o1,o0,o0,o0,o0,o0,o0,o0,o0,o0,o0,o0,o0,o0,o0] HT_ ?_
  refine pA 2 (some 16) #[o1,o1,o1,o0,o0,o0,o0,o0,o0,o0,o0,o0,o0,o0,o0,o0] HT_ ?_
  refine tA (v := ?_) 3 (some 17) #[o1,o1,o1,o1,o0,o0,o0,o0,o0,o0,o0,o0,o0,o0,o0,o0] HT_ HW_ hHeld ?_ ?_
  rotate_left
  ·
   rintro w' s0
   have q_ := (kc_ s0 0).trans rfl
   go_simp
   with_reducible rfl
  refine pA 4 (some 18) #[o1,o1,o1,o1,o1,o0,o0,o0,o0,o0,o0,o0,o0,o0,o0,o0] HT_ ?_
  refine pA 5 (some 19) #[o1,o1,o1,o1,o1,o1,o0,o0,o0,o0,o0,o0,o0,o0,o0,o0] HT_ ?_
  refine pA 6 (some 20) #[o1,o1,o1,o1,o1,o1,o1,o0,o0,o0,o0,o0,o0,o0,o0,o0] HT_ ?_
  refine tA (v := ?_) 7 (some 21) #[o1,o1,o1,o1,o1,o1,o1,o1,o0,o0,o0,o0,o0,o0,o0,o0] HT_ HW_ hHeld ?_ ?_
  rotate_left
  ·
   rintro w' s0
   have q_ := (kc_ s0 1).trans rfl
   go_simp
   with_reducible rfl
  refine nO 8 (some 22) #[o1,o1,o1,o1,o1,o1,o1,o1,o1,o0,o0,o0,o0,o0,o0,o0] HT_ (fun K hK => ?_)
  refine goes_ Tryd.func41 (by kernel_rfl) rfl #[.slice A0 l0.length c0, .int .i64 at_] (by rfl) rfl rfl (by (try simp only [List.map_toArray, List.map_cons, List.map_nil]); rfl) ?_
  refine (octet_TakeUint.calls k _ _ l0 at_ n nx e1 _ (Kd.C_below HR0.out HB.out) HC0.out HT.out).mono ?_
  rintro x w2 ⟨rfl, hd⟩
  refine ⟨_, rfl, ?_⟩
  obtain ⟨m2, rfl⟩ := hd.out
  clear hd
  replace HB := am_ (bn_ HB.out m2)
  replace BT := am_ (kn_ BT.out m2)
  replace HK1 := am_ (keep_drewN HK1.out m2)
  refine hK.out _ _ BT.out (fun hHeld => ?_)
  clear hK K
  refine nA ?_
  generalize w1.drewN m2 = w2 at HB BT HK1 hHeld ⊢
  refine pA 9 (some 13) #[o1,o1,o1,o1,o1,o1,o1,o1,o1,o1,o0,o0,o0,o0,o0,o0] HT_ ?_
  refine pA 10 (some 23) #[o1,o1,o1,o1,o1,o1,o1,o1,o1,o1,o1,o0,o0,o0,o0,o0] HT_ ?_
  refine pA 11 (some 24) #[o1,o1,o1,o1,o1,o1,o1,o1,o1,o1,o1,o1,o0,o0,o0,o0] HT_ ?_
  refine pA 12 (some 25) #[o1,o1,o1,o1,o1,o1,o1,o1,o1,o1,o1,o1,o1,o0,o0,o0] HT_ ?_
  refine pA 13 (some 5) #[o1,o1,o1,o1,o1,o1,o1,o1,o1,o1,o1,o1,o1,o1,o0,o0] HT_ ?_
  refine pA 14 (some 6) #[o1,o1,o1,o1,o1,o1,o1,o1,o1,o1,o1,o1,o1,o1,o1,o0] HT_ ?_
  refine pA 15 (some 7) #[o1,o1,o1,o1,o1,o1,o1,o1,o1,o1,o1,o1,o1,o1,o1,o1] HT_ ?_
  refine dA HT_ ?_
  have y1 : w2.cell? ⟨gt, 1, none⟩ = some (.int .i64 at_) := (kc_ BT.out 1).trans rfl
  have y2 : w2.cell? ⟨gt, 2, none⟩ = some (.int .i64 0) := (kc_ BT.out 2).trans rfl
  have f1 := kf_ BT.out 1
  have f2 := kf_ BT.out 2
  go_wp2_with (first | ((with_reducible refine gate_store (t := 3) (p := 38) (v := .tmp 35) rfl ?_); refine sE 3 38 (.tmp 35) (w2.setCell ⟨gt, 1, none⟩ (.int .i64 nx)) ?_; intro w3 hw; have BT3 := am_ (show w3.heap[gt]? = some (.cells #[.slice A0 l0.length c0, .int .i64 nx, .int .i64 0] 118 (0, 0)) by (rw [hw]; exact blk_put BT.out 1 _ rfl)); have HB3 := am_ (show Below w0.heap.size w0 w3 by (rw [hw]; exact bs_ HB.out HG.out)); have HK3 := am_ (show KeepBut w w3 gt none by (rw [hw]; exact KeepBut.set_ HK1.out 1 _)); have y23 : w3.cell? ⟨gt, 2, none⟩ = some (.int .i64 0) := (kc_ BT3.out 2).trans rfl; have f23 := kf_ BT3.out 2; clear hw) | ((with_reducible refine gate_store (t := 28) (p := 40) (v := .tmp 36) rfl ?_); refine sE 28 40 (.tmp 36) (w3.setCell ⟨gt, 2, none⟩ (.int .i64 e1)) ?_; intro w4 hw; have BT4 := am_ (show w4.heap[gt]? = some (.cells #[.slice A0 l0.length c0, .int .i64 nx, .int .i64 e1] 118 (0, 0)) by (rw [hw]; exact blk_put BT3.out 2 _ rfl)); have HB4 := am_ (show Below w0.heap.size w0 w4 by (rw [hw]; exact bs_ HB3.out HG.out)); have HK4 := am_ (show KeepBut w w4 gt none by (rw [hw]; exact KeepBut.set_ HK3.out 2 _)); clear hw))
  go_ret
  exact ⟨rfl, BT4.out, HB4.out, HK4.out⟩
 rw [if_pos h1] at h
 subst h1
 by_cases h2 : n > most
 case pos =>
  rw [if_pos h2] at h
  simp only [Option.some.injEq, Prod.mk.injEq] at h
  obtain ⟨rfl, rfl, rfl⟩ := h
  have b1 := decide_eq_true h2
  clear h2
  go_enter Tryd.func52, Tryd.ntmps52
  go_wp2
  refine start_ (n := 16) (S := fun w' => w'.heap[gt]? = some (.cells #[.slice A0 l0.length c0, .int .i64 at_, .int .i64 0] 118 (0, 0))) (ds := []) #[false, false, false, false, false, false, false, false, false, false, false, false, false, false, false, false] (by kernel_rfl) rfl rfl (kd_ BT.out) (fun hHeld => ?_)
  refine with_tabW parcel_taker_num.tab3 parcel_taker_num.bits3 (fun HT_ HW_ => ?_)
  replace HB := am_ (bd_ HB.out)
  replace BT := am_ (kd_ BT.out)
  replace HK := am_ (keep_drewN HK.out 1)
  clear z1 z2
  have HK1 := am_ (show KeepBut w w.drew gt none from HK.out)
  clear HK
  generalize hw1 : w.drew = w1 at HB BT HK1 hHeld ⊢
  clear hw1
  refine pA 0 (some 14) #[o1,o0,o0,o0,o0,o0,o0,o0,o0,o0,o0,o0,o0,o0,o0,o0] HT_ ?_
  refine pA 1 (some 15) #[o1,o1,o0,o0,o0,o0,o0,o0,o0,o0,o0,o0,o0,o0,o0,o0] HT_ ?_
  refine pA 2 (some 16) #[o1,o1,o1,o0,o0,o0,o0,o0,o0,o0,o0,o0,o0,o0,o0,o0] HT_ ?_
  refine tA (v := ?_) 3 (some 17) #[o1,o1,o1,o1,o0,o0,o0,o0,o0,o0,o0,o0,o0,o0,o0,o0] HT_ HW_ hHeld ?_ ?_
  rotate_left
  ·
   rintro w' s0
   have q_ := (kc_ s0 0).trans rfl
   go_simp
   with_reducible rfl
  refine pA 4 (some 18) #[o1,o1,o1,o1,o1,o0,o0,o0,o0,o0,o0,o0,o0,o0,o0,o0] HT_ ?_
  refine pA 5 (some 19) #[o1,o1,o1,o1,o1,o1,o0,o0,o0,o0,o0,o0,o0,o0,o0,o0] HT_ ?_
  refine pA 6 (some 20) #[o1,o1,o1,o1,o1,o1,o1,o0,o0,o0,o0,o0,o0,o0,o0,o0] HT_ ?_
  refine tA (v := ?_) 7 (some 21) #[o1,o1,o1,o1,o1,o1,o1,o1,o0,o0,o0,o0,o0,o0,o0,o0] HT_ HW_ hHeld ?_ ?_
  rotate_left
  ·
   rintro w' s0
   have q_ := (kc_ s0 1).trans rfl
   go_simp
   with_reducible rfl
  refine nO 8 (some 22) #[o1,o1,o1,o1,o1,o1,o1,o1,o1,o0,o0,o0,o0,o0,o0,o0] HT_ (fun K hK => ?_)
  refine goes_ Tryd.func41 (by kernel_rfl) rfl #[.slice A0 l0.length c0, .int .i64 at_] (by rfl) rfl rfl (by (try simp only [List.map_toArray, List.map_cons, List.map_nil]); rfl) ?_
  refine (octet_TakeUint.calls k _ _ l0 at_ n nx 0 _ (Kd.C_below HR0.out HB.out) HC0.out HT.out).mono ?_
  rintro x w2 ⟨rfl, hd⟩
  refine ⟨_, rfl, ?_⟩
  obtain ⟨m2, rfl⟩ := hd.out
  clear hd
  replace HB := am_ (bn_ HB.out m2)
  replace BT := am_ (kn_ BT.out m2)
  replace HK1 := am_ (keep_drewN HK1.out m2)
  refine hK.out _ _ BT.out (fun hHeld => ?_)
  clear hK K
  refine nA ?_
  generalize w1.drewN m2 = w2 at HB BT HK1 hHeld ⊢
  refine pA 9 (some 13) #[o1,o1,o1,o1,o1,o1,o1,o1,o1,o1,o0,o0,o0,o0,o0,o0] HT_ ?_
  refine pA 10 (some 23) #[o1,o1,o1,o1,o1,o1,o1,o1,o1,o1,o1,o0,o0,o0,o0,o0] HT_ ?_
  refine pA 11 (some 24) #[o1,o1,o1,o1,o1,o1,o1,o1,o1,o1,o1,o1,o0,o0,o0,o0] HT_ ?_
  refine pA 12 (some 25) #[o1,o1,o1,o1,o1,o1,o1,o1,o1,o1,o1,o1,o1,o0,o0,o0] HT_ ?_
  refine pA 13 (some 5) #[o1,o1,o1,o1,o1,o1,o1,o1,o1,o1,o1,o1,o1,o1,o0,o0] HT_ ?_
  refine pA 14 (some 6) #[o1,o1,o1,o1,o1,o1,o1,o1,o1,o1,o1,o1,o1,o1,o1,o0] HT_ ?_
  refine pA 15 (some 7) #[o1,o1,o1,o1,o1,o1,o1,o1,o1,o1,o1,o1,o1,o1,o1,o1] HT_ ?_
  refine dA HT_ ?_
  have y1 : w2.cell? ⟨gt, 1, none⟩ = some (.int .i64 at_) := (kc_ BT.out 1).trans rfl
  have y2 : w2.cell? ⟨gt, 2, none⟩ = some (.int .i64 0) := (kc_ BT.out 2).trans rfl
  have f1 := kf_ BT.out 1
  have f2 := kf_ BT.out 2
  go_wp2_with (first | ((with_reducible refine gate_store (t := 3) (p := 38) (v := .tmp 35) rfl ?_); refine sE 3 38 (.tmp 35) (w2.setCell ⟨gt, 1, none⟩ (.int .i64 nx)) ?_; intro w3 hw; have BT3 := am_ (show w3.heap[gt]? = some (.cells #[.slice A0 l0.length c0, .int .i64 nx, .int .i64 0] 118 (0, 0)) by (rw [hw]; exact blk_put BT.out 1 _ rfl)); have HB3 := am_ (show Below w0.heap.size w0 w3 by (rw [hw]; exact bs_ HB.out HG.out)); have HK3 := am_ (show KeepBut w w3 gt none by (rw [hw]; exact KeepBut.set_ HK1.out 1 _)); have y23 : w3.cell? ⟨gt, 2, none⟩ = some (.int .i64 0) := (kc_ BT3.out 2).trans rfl; have f23 := kf_ BT3.out 2; clear hw) | ((with_reducible refine gate_store (t := 28) (p := 40) (v := .tmp 36) rfl ?_); refine sE 28 40 (.tmp 36) (w3.setCell ⟨gt, 2, none⟩ (.int .i64 (6))) ?_; intro w4 hw; have BT4 := am_ (show w4.heap[gt]? = some (.cells #[.slice A0 l0.length c0, .int .i64 nx, .int .i64 (6)] 118 (0, 0)) by (rw [hw]; exact blk_put BT3.out 2 _ rfl)); have HB4 := am_ (show Below w0.heap.size w0 w4 by (rw [hw]; exact bs_ HB3.out HG.out)); have HK4 := am_ (show KeepBut w w4 gt none by (rw [hw]; exact KeepBut.set_ HK3.out 2 _)); clear hw))
  go_ret
  exact ⟨rfl, BT4.out, HB4.out, HK4.out⟩
 rw [if_neg h2] at h
 simp only [Option.some.injEq, Prod.mk.injEq] at h
 obtain ⟨rfl, rfl, rfl⟩ := h
 have b1 := decide_eq_false h2
 clear h2
 go_enter Tryd.func52, Tryd.ntmps52
 go_wp2
 refine start_ (n := 16) (S := fun w' => w'.heap[gt]? = some (.cells #[.slice A0 l0.length c0, .int .i64 at_, .int .i64 0] 118 (0, 0))) (ds := []) #[false, false, false, false, false, false, false, false, false, false, false, false, false, false, false, false] (by kernel_rfl) rfl rfl (kd_ BT.out) (fun hHeld => ?_)
 refine with_tabW parcel_taker_num.tab3 parcel_taker_num.bits3 (fun HT_ HW_ => ?_)
 replace HB := am_ (bd_ HB.out)
 replace BT := am_ (kd_ BT.out)
 replace HK := am_ (keep_drewN HK.out 1)
 clear z1 z2
 have HK1 := am_ (show KeepBut w w.drew gt none from HK.out)
 clear HK
 generalize hw1 : w.drew = w1 at HB BT HK1 hHeld ⊢
 clear hw1
 refine pA 0 (some 14) #[o1,o0,o0,o0,o0,o0,o0,o0,o0,o0,o0,o0,o0,o0,o0,o0] HT_ ?_
 refine pA 1 (some 15) #[o1,o1,o0,o0,o0,o0,o0,o0,o0,o0,o0,o0,o0,o0,o0,o0] HT_ ?_
 refine pA 2 (some 16) #[o1,o1,o1,o0,o0,o0,o0,o0,o0,o0,o0,o0,o0,o0,o0,o0] HT_ ?_
 refine tA (v := ?_) 3 (some 17) #[o1,o1,o1,o1,o0,o0,o0,o0,o0,o0,o0,o0,o0,o0,o0,o0] HT_ HW_ hHeld ?_ ?_
 rotate_left
 ·
  rintro w' s0
  have q_ := (kc_ s0 0).trans rfl
  go_simp
  with_reducible rfl
 refine pA 4 (some 18) #[o1,o1,o1,o1,o1,o0,o0,o0,o0,o0,o0,o0,o0,o0,o0,o0] HT_ ?_
 refine pA 5 (some 19) #[o1,o1,o1,o1,o1,o1,o0,o0,o0,o0,o0,o0,o0,o0,o0,o0] HT_ ?_
 refine pA 6 (some 20) #[o1,o1,o1,o1,o1,o1,o1,o0,o0,o0,o0,o0,o0,o0,o0,o0] HT_ ?_
 refine tA (v := ?_) 7 (some 21) #[o1,o1,o1,o1,o1,o1,o1,o1,o0,o0,o0,o0,o0,o0,o0,o0] HT_ HW_ hHeld ?_ ?_
 rotate_left
 ·
  rintro w' s0
  have q_ := (kc_ s0 1).trans rfl
  go_simp
  with_reducible rfl
 refine nO 8 (some 22) #[o1,o1,o1,o1,o1,o1,o1,o1,o1,o0,o0,o0,o0,o0,o0,o0] HT_ (fun K hK => ?_)
 refine goes_ Tryd.func41 (by kernel_rfl) rfl #[.slice A0 l0.length c0, .int .i64 at_] (by rfl) rfl rfl (by (try simp only [List.map_toArray, List.map_cons, List.map_nil]); rfl) ?_
 refine (octet_TakeUint.calls k _ _ l0 at_ n nx 0 _ (Kd.C_below HR0.out HB.out) HC0.out HT.out).mono ?_
 rintro x w2 ⟨rfl, hd⟩
 refine ⟨_, rfl, ?_⟩
 obtain ⟨m2, rfl⟩ := hd.out
 clear hd
 replace HB := am_ (bn_ HB.out m2)
 replace BT := am_ (kn_ BT.out m2)
 replace HK1 := am_ (keep_drewN HK1.out m2)
 refine hK.out _ _ BT.out (fun hHeld => ?_)
 clear hK K
 refine nA ?_
 generalize w1.drewN m2 = w2 at HB BT HK1 hHeld ⊢
 refine pA 9 (some 13) #[o1,o1,o1,o1,o1,o1,o1,o1,o1,o1,o0,o0,o0,o0,o0,o0] HT_ ?_
 refine pA 10 (some 23) #[o1,o1,o1,o1,o1,o1,o1,o1,o1,o1,o1,o0,o0,o0,o0,o0] HT_ ?_
 refine pA 11 (some 24) #[o1,o1,o1,o1,o1,o1,o1,o1,o1,o1,o1,o1,o0,o0,o0,o0] HT_ ?_
 refine pA 12 (some 25) #[o1,o1,o1,o1,o1,o1,o1,o1,o1,o1,o1,o1,o1,o0,o0,o0] HT_ ?_
 refine pA 13 (some 5) #[o1,o1,o1,o1,o1,o1,o1,o1,o1,o1,o1,o1,o1,o1,o0,o0] HT_ ?_
 refine pA 14 (some 6) #[o1,o1,o1,o1,o1,o1,o1,o1,o1,o1,o1,o1,o1,o1,o1,o0] HT_ ?_
 refine pA 15 (some 7) #[o1,o1,o1,o1,o1,o1,o1,o1,o1,o1,o1,o1,o1,o1,o1,o1] HT_ ?_
 refine dA HT_ ?_
 have y1 : w2.cell? ⟨gt, 1, none⟩ = some (.int .i64 at_) := (kc_ BT.out 1).trans rfl
 have y2 : w2.cell? ⟨gt, 2, none⟩ = some (.int .i64 0) := (kc_ BT.out 2).trans rfl
 have f1 := kf_ BT.out 1
 have f2 := kf_ BT.out 2
 go_wp2_with (first | ((with_reducible refine gate_store (t := 3) (p := 38) (v := .tmp 35) rfl ?_); refine sE 3 38 (.tmp 35) (w2.setCell ⟨gt, 1, none⟩ (.int .i64 nx)) ?_; intro w3 hw; have BT3 := am_ (show w3.heap[gt]? = some (.cells #[.slice A0 l0.length c0, .int .i64 nx, .int .i64 0] 118 (0, 0)) by (rw [hw]; exact blk_put BT.out 1 _ rfl)); have HB3 := am_ (show Below w0.heap.size w0 w3 by (rw [hw]; exact bs_ HB.out HG.out)); have HK3 := am_ (show KeepBut w w3 gt none by (rw [hw]; exact KeepBut.set_ HK1.out 1 _)); have y23 : w3.cell? ⟨gt, 2, none⟩ = some (.int .i64 0) := (kc_ BT3.out 2).trans rfl; have f23 := kf_ BT3.out 2; clear hw) | ((with_reducible refine gate_store (t := 28) (p := 40) (v := .tmp 36) rfl ?_); refine sE 28 40 (.tmp 36) (w3.setCell ⟨gt, 2, none⟩ (.int .i64 (0))) ?_; intro w4 hw; have BT4 := am_ (show w4.heap[gt]? = some (.cells #[.slice A0 l0.length c0, .int .i64 nx, .int .i64 (0)] 118 (0, 0)) by (rw [hw]; exact blk_put BT3.out 2 _ rfl)); have HB4 := am_ (show Below w0.heap.size w0 w4 by (rw [hw]; exact bs_ HB3.out HG.out)); have HK4 := am_ (show KeepBut w w4 gt none by (rw [hw]; exact KeepBut.set_ HK3.out 2 _)); clear hw))
 go_ret
 exact ⟨rfl, BT4.out, HB4.out, HK4.out⟩
end Go.Proofs.YtoandmnefgimoaaDoor.PL
