import Derived.Test.YtoandmnefgimoaaDoorLBPLx0
import Derived.Test.YtoandmnefgimoaaDoorLBPLx2
import Derived.Test.YtoandmnefgimoaaDoorLBPLx6
import Derived.Test.YtoandmnefgimoaaDoorLBPLx7
import Derived.Test.YtoandmnefgimoaaDoorLBPLx12
namespace Go.Proofs.YtoandmnefgimoaaDoor.PL
open Go.RowKit Go.Proofs.YtoandmnefgimoaaDoorW.PrintWords Go.Proofs.YtoandmnefgimoaaDoorW.PrintLast Go.Proofs.YtoandmnefgimoaaDoorW.PrintMore
set_option linter.unusedVariables false
set_option linter.unusedSimpArgs false
def link_Link_Pull.T7 : Bool × List (List Nat × List Nat) := (true, [([], []), ([0], [0]), ([1], [1]), ([2], [2]), ([], []), ([4], [4]), ([5], [5]), ([6], [6]), ([], []), ([8], [8]), ([9], [9]), ([10], [10]), ([3, 7, 11], [3, 7, 11]), ([12], [12]), ([], [])])
def link_Link_Pull.B7 : List Nat := [0, 1, 3, 7, 0, 16, 48, 112, 0, 256, 768, 1792, 4095, 8191, 0]
theorem link_Link_Pull.tab7 : rtab .any (opsOf Tryd.f11 7) = link_Link_Pull.T7 := by kernel_rfl
theorem link_Link_Pull.bits7 : waitsOk link_Link_Pull.T7.2 link_Link_Pull.B7 = true := by kernel_rfl
def link_Link_Pull.T12 : Bool × List (List Nat × List Nat) := (true, [([], []), ([0], [0]), ([], []), ([], []), ([3], [3]), ([2, 4], [2, 4]), ([1, 5, 5], [1, 5]), ([6], [6]), ([7], [7]), ([7], [7]), ([8, 6, 0, 1, 2, 3, 4, 5, 6, 7, 8], [8]), ([9, 10, 0, 1, 2, 3, 4, 5, 6, 7, 8, 9, 10], [9])])
def link_Link_Pull.B12 : List Nat := [0, 1, 0, 0, 8, 28, 63, 127, 255, 255, 511, 2047]
theorem link_Link_Pull.tab12 : rtab .any (opsOf Tryd.f11 12) = link_Link_Pull.T12 := by kernel_rfl
theorem link_Link_Pull.bits12 : waitsOk link_Link_Pull.T12.2 link_Link_Pull.B12 = true := by kernel_rfl
theorem TabW.belowB {w w1 : World} (h : TabW w) {B : Nat} (hb : Below B w w1) (hB : 1 ≤ B) : TabW w1 :=
 tabW_of_cells (fun i hi => (hb.cell (p := ⟨0, i, none⟩) (by show 0 < B; omega)).trans (by
  have h2 := tab_cell h (i := (i : Int)) (by omega) (by have : sealHalf.length = 16 := rfl; omega)
  simpa [rd] using h2))
theorem LKv.head {W : World} {ok : Nat → Prop} {g : Nat} {L : LK} {v : Value} {kd : Int} {body : List Int} {rest : List S79} (h : LKv W ok g L v) (hws : L.ws = ⟨kd, body⟩ :: rest) :
 ∃ gw o cw Ab cb A', v = .slice (some ⟨gw, o, none⟩) (rest.length + 1) cw ∧ W.cell? ⟨gw, o, none⟩ = some (.int .u8 kd) ∧ W.cell? ⟨gw, o + 1, none⟩ = some (.slice Ab body.length cb) ∧ body.length ≤ cb ∧ Kd.F (Kd.int .u8) W (fun k => ok k ∧ k ≠ g) Ab body.length body ∧
  (∀ W', (Instr.slice 69 (.slice (some ⟨gw, o, none⟩) (rest.length + 1) cw) (some (.int .i64 1)) none none).run Tryd.prog W' = .ok (.slice A' rest.length (cw - 1)) W') ∧ Kd.Q k79 79 W 0 (fun k => ok k ∧ k ≠ g) (.slice A' rest.length (cw - 1)) rest := by
 have hq := h.2.1
 rw [hws] at hq
 obtain ⟨gw, o, cw, rfl, _, _, _⟩ := Kd.Q_form hq (by simp)
 obtain ⟨ad, c, he, hcl, hK, hcc, _⟩ := Kd.F_get (Kd.Q_F hq) (⟨0, []⟩ : S79) 0 (by omega) (by simp)
 injection he with he
 subst he
 have hg0 : (((⟨kd, body⟩ : S79) :: rest).getD (0 : Int).toNat (⟨0, []⟩ : S79)) = ⟨kd, body⟩ := rfl
 rw [hg0] at hK
 obtain ⟨Ab, cb, rfl, hcb, hF⟩ := k79_openF hK
 obtain ⟨ti, hti, hzz⟩ := Option.map_eq_some_iff.1 info79
 simp only [Prod.mk.injEq] at hzz
 have h0 := hcc 0 _ rfl
 have h1 := hcc 1 _ rfl
 have ha : ∀ j, (⟨gw, o, none⟩ : Addr).add ((0 : Int).toNat * k79.sz + j) = ⟨gw, o + j, none⟩ := fun j => by
  rw [add_at]
  simp
 rw [ha] at h0 h1
 have hc1 := cut_from (P := Tryd.prog) 69 79 .i64 Tryd.underlying69 hti 2 hzz.2.1 (some ⟨gw, o, none⟩) (rest.length + 1) cw 1 (by omega) (by omega)
 have hq2 := Kd.Q_drop (k := 1) hq (by simp)
 exact ⟨gw, o, cw, Ab, cb, _, rfl, h0, h1, hcb, hF, hc1, hq2⟩
theorem pull_drop {own other m : Int} {i : Int} (h0 : 0 ≤ i) (h1 : i < 3) {W : World} {gi t : Nat} (hb : W.heap[gi]? = some (.cells #[.int .i64 own, .int .i64 other, .int .i64 m] t (0, 0))) :
 ∃ n, W.cell? ⟨gi, i.toNat, none⟩ = some (.int .i64 n) ∧ [own, other, m].drop i.toNat = n :: [own, other, m].drop (i.toNat + 1) := by
 obtain h | h | h : i = 0 ∨ i = 1 ∨ i = 2 := by omega
 ·
  subst h; exact ⟨own, (kc_ hb 0).trans rfl, rfl⟩
 ·
  subst h; exact ⟨other, (kc_ hb 1).trans rfl, rfl⟩
 subst h; exact ⟨m, (kc_ hb 2).trans rfl, rfl⟩
def link_Link_Pull.F (k : Nat) (own other made : Int) (kd : Int) (body : List Int) : Option (List Int) :=
 (parcel_Put.nums k [] [own, other, made]).bind fun h => if h.length + body.length < 140737488355328 then (seal_Seal.f k kd (h ++ body)).bind fun s => some s.1 else none
theorem link_Link_Pull.none_calls (g : Nat) (L : LK) (ok : Nat → Prop) (w : World) (hL : LKat w ok g L) (hws : L.ws = []) :
 Calls Tryd.prog 11 #[.pointer (some ⟨g, 0, none⟩)] w fun e w' => e = .returned (.tuple #[.slice none 0 0, .bool false]) ∧ w = w' := by
 have hu := Tryd.underlying71
 obtain ⟨v, hv⟩ := hL
 obtain ⟨A, c, rfl, hc⟩ := hv.slice
 rw [hws] at hv
 have hz := (kc_ hv.1 4).trans rfl
 have BV := am_ hv
 clear hv hc hws
 go_enter Tryd.func11, Tryd.ntmps11
 go_wp2
 go_ret2
 exact ⟨rfl, rfl⟩
set_option maxHeartbeats 8000000 in
set_option maxRecDepth 100000 in
theorem link_Link_Pull.calls (k B g : Nat) (L : LK) (ok : Nat → Prop) (kd : Int) (body : List Int) (rest : List S79) (r : List Int) (w : World) (hL : LKat w ok g L) (hws : L.ws = ⟨kd, body⟩ :: rest) (h : link_Link_Pull.F k L.own L.other (L.made + 1) kd body = some r) (hm0 : 0 ≤ L.made) (hm1 : L.made < 1099511627776) (ht : TabW w) (hB : ∀ k, ok k → B ≤ k) (hBw : B ≤ w.heap.size) (hB1 : 1 ≤ B) :
 Calls Tryd.prog 11 #[.pointer (some ⟨g, 0, none⟩)] w fun e w' => ∃ v, e = .returned (.tuple #[v, .bool true]) ∧ Kd.R (Kd.int .u8) 5 w' w.heap.size (fun _ => True) v r ∧ LKat w' ok g { L with ws := rest, made := L.made + 1 } ∧ Kept w w' ok ∧ Below B w w' := by
 have hu := Tryd.underlying71
 have huw := Tryd.underlying79
 obtain ⟨v, hv⟩ := hL
 obtain ⟨gw, o, cw, Ab, cb, A', rfl, hc0, hc1, hcb, hF, hcut, hq⟩ := hv.head hws
 have hmm : wrap64 (L.made + 1) = L.made + 1 := by unfold wrap64; omega
 have hmw := am_ hmm
 have b3 : (L.made == 1099511627776) = false := beq_eq_false_iff_ne.mpr (by omega)
 obtain ⟨m, hm⟩ : ∃ m, rest.length + 1 = m := ⟨_, rfl⟩
 rw [hm] at hv hcut
 have b1 : ((m : Int) == 0) = false := beq_eq_false_iff_ne.mpr (by omega)
 have b1n : (m == 0) = false := beq_eq_false_iff_ne.mpr (by omega)
 have p1 : (0 < (m : Int)) = True := eq_true (by omega)
 have p2 : (0 < m) = True := eq_true (by omega)
 have BV0 := am_ hv
 have HF0 := am_ hF
 have HQ0 := am_ hq
 have HCB := am_ hcb
 have HT := am_ ht
 have HBB := am_ hB
 have HBW := am_ hBw
 have HB1_ := am_ hB1
 unfold link_Link_Pull.F at h
 obtain ⟨hd, hnums, h⟩ := Option.bind_eq_some_iff.mp h
 by_cases hl : hd.length + body.length < 140737488355328
 case neg => rw [if_neg hl] at h; exact absurd h (by simp)
 rw [if_pos hl] at h
 obtain ⟨⟨s1, s2⟩, hs, h⟩ := Option.bind_eq_some_iff.mp h
 obtain rfl := Option.some.inj h
 dsimp only
 have HNU := am_ hnums
 have HLN := am_ hl
 have HS := am_ hs
 clear hF hq hcb ht hB hBw hB1 h hnums hl hs hm hm0 hm1 hws hmm
 have z0_3 := (kc_ BV0.out.1 3).trans rfl
 have z0_4 := (kc_ BV0.out.1 4).trans rfl
 go_enter Tryd.func11, Tryd.ntmps11
 go_wp2_with (first | ((with_reducible refine gd_ (N := 4) rfl ?_); refine bE 4 #[.int .u8 0, .slice none 0 0] 79 ?_; intro gx hg w1 hbox hb; have HX1 := am_ hb; have GX := am_ (show w.heap.size ≤ gx by rw [hg]; exact Nat.le_refl _); have BX1 := am_ hbox; have hzn1_0 : w1.cell? ⟨gx, 0, none⟩ = some (.int .u8 0) := (kc_ BX1.out 0).trans rfl; have hzn1_1 : w1.cell? ⟨gx, 1, none⟩ = some (.slice none 0 0) := (kc_ BX1.out 1).trans rfl; have fzn1_0 := kf_ BX1.out 0; have fzn1_1 := kf_ BX1.out 1; clear hb hg hbox) | ((with_reducible refine gate_store (t := 79) (p := 4) (v := .tmp 32) rfl ?_); refine sE 79 4 (.tmp 32) (sets gx w1 0 [.int .u8 kd, .slice Ab body.length cb]) ?_; intro w2 hw; have BX2 := am_ (show w2.heap[gx]? = some (.cells #[.int .u8 kd, .slice Ab body.length cb] 79 (0, 0)) by (rw [hw]; exact blk_put (blk_put BX1.out 0 _ rfl) 1 _ rfl)); have HX2 := am_ (show Below w.heap.size w w2 by (rw [hw]; exact bs_ (bs_ HX1.out GX.out) GX.out)); have BV2 := am_ (BV0.out.keepB HX2.out); have HF2 := am_ (Kd.F_below HF0.out HX2.out); have HQ2 := am_ (Kd.Q_below HQ0.out HX2.out); have HB2 := am_ (HX2.out.mono HBW.out); have HK2 := am_ (kept_below (kept_refl w ok) HX2.out); have NG := am_ (show gx ≠ g from fun e_ => by have := blk_lt BV0.out.1; have := GX.out; omega); have HZ2 := am_ HX2.out.size; have z2_4 := (kc_ BV2.out.1 4).trans rfl; have f2_4 := kf_ BV2.out.1 4; clear hw) | ((with_reducible refine gate_store (t := 69) (p := 40) (v := .tmp 38) rfl ?_); refine sE 69 40 (.tmp 38) (w2.setCell ⟨g, 4, none⟩ (.slice A' rest.length (cw - 1))) ?_; intro w3 hw; have BV3 := am_ (show LKv w3 ok g ({ L with ws := rest }) (.slice A' rest.length (cw - 1)) by (rw [hw]; exact ⟨blk_put BV2.out.1 4 _ rfl, Kd.Q_far HQ2.out (p := ⟨g, 4, none⟩) (fun k hk => hk.2) _, BV2.out.2.2⟩)); have HF3 := am_ (show Kd.F (Kd.int .u8) w3 (fun k => ok k ∧ k ≠ g) Ab body.length body by (rw [hw]; exact Kd.F_far HF2.out (p := ⟨g, 4, none⟩) (fun k hk => hk.2) _)); have HB3 := am_ (show Below B w w3 by (rw [hw]; exact HB2.out.setCell (HBB.out g BV2.out.2.2) _)); have HK3 := am_ (show Kept w w3 ok by (rw [hw]; exact kept_set HK2.out BV2.out.2.2 _)); have BX3 := am_ (show w3.heap[gx]? = some (.cells #[.int .u8 kd, .slice Ab body.length cb] 79 (0, 0)) by (rw [hw]; exact (Below.heap_setCell w2 ⟨g, 4, none⟩ _ gx NG.out).trans BX2.out)); have HZ3 := am_ (show w.heap.size ≤ w3.heap.size by (rw [hw]; simpa [World.setCell] using HZ2.out)); have z3_3 := (kc_ BV3.out.1 3).trans rfl; have f3_3 := kf_ BV3.out.1 3; clear hw) | ((with_reducible refine gate_store (t := 3) (p := 47) (v := .tmp 45) rfl ?_); refine store_event rfl (t := 3) (p := 47) (v := .tmp 45) rfl rfl (w1 := w3.setCell ⟨g, 3, none⟩ (.int .i64 (L.made + 1))) ?hr ?_; (case hr => have hmm := hmw.out; (go_simp; done)); intro w4 hw; have BV4 := am_ (show LKv w4 ok g ({ L with ws := rest, made := L.made + 1 }) (.slice A' rest.length (cw - 1)) by (rw [hw]; exact BV3.out.put (L' := { L with ws := rest, made := L.made + 1 }) rfl 3 (.int .i64 (L.made + 1)) rfl)); have HF4 := am_ (show Kd.F (Kd.int .u8) w4 (fun k => ok k ∧ k ≠ g) Ab body.length body by (rw [hw]; exact Kd.F_far HF3.out (p := ⟨g, 3, none⟩) (fun k hk => hk.2) _)); have HB4 := am_ (show Below B w w4 by (rw [hw]; exact HB3.out.setCell (HBB.out g BV3.out.2.2) _)); have HK4 := am_ (show Kept w w4 ok by (rw [hw]; exact kept_set HK3.out BV3.out.2.2 _)); have BX4 := am_ (show w4.heap[gx]? = some (.cells #[.int .u8 kd, .slice Ab body.length cb] 79 (0, 0)) by (rw [hw]; exact (Below.heap_setCell w3 ⟨g, 3, none⟩ _ gx NG.out).trans BX3.out)); have HZ4 := am_ (show w.heap.size ≤ w4.heap.size by (rw [hw]; simpa [World.setCell] using HZ3.out)); clear hw))
 refine start_ (n := 15) (S := fun w' => w'.heap[g]? = some (.cells #[.int .i64 L.own, .int .i64 L.other, .int .i64 L.queue, .int .i64 (L.made + 1), .slice A' rest.length (cw - 1), .int .i64 L.high, .int .i64 L.heard, .int .u64 L.taken] 71 (0, 0))) (ds := []) #[false, false, false, false, false, false, false, false, false, false, false, false, false, false, false] (by kernel_rfl) rfl rfl (kd_ BV4.out.1) (fun hHeld => ?_)
 refine with_tabW link_Link_Pull.tab7 link_Link_Pull.bits7 (fun HT_ HW_ => ?_)
 have BV5 := am_ (show LKv w4.drew ok g ({ L with ws := rest, made := L.made + 1 }) (.slice A' rest.length (cw - 1)) from BV4.out.step (fun _ _ _ => rfl))
 have HX5 := am_ (show Below w4.heap.size w4 w4.drew from below_drew (Below.refl _ _))
 generalize w4.drew = w5 at BV5 HX5 hHeld ⊢
 refine pA 0 (some 48) #[o1,o0,o0,o0,o0,o0,o0,o0,o0,o0,o0,o0,o0,o0,o0] HT_ ?_
 refine pA 1 (some 49) #[o1,o1,o0,o0,o0,o0,o0,o0,o0,o0,o0,o0,o0,o0,o0] HT_ ?_
 refine pA 2 (some 50) #[o1,o1,o1,o0,o0,o0,o0,o0,o0,o0,o0,o0,o0,o0,o0] HT_ ?_
 refine tA (v := ?_) 3 (some 51) #[o1,o1,o1,o1,o0,o0,o0,o0,o0,o0,o0,o0,o0,o0,o0] HT_ HW_ hHeld ?_ ?_
 rotate_left
 ·
  rintro w' s0
  have q_ := (kc_ s0 0).trans rfl
  go_simp
  with_reducible rfl
 refine pA 4 (some 52) #[o1,o1,o1,o1,o1,o0,o0,o0,o0,o0,o0,o0,o0,o0,o0] HT_ ?_
 refine pA 5 (some 53) #[o1,o1,o1,o1,o1,o1,o0,o0,o0,o0,o0,o0,o0,o0,o0] HT_ ?_
 refine pA 6 (some 54) #[o1,o1,o1,o1,o1,o1,o1,o0,o0,o0,o0,o0,o0,o0,o0] HT_ ?_
 refine tA (v := ?_) 7 (some 55) #[o1,o1,o1,o1,o1,o1,o1,o1,o0,o0,o0,o0,o0,o0,o0] HT_ HW_ hHeld ?_ ?_
 rotate_left
 ·
  rintro w' s0
  have q_ := (kc_ s0 1).trans rfl
  go_simp
  with_reducible rfl
 refine pA 8 (some 56) #[o1,o1,o1,o1,o1,o1,o1,o1,o1,o0,o0,o0,o0,o0,o0] HT_ ?_
 refine pA 9 (some 57) #[o1,o1,o1,o1,o1,o1,o1,o1,o1,o1,o0,o0,o0,o0,o0] HT_ ?_
 refine pA 10 (some 58) #[o1,o1,o1,o1,o1,o1,o1,o1,o1,o1,o1,o0,o0,o0,o0] HT_ ?_
 refine tA (v := ?_) 11 (some 59) #[o1,o1,o1,o1,o1,o1,o1,o1,o1,o1,o1,o1,o0,o0,o0] HT_ HW_ hHeld ?_ ?_
 rotate_left
 ·
  rintro w' s0
  have q_ := (kc_ s0 3).trans rfl
  go_simp
  with_reducible rfl
 refine pA 14 (some 62) #[o1,o1,o1,o1,o1,o1,o1,o1,o1,o1,o1,o1,o0,o0,o1] HT_ ?_
 refine nO 12 (some 60) #[o1,o1,o1,o1,o1,o1,o1,o1,o1,o1,o1,o1,o1,o0,o1] HT_ (fun K hK => ?_)
 refine value_ (w1 := w5.alloc (.cells #[.int .i64 L.own, .int .i64 L.other, .int .i64 (L.made + 1)] 3)) (v := .slice (some ⟨w5.heap.size, 0, none⟩) 3 3) (by rfl) rfl ?_ ?_
 ·
  go_simp
 refine hK.out _ _ (ka_ BV5.out.1 _) (fun hHeld => ?_)
 clear hK K
 refine nA ?_
 have HX6 := am_ (show Below w4.heap.size w4 (w5.alloc (.cells #[.int .i64 L.own, .int .i64 L.other, .int .i64 (L.made + 1)] 3)) from ba_ HX5.out _)
 have BI6 := am_ (heap_alloc_new w5 (.cells #[.int .i64 L.own, .int .i64 L.other, .int .i64 (L.made + 1)] 3))
 have GI := am_ (show w4.heap.size ≤ w5.heap.size from HX5.out.size)
 generalize hgi : w5.heap.size = gi at BI6 GI ⊢
 generalize hw6 : w5.alloc (.cells #[.int .i64 L.own, .int .i64 L.other, .int .i64 (L.made + 1)] 3) = w6 at HX6 BI6 hHeld ⊢
 clear hgi hw6
 refine pA 13 (some 61) #[o1,o1,o1,o1,o1,o1,o1,o1,o1,o1,o1,o1,o1,o1,o1] HT_ ?_
 refine dA HT_ ?_
 have BV6 := am_ (BV4.out.keepB HX6.out)
 have HF6 := am_ (Kd.F_below HF4.out HX6.out)
 have BX6 := am_ (blk_below BX4.out HX6.out)
 have HZ6 := am_ (Nat.le_trans HZ4.out HX6.out.size)
 have HB6 := am_ (HB4.out.trans (HX6.out.mono (Nat.le_trans HBW.out HZ4.out)))
 have HK6 := am_ (kept_below HK4.out HX6.out)
 clear BV4 HF4 BX4 HB4 HK4 HX6 HX5 BV5 BV0 HF0 HQ0 BV2 HF2 HQ2 HB2 HK2 BV3 HF3 HB3 HK3 BX2 BX3 BX1 HX1 HX2 hHeld z0_3 z0_4 hc0 hc1 hcut
 go_wp2
 go_loopg [62, 5] 4 (fun kq v62 v5 w' => ∃ (i : Int) (A : Option Addr) (c : Nat) (xs : List Int), v62 = .int .i64 i ∧ v5 = .slice A xs.length c ∧ Aside0 (0 ≤ i ∧ i ≤ 3 ∧ 4 ≤ kq + i.toNat) ∧ Aside0 (parcel_Put.nums k xs ([L.own, L.other, L.made + 1].drop i.toNat) = some hd) ∧ Aside0 (Kd.R (Kd.int .u8) 5 w' w6.heap.size (fun _ => True) (.slice A xs.length c) xs) ∧ Aside0 (Below w6.heap.size w6 w'))
 case atStart => exact ⟨0, none, 0, [], rfl, rfl, ⟨by omega⟩, HNU, ⟨Kd.R_nil _ _ _ _ _⟩, ⟨Below.refl _ _⟩⟩
 case round =>
 obtain ⟨i, A, c, xs, rfl, rfl, HI, HNR, HRr, HBr⟩ := hrel
 by_cases hi : i < 3
 case pos =>
  have h0 := HI.out.1
  obtain ⟨n, hz, hdr⟩ := pull_drop h0 hi (blk_below BI6.out HBr.out)
  have hnr := HNR.out
  rw [hdr] at hnr
  obtain ⟨q, hq1, hq2⟩ := Option.bind_eq_some_iff.mp hnr
  unfold parcel_Put.num at hq1
  obtain ⟨u, hu1, hq1⟩ := Option.bind_eq_some_iff.mp hq1
  by_cases hl2 : xs.length + u.length < 140737488355328
  case neg => rw [if_neg hl2] at hq1; exact absurd hq1 (by simp)
  rw [if_pos hl2] at hq1
  obtain rfl := Option.some.inj hq1
  have HU := am_ (show octet_Uint.f k (IntKind.u64.wrap n) = some u from hu1)
  have HL2 := am_ hl2
  have HQ2_ := am_ hq2
  have p0_ := eq_true h0
  have p1_ := eq_true hi
  have p2_ := eq_true (show i.toNat < 3 by omega)
  have hw_ : wrap64 (i + 1) = i + 1 := by unfold wrap64; omega
  clear hnr hq2 hl2 hu1 hdr
  go_wp2_with (first | ((with_reducible refine gd_ (N := 69) rfl ?_); (try (refine gate_guard (by rfl) ?_; dsimp only)); refine gL (some 69) Tryd.func26 #[.int .u64 (IntKind.u64.wrap n)] ?_; refine (octet_Uint.calls k _ u _ HU.out).mono ?_; rintro e w1 ⟨v1, rfl, hr, hb⟩; refine ⟨_, rfl, ?_⟩; have HB1r := am_ (below_step HBr.out hb); have HO1 := am_ (Kd.R_below HRr.out hb); obtain ⟨Au, cu, eu⟩ := Kd.R_slice hr; subst eu; have HU1 := am_ (Kd.R_reads' hr); clear hr hb) | ((with_reducible refine gate_builtin (b := .append) (xs := #[.tmp 66, .tmp 69]) rfl ?_); at_builtin; refine Kd.R_append_rows (Kd.int .u8) (w0 := w6) w6.heap.size rfl (.tmp 66) (.tmp 69) 42 5 (.int .u8 0) 1 rfl Tryd.underlying42 info5 rfl (by decide) (by omega) (.slice A xs.length c) xs u Au u.length cu (fun _ => True) (fun _ => False) rfl rfl HO1.out HU1.out.2.2 (fun _ _ h => h) (fun _ h => h.elim) (fun _ _ => trivial) HB1r.out (bz_ HB1r.out) ?aL ?_; (case aL => have := HL2.out; omega); intro v2 w2 ho hb hg hat; have HB2r := am_ hb; have HO2 := am_ ho; obtain ⟨A2, c2, e2⟩ := Kd.R_slice ho; subst e2; clear ho hb hg hat))
  cases gk with
  | zero => exact absurd HI.out (by omega)
  | succ k2 =>
  go_roundg k2
  case measure => omega
  case rel => exact ⟨i + 1, A2, c2, _, (by rfl), (by rw [List.length_append]), ⟨by have := HI.out; omega⟩, ⟨by rw [show (i + 1).toNat = i.toNat + 1 by omega]; exact HQ2_.out⟩, HO2, HB2r⟩
 have hi3 : i = 3 := by have := HI.out; omega
 subst hi3
 have hnr := HNR.out
 have hxs : hd = xs := (Option.some.inj (show some xs = some hd from hnr)).symm
 subst hxs
 have e1_ := eq_false hi
 clear hi hnr HNR
 have HZr := am_ HBr.out.size
 have BXr := am_ (blk_below BX6.out HBr.out)
 have HFr := am_ (Kd.F_below HF6.out HBr.out)
 have BVr := am_ (BV6.out.keepB HBr.out)
 have HBB_ := am_ (HB6.out.trans (HBr.out.mono (Nat.le_trans HBW.out HZ6.out)))
 have HKr := am_ (kept_below HK6.out HBr.out)
 go_wp2
 refine start_ (n := 12) (S := fun w' => w'.heap[gx]? = some (.cells #[.int .u8 kd, .slice Ab body.length cb] 79 (0, 0))) (ds := []) #[false, false, false, false, false, false, false, false, false, false, false, false] (by kernel_rfl) rfl rfl (kd_ BXr.out) (fun hHeld => ?_)
 refine with_tabW link_Link_Pull.tab12 link_Link_Pull.bits12 (fun HT_ HW_ => ?_)
 have BX7 := am_ (kd_ BXr.out)
 have HX7 := am_ (show Below wr.heap.size wr wr.drew from below_drew (Below.refl _ _))
 have HO7 := am_ (Kd.R_drew HRr.out)
 have HS7 := am_ (show Below w6.heap.size w6 wr.drew from bd_ HBr.out)
 generalize wr.drew = w7 at BX7 HX7 HO7 HS7 hHeld ⊢
 refine pA 0 (some 73) #[o1,o0,o0,o0,o0,o0,o0,o0,o0,o0,o0,o0] HT_ ?_
 refine tA (v := ?_) 1 (some 74) #[o1,o1,o0,o0,o0,o0,o0,o0,o0,o0,o0,o0] HT_ HW_ hHeld ?_ ?_
 rotate_left
 ·
  rintro w' s0
  have q_ := (kc_ s0 0).trans rfl
  go_simp
  with_reducible rfl
 refine pA 2 (some 75) #[o1,o1,o1,o0,o0,o0,o0,o0,o0,o0,o0,o0] HT_ ?_
 refine pA 3 (some 76) #[o1,o1,o1,o1,o0,o0,o0,o0,o0,o0,o0,o0] HT_ ?_
 refine tA (v := ?_) 4 (some 77) #[o1,o1,o1,o1,o1,o0,o0,o0,o0,o0,o0,o0] HT_ HW_ hHeld ?_ ?_
 rotate_left
 ·
  rintro w' s0
  have q_ := (kc_ s0 1).trans rfl
  go_simp
  with_reducible rfl
 refine nO 5 (some 78) #[o1,o1,o1,o1,o1,o1,o0,o0,o0,o0,o0,o0] HT_ (fun K hK => ?_)
 refine Kd.R_append_rows_step (Kd.int .u8) (w0 := w6) w6.heap.size (by rfl) (.tmp 75) (.tmp 77) 42 5 (.int .u8 0) 1 rfl Tryd.underlying42 info5 rfl (by decide) (by omega) (.slice A hd.length c) hd body Ab body.length cb (fun _ => True) (fun _ => False) rfl rfl HO7.out (Kd.F_now (Kd.F_below HFr.out HX7.out)) (fun _ _ h => h) (fun _ h => h.elim) (fun _ _ => trivial) HS7.out (bz_ HS7.out) ?aL ?_
 (case aL => have := HLN.out; omega)
 intro v8 w8 ho hb hg hat
 have BX8 := am_ (blk_grown BX7.out hg (Kd.R_ne HO7.out BX7.out (by decide)))
 have HS8 := am_ hb
 have HO8 := am_ ho
 obtain ⟨A8, c8, e8⟩ := Kd.R_slice ho
 subst e8
 clear ho hb hg hat
 refine hK.out _ _ BX8.out (fun hHeld => ?_)
 clear hK K
 refine nA ?_
 have HB8 := am_ (HB6.out.trans (HS8.out.mono (Nat.le_trans HBW.out HZ6.out)))
 refine nO 6 (some 79) #[o1,o1,o1,o1,o1,o1,o1,o0,o0,o0,o0,o0] HT_ (fun K hK => ?_)
 refine goes_ Tryd.func27 (by kernel_rfl) rfl #[.int .u8 kd, .slice A8 (hd ++ body).length c8] (by rfl) rfl rfl (by (try simp only [List.map_toArray, List.map_cons, List.map_nil]); rfl) ?_
 refine (seal_Seal.calls k kd A8 c8 (hd ++ body) s1 s2 _ (Kd.R_reads' HO8.out).2.2 (Kd.R_reads' HO8.out).2.1 (TabW.belowB HT.out HB8.out HB1_.out) HS.out).mono ?_
 rintro x w9 ⟨v9, rfl, hr, hb⟩
 refine ⟨_, rfl, ?_⟩
 have BX9 := am_ (blk_below BX8.out hb)
 have HS9 := am_ (below_step HS8.out hb)
 have HR9 := am_ (Kd.R_lower (Kd.R_mono hr (fun _ _ => trivial)) (Nat.le_trans HZ6.out HS8.out.size))
 clear hr hb
 refine hK.out _ _ BX9.out (fun hHeld => ?_)
 clear hK K
 refine nA ?_
 refine pA 7 (some 72) #[o1,o1,o1,o1,o1,o1,o1,o1,o0,o0,o0,o0] HT_ ?_
 refine pA 8 (some 80) #[o1,o1,o1,o1,o1,o1,o1,o1,o1,o0,o0,o0] HT_ ?_
 refine pA 9 (some 81) #[o1,o1,o1,o1,o1,o1,o1,o1,o1,o1,o0,o0] HT_ ?_
 refine pA 10 (some 8) #[o1,o1,o1,o1,o1,o1,o1,o1,o1,o1,o1,o0] HT_ ?_
 refine pA 11 (some 9) #[o1,o1,o1,o1,o1,o1,o1,o1,o1,o1,o1,o1] HT_ ?_
 refine dA HT_ ?_
 go_wp2
 go_ret2
 exact ⟨_, rfl, HR9.out, ⟨_, BV6.out.keepB HS9.out⟩, kept_below HK6.out HS9.out, HB6.out.trans (HS9.out.mono (Nat.le_trans HBW.out HZ6.out))⟩
end Go.Proofs.YtoandmnefgimoaaDoor.PL
