import Derived.Test.YtoandmnefgimoaaDoorLBPLx0
import Derived.Test.YtoandmnefgimoaaDoorLBPLx2
import Derived.Test.YtoandmnefgimoaaDoorLBPLx7
import Derived.Test.YtoandmnefgimoaaDoorLBPLx9
import Derived.Test.YtoandmnefgimoaaDoorLBPLx12
import Derived.Test.YtoandmnefgimoaaDoorLBPLx13
import Derived.Test.YtoandmnefgimoaaDoorLBPLx24
namespace Go.Proofs.YtoandmnefgimoaaDoor.PL
open Go.RowKit Go.Proofs.YtoandmnefgimoaaDoorW.PrintWords Go.Proofs.YtoandmnefgimoaaDoorW.PrintLast Go.Proofs.YtoandmnefgimoaaDoorW.PrintMore
set_option linter.unusedVariables false
set_option linter.unusedSimpArgs false
def grapevinelaw14_live.T5 : Bool × List (List Nat × List Nat) := (true, [([], []), ([0], [0]), ([1], [1]), ([2, 1], [1, 2]), ([1], [1]), ([4, 1, 1], [1, 4]), ([5, 1], [1, 5]), ([3, 6, 1], [1, 3, 6]), ([1, 7], [1, 7]), ([8, 5, 0, 1, 2, 3, 4, 5, 6, 7, 8], [8])])
def grapevinelaw14_live.B5 : List Nat := [0, 1, 3, 7, 3, 19, 51, 127, 255, 511]
theorem grapevinelaw14_live.tab5 : rtab .any (opsOf Tryd.f14 5) = grapevinelaw14_live.T5 := by kernel_rfl
theorem grapevinelaw14_live.bits5 : waitsOk grapevinelaw14_live.T5.2 grapevinelaw14_live.B5 = true := by kernel_rfl
theorem live_row {w : World} {base g c n : Nat} {xs : List Int} (h : w.ownsRow base 5 1 (.slice (some ⟨g, 0, none⟩) n c) n (nums .u8 xs)) : Kd.R (Kd.int .u8) 5 w base (fun _ => True) (.slice (some ⟨g, 0, none⟩) n c) xs := by
 have hl : xs.length = n := by have := h.1; simp [nums] at this; exact this
 subst hl
 exact Kd.R_of_own (enc := Value.int .u8) (h1 := fun _ => rfl) h (fun _ _ => trivial)
theorem TabW.pos {w : World} (h : TabW w) : 1 ≤ w.heap.size := by
 have h2 := World.block_lt_of_cell? _ _ (tab_cell h (i := 0) (by omega) (by omega))
 exact h2
def grapevinelaw14_live.f (k : Nat) : Option Bool := (parcel_Put.f k 2 0 0 0 1 2 [] []).bind fun p => if p.2 = 0 then (link_Link_Pull.F k 3 0 (0 + 1) 1 p.1).bind fun a => (grapevineref14_Frame.f k 1 3 0 1 [2, 0, 1, 2]).bind fun b => if a = b then some true else none else none
theorem live_send (k B g : Nat) (ok : Nat → Prop) (r1 : List Int) (w : World) (hL : LKat w ok g (⟨3, 0, 2, 0, 0, -1, 0, []⟩ : LK)) (h : parcel_Put.f k 2 0 0 0 1 2 [] [] = some (r1, 0)) (hB : ∀ k, ok k → B ≤ k) (hBw : B ≤ w.heap.size) :
 Calls Tryd.prog 9 #[.pointer (some ⟨g, 0, none⟩), .agg #[.int .i64 2, .int .i64 0, .int .i64 0, .int .i64 0, .int .i64 1, .int .i64 2, .slice none 0 0, .slice none 0 0]] w fun e w' => e = .returned (.int .i64 0) ∧ LKat w' (fun k => ok k ∨ w.heap.size ≤ k) g (⟨3, 0, 2, 0, 0, -1, 0, [⟨1, r1⟩]⟩ : LK) ∧ Kept w w' ok ∧ Below B w w' := by
 have h2 := link_Link_Send.calls k B g (⟨3, 0, 2, 0, 0, -1, 0, []⟩ : LK) ok 2 0 0 0 1 2 none 0 [] none 0 [] r1 0 w (Kd.C_nil _ _) (Nat.le_refl _) (Kd.C_nil _ _) (Nat.le_refl _) h hL (by decide) hB hBw
 exact h2
set_option maxHeartbeats 8000000 in
set_option maxRecDepth 100000 in
theorem grapevinelaw14_live.calls (k : Nat) (r : Bool) (w : World) (ht : TabW w) (h : grapevinelaw14_live.f k = some r) :
 Calls Tryd.prog 14 #[] w fun e w' => e = .returned (.bool r) ∧ Below w.heap.size w w' := by
 have HT := am_ ht
 unfold grapevinelaw14_live.f at h
 obtain ⟨⟨r1, r2⟩, hp, h⟩ := Option.bind_eq_some_iff.mp h
 dsimp only at h
 by_cases c1 : r2 = 0
 case neg => rw [if_neg c1] at h; exact absurd h (by simp)
 rw [if_pos c1] at h
 subst c1
 obtain ⟨fa, ha, h⟩ := Option.bind_eq_some_iff.mp h
 obtain ⟨fb, hb, h⟩ := Option.bind_eq_some_iff.mp h
 by_cases c2 : fa = fb
 case neg => rw [if_neg c2] at h; exact absurd h (by simp)
 rw [if_pos c2] at h
 subst c2
 obtain rfl := Option.some.inj h
 have HP := am_ hp
 have HA := am_ ha
 have HFB := am_ hb
 clear ht hp ha hb h
 go_enter Tryd.func14, Tryd.ntmps14
 go_wp2_with (first | ((with_reducible refine gd_ (N := 6) rfl ?_); refine gL (some 6) Tryd.func7 #[.int .i64 3, .int .i64 2] ?_; refine (link_New.calls 3 2 _ (by decide) (by decide) (by decide) (by decide)).mono ?_; rintro e w1 ⟨g, rfl, hl, hb⟩; refine ⟨_, rfl, ?_⟩; have HL1 := am_ hl; have HB1 := am_ hb; have HS1 := am_ hb.size; clear hl hb) | ((with_reducible refine gd_ (N := 18) rfl ?_); (try (refine gate_guard (by rfl) ?_; dsimp only)); refine gL (some 18) Tryd.func9 #[.pointer (some ⟨g, 0, none⟩), .agg #[.int .i64 2, .int .i64 0, .int .i64 0, .int .i64 0, .int .i64 1, .int .i64 2, .slice none 0 0, .slice none 0 0]] ?_; refine (live_send k w.heap.size g (fun k => w.heap.size ≤ k) r1 _ HL1.out HP.out (fun _ h_ => h_) HS1.out).mono ?_; rintro e w2 ⟨rfl, hl, hk, hb⟩; refine ⟨_, rfl, ?_⟩; have HL2 := am_ (hl.mono (ok' := fun k => w.heap.size ≤ k) (fun k_ hk_ => hk_.elim id (Nat.le_trans HS1.out))); have HB2 := am_ (HB1.out.trans hb); have HS2 := am_ (Nat.le_trans HS1.out hb.size); clear hl hk hb) | ((with_reducible refine gd_ (N := 23) rfl ?_); refine gL (some 23) Tryd.func11 #[.pointer (some ⟨g, 0, none⟩)] ?_; refine (link_Link_Pull.calls k w.heap.size g (⟨3, 0, 2, 0, 0, -1, 0, [⟨1, r1⟩]⟩ : LK) (fun k => w.heap.size ≤ k) 1 r1 [] fa _ HL2.out rfl HA.out (by show (0 : Int) ≤ 0; decide) (by show (0 : Int) < 1099511627776; decide) (TabW.below HT.out HB2.out) (fun _ h_ => h_) HS2.out HT.out.pos).mono ?_; rintro e w3 ⟨v3, rfl, hr, hl, hk, hb⟩; refine ⟨_, rfl, ?_⟩; have HB3 := am_ (HB2.out.trans hb); obtain ⟨Af, cf, ef⟩ := Kd.R_slice hr; subst ef; have HR3 := am_ (Kd.R_reads' hr).2.2; clear hr hl hk hb))
 refine start_ (n := 10) (S := fun w' => Kd.C (Kd.int .u8) w' Af fa.length fa) (ds := []) #[false, false, false, false, false, false, false, false, false, false] (by kernel_rfl) rfl rfl (Kd.C_drew HR3.out) (fun hHeld => ?_)
 refine with_tabW grapevinelaw14_live.tab5 grapevinelaw14_live.bits5 (fun HT_ HW_ => ?_)
 have HB4 := am_ (bd_ HB3.out)
 have HR4 := am_ (show Kd.C (Kd.int .u8) w3.drew Af fa.length fa from Kd.C_drew HR3.out)
 generalize w3.drew = w4 at HB4 HR4 hHeld ⊢
 refine pA 0 (some 26) #[o1,o0,o0,o0,o0,o0,o0,o0,o0,o0] HT_ ?_
 refine pA 1 (some 27) #[o1,o1,o0,o0,o0,o0,o0,o0,o0,o0] HT_ ?_
 refine pA 2 (some 28) #[o1,o1,o1,o0,o0,o0,o0,o0,o0,o0] HT_ ?_
 refine tA (v := ?_) 3 (some 29) #[o1,o1,o1,o1,o0,o0,o0,o0,o0,o0] HT_ HW_ hHeld ?_ ?_
 rotate_left
 ·
  rintro w' s0
  go_simp
  rw [Kd.C_string (P := Tryd.prog) (A := Af) (c := cf) Tryd.underlying42 Tryd.underlying5 Tryd.underlying9 s0]
  rfl
 refine nO 4 (some 30) #[o1,o1,o1,o1,o1,o0,o0,o0,o0,o0] HT_ (fun K hK => ?_)
 refine value_ (w1 := w4.alloc (.cells #[.int .u8 2, .int .u8 0, .int .u8 1, .int .u8 2] 5)) (v := .slice (some ⟨w4.heap.size, 0, none⟩) 4 4) (by rfl) rfl ?_ ?_
 ·
  go_simp
 refine hK.out _ _ (Kd.C_alloc HR4.out _) (fun hHeld => ?_)
 clear hK K
 refine nA ?_
 have HX5 := am_ (own_lit w4 w.heap.size 5 .u8 [2, 0, 1, 2] HB4.out.size (by decide))
 have HB5 := am_ (ba_ HB4.out (.cells #[.int .u8 2, .int .u8 0, .int .u8 1, .int .u8 2] 5))
 have HR5 := am_ (Kd.C_alloc HR4.out (.cells #[.int .u8 2, .int .u8 0, .int .u8 1, .int .u8 2] 5))
 generalize hgi : w4.heap.size = gi at HX5 ⊢
 have HX5 := am_ (show (w4.alloc (.cells #[.int .u8 2, .int .u8 0, .int .u8 1, .int .u8 2] 5)).ownsRow w.heap.size 5 1 (.slice (some ⟨gi, 0, none⟩) 4 4) 4 (nums .u8 [2, 0, 1, 2]) from HX5.out)
 generalize w4.alloc (.cells #[.int .u8 2, .int .u8 0, .int .u8 1, .int .u8 2] 5) = w5 at HX5 HB5 HR5 hHeld ⊢
 clear hgi
 refine nO 5 (some 31) #[o1,o1,o1,o1,o1,o1,o0,o0,o0,o0] HT_ (fun K hK => ?_)
 refine goes_ Tryd.func32 (by kernel_rfl) rfl #[.int .u8 1, .int .i64 3, .int .i64 0, .int .i64 1, .slice (some ⟨gi, 0, none⟩) ([2, 0, 1, 2] : List Int).length 4] (by rfl) rfl rfl (by (try simp only [List.map_toArray, List.map_cons, List.map_nil]); rfl) ?_
 refine (grapevineref14_Frame.calls k 1 3 0 1 (some ⟨gi, 0, none⟩) 4 [2, 0, 1, 2] fa _ (Kd.R_reads' (live_row HX5.out)).2.2 (by decide) HFB.out).mono ?_
 rintro x w6 ⟨v6, rfl, hr, hb⟩
 refine ⟨_, rfl, ?_⟩
 have HR6 := am_ (Kd.C_below HR5.out hb)
 have HB6 := am_ (below_step HB5.out hb)
 obtain ⟨Ag, cg, eg⟩ := Kd.R_slice hr
 subst eg
 have HG6 := am_ (Kd.R_reads' hr).2.2
 clear hr hb
 refine hK.out _ _ HR6.out (fun hHeld => ?_)
 clear hK K
 refine nA ?_
 refine nO 6 (some 32) #[o1,o1,o1,o1,o1,o1,o1,o0,o0,o0] HT_ (fun K hK => ?_)
 refine value_ (w1 := w6) (v := .string (strOfNums fa)) (by rfl) rfl ?_ ?_
 ·
  go_simp
  rw [Kd.C_string (P := Tryd.prog) (A := Ag) (c := cg) Tryd.underlying42 Tryd.underlying5 Tryd.underlying9 HG6.out]
  rfl
 refine hK.out _ _ HR6.out (fun hHeld => ?_)
 clear hK K
 refine nA ?_
 refine pA 7 (some 33) #[o1,o1,o1,o1,o1,o1,o1,o1,o0,o0] HT_ ?_
 refine pA 8 (some 34) #[o1,o1,o1,o1,o1,o1,o1,o1,o1,o0] HT_ ?_
 refine pA 9 (some 0) #[o1,o1,o1,o1,o1,o1,o1,o1,o1,o1] HT_ ?_
 refine dA HT_ ?_
 go_wp2
 go_ret
 exact ⟨rfl, HB6.out⟩
end Go.Proofs.YtoandmnefgimoaaDoor.PL
