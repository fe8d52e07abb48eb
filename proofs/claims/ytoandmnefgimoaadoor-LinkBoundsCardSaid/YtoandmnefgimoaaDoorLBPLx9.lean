import Derived.Test.YtoandmnefgimoaaDoorLBPLx0
import Derived.Test.YtoandmnefgimoaaDoorLBPLx2
import Derived.Test.YtoandmnefgimoaaDoorLBPLx7
import Derived.Test.YtoandmnefgimoaaDoorLBPLx8
namespace Go.Proofs.YtoandmnefgimoaaDoor.PL
open Go.RowKit Go.Proofs.YtoandmnefgimoaaDoorW.PrintWords Go.Proofs.YtoandmnefgimoaaDoorW.PrintLast Go.Proofs.YtoandmnefgimoaaDoorW.PrintMore
set_option linter.unusedVariables false
set_option linter.unusedSimpArgs false
def sendE (L : LK) (r2 : Int) : Int := if r2 = 0 then putE L else r2
def sendL (L : LK) (r1 : List Int) (r2 : Int) : LK := if r2 = 0 then putL L 1 r1 else L
set_option maxHeartbeats 4000000 in
set_option maxRecDepth 100000 in
theorem link_Link_Send.calls (k B g : Nat) (L : LK) (ok : Nat → Prop) (p1 p2 p3 p4 p5 p6 : Int) (A7 : Option Addr) (c7 : Nat) (l7 : List S110) (A8 : Option Addr) (c8 : Nat) (l8 : List S77) (r1 : List Int) (r2 : Int) (w : World) (hr7 : Kd.C k110 w A7 l7.length l7) (hc7 : l7.length ≤ c7) (hr8 : Kd.C k77 w A8 l8.length l8) (hc8 : l8.length ≤ c8) (h : parcel_Put.f k p1 p2 p3 p4 p5 p6 l7 l8 = some (r1, r2)) (hL : LKat w ok g L) (hlen : L.ws.length < 1000) (hB : ∀ k, ok k → B ≤ k) (hBw : B ≤ w.heap.size) :
 Calls Tryd.prog 9 #[.pointer (some ⟨g, 0, none⟩), .agg #[.int .i64 p1, .int .i64 p2, .int .i64 p3, .int .i64 p4, .int .i64 p5, .int .i64 p6, .slice A7 l7.length c7, .slice A8 l8.length c8]] w fun e w' => e = .returned (.int .i64 (sendE L r2)) ∧ LKat w' (fun k => ok k ∨ w.heap.size ≤ k) g (sendL L r1 r2) ∧ Kept w w' ok ∧ Below B w w' := by
 have hu := Tryd.underlying37
 have HR7 := am_ hr7
 have HC7 := am_ hc7
 have HR8 := am_ hr8
 have HC8 := am_ hc8
 have HF := am_ h
 clear hr7 hc7 hr8 hc8 h
 have HL := am_ hL
 have HN := am_ hlen
 have HBB := am_ hB
 have HBW := am_ hBw
 clear hL hlen hB hBw
 by_cases he : r2 = 0
 case neg =>
  have e1 : sendE L r2 = r2 := if_neg he
  have e2 : sendL L r1 r2 = L := if_neg he
  rw [e1, e2]
  have b1 : (r2 != 0) = true := bne_iff_ne.mpr he
  clear e1 e2 he
  go_enter Tryd.func9, Tryd.ntmps9
  go_wp2_with (first | ((with_reducible refine gd_ (N := 3) rfl ?_); refine bE 3 #[.int .i64 p1, .int .i64 p2, .int .i64 p3, .int .i64 p4, .int .i64 p5, .int .i64 p6, .slice A7 l7.length c7, .slice A8 l8.length c8] 37 ?_; intro gx hg w1 hbox hb; have HB1 := am_ hb; have BX1 := am_ hbox; have hzn1_0 : w1.cell? ⟨gx, 0, none⟩ = some (.int .i64 p1) := (kc_ BX1.out 0).trans rfl; have hzn1_1 : w1.cell? ⟨gx, 1, none⟩ = some (.int .i64 p2) := (kc_ BX1.out 1).trans rfl; have hzn1_2 : w1.cell? ⟨gx, 2, none⟩ = some (.int .i64 p3) := (kc_ BX1.out 2).trans rfl; have hzn1_3 : w1.cell? ⟨gx, 3, none⟩ = some (.int .i64 p4) := (kc_ BX1.out 3).trans rfl; have hzn1_4 : w1.cell? ⟨gx, 4, none⟩ = some (.int .i64 p5) := (kc_ BX1.out 4).trans rfl; have hzn1_5 : w1.cell? ⟨gx, 5, none⟩ = some (.int .i64 p6) := (kc_ BX1.out 5).trans rfl; have hzn1_6 : w1.cell? ⟨gx, 6, none⟩ = some (.slice A7 l7.length c7) := (kc_ BX1.out 6).trans rfl; have hzn1_7 : w1.cell? ⟨gx, 7, none⟩ = some (.slice A8 l8.length c8) := (kc_ BX1.out 7).trans rfl; clear hb hg hbox) | ((with_reducible refine gd_ (N := 11) rfl ?_); (try (refine gate_guard (by rfl) ?_; dsimp only)); refine gL (some 11) Tryd.func21 #[.agg #[.int .i64 p1, .int .i64 p2, .int .i64 p3, .int .i64 p4, .int .i64 p5, .int .i64 p6, .slice A7 l7.length c7, .slice A8 l8.length c8]] ?_; refine (parcel_Put.calls k p1 p2 p3 p4 p5 p6 A7 c7 l7 A8 c8 l8 r1 r2 _ ?s1 ?s2 ?s3 ?s4 HF.out).mono ?_; (case s1 => exact Kd.C_below HR7.out HB1.out); (case s2 => exact HC7.out); (case s3 => exact Kd.C_below HR8.out HB1.out); (case s4 => exact HC8.out); rintro e w2 ⟨v, rfl, hr, hb⟩; refine ⟨_, rfl, ?_⟩; have HB2 := am_ (below_step HB1.out hb); obtain ⟨Av, cv, ev⟩ := Kd.R_slice hr; subst ev; have HR2 := am_ (Kd.R_lower (Kd.R_mono (Kd.R_bound hr) (ok' := fun k => w.heap.size ≤ k) (fun k hk => Nat.le_trans HB1.out.size hk.2.1)) (Nat.zero_le _)); have HL2 := am_ (HL.out.bound.below HB2.out); have HS2 := am_ HB2.out.size; clear hr hb))
  go_ret
  exact ⟨rfl, HL2.out.mono (fun k hk => Or.inl hk.1), kept_below (kept_refl w ok) HB2.out, HB2.out.mono HBW.out⟩
 subst he
 have e1 : sendE L 0 = putE L := if_pos rfl
 have e2 : sendL L r1 0 = putL L 1 r1 := if_pos rfl
 rw [e1, e2]
 clear e1 e2
 go_enter Tryd.func9, Tryd.ntmps9
 go_wp2_with (first | ((with_reducible refine gd_ (N := 3) rfl ?_); refine bE 3 #[.int .i64 p1, .int .i64 p2, .int .i64 p3, .int .i64 p4, .int .i64 p5, .int .i64 p6, .slice A7 l7.length c7, .slice A8 l8.length c8] 37 ?_; intro gx hg w1 hbox hb; have HB1 := am_ hb; have BX1 := am_ hbox; have hzn1_0 : w1.cell? ⟨gx, 0, none⟩ = some (.int .i64 p1) := (kc_ BX1.out 0).trans rfl; have hzn1_1 : w1.cell? ⟨gx, 1, none⟩ = some (.int .i64 p2) := (kc_ BX1.out 1).trans rfl; have hzn1_2 : w1.cell? ⟨gx, 2, none⟩ = some (.int .i64 p3) := (kc_ BX1.out 2).trans rfl; have hzn1_3 : w1.cell? ⟨gx, 3, none⟩ = some (.int .i64 p4) := (kc_ BX1.out 3).trans rfl; have hzn1_4 : w1.cell? ⟨gx, 4, none⟩ = some (.int .i64 p5) := (kc_ BX1.out 4).trans rfl; have hzn1_5 : w1.cell? ⟨gx, 5, none⟩ = some (.int .i64 p6) := (kc_ BX1.out 5).trans rfl; have hzn1_6 : w1.cell? ⟨gx, 6, none⟩ = some (.slice A7 l7.length c7) := (kc_ BX1.out 6).trans rfl; have hzn1_7 : w1.cell? ⟨gx, 7, none⟩ = some (.slice A8 l8.length c8) := (kc_ BX1.out 7).trans rfl; clear hb hg hbox) | ((with_reducible refine gd_ (N := 11) rfl ?_); (try (refine gate_guard (by rfl) ?_; dsimp only)); refine gL (some 11) Tryd.func21 #[.agg #[.int .i64 p1, .int .i64 p2, .int .i64 p3, .int .i64 p4, .int .i64 p5, .int .i64 p6, .slice A7 l7.length c7, .slice A8 l8.length c8]] ?_; refine (parcel_Put.calls k p1 p2 p3 p4 p5 p6 A7 c7 l7 A8 c8 l8 r1 0 _ ?s1 ?s2 ?s3 ?s4 HF.out).mono ?_; (case s1 => exact Kd.C_below HR7.out HB1.out); (case s2 => exact HC7.out); (case s3 => exact Kd.C_below HR8.out HB1.out); (case s4 => exact HC8.out); rintro e w2 ⟨v, rfl, hr, hb⟩; refine ⟨_, rfl, ?_⟩; have HB2 := am_ (below_step HB1.out hb); obtain ⟨Av, cv, ev⟩ := Kd.R_slice hr; subst ev; have HR2 := am_ (Kd.R_lower (Kd.R_mono (Kd.R_bound hr) (ok' := fun k => w.heap.size ≤ k) (fun k hk => Nat.le_trans HB1.out.size hk.2.1)) (Nat.zero_le _)); have HL2 := am_ (HL.out.bound.below HB2.out); have HS2 := am_ HB2.out.size; clear hr hb) | ((with_reducible refine gd_ (N := 19) rfl ?_); (try (refine gate_guard (by rfl) ?_; dsimp only)); refine gL (some 19) Tryd.func22 #[.pointer (some ⟨g, 0, none⟩), .int .u8 1, .slice Av r1.length cv] ?_; refine (link_Link_put.calls B g L (fun k => ok k ∧ k < w.heap.size) (fun k => w.heap.size ≤ k) 1 Av cv r1 _ HL2.out HR2.out (fun k h1 h2 => Nat.lt_irrefl _ (Nat.lt_of_lt_of_le h2.2 h1)) HN.out (fun k hk => HBB.out k hk.1) (Nat.le_trans HBW.out HS2.out)).mono ?_; rintro e w3 ⟨rfl, h1, h2, h3⟩; refine ⟨_, rfl, ?_⟩; have H1 := am_ h1; have H2 := am_ (kept_trans (kept_below (kept_refl w ok) HB2.out) h2 (fun k hk _ => hk.1)); have H3 := am_ ((HB2.out.mono HBW.out).trans h3); clear h1 h2 h3))
 go_ret
 exact ⟨rfl, H1.out.mono (fun k hk => by rcases hk with hk | hk | hk; exact Or.inl hk.1; exact Or.inr hk; exact Or.inr (Nat.le_trans HS2.out hk)), H2.out, H3.out⟩
end Go.Proofs.YtoandmnefgimoaaDoor.PL
