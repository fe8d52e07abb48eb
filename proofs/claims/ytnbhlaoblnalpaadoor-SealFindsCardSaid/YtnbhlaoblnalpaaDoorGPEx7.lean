-- PRINTED by gprint.py (a session's own driver over the kit's print): not trusted; Lean checks it.
import Derived.Test.YtnbhlaoblnalpaaDoorGPEx0
import Derived.Test.YtnbhlaoblnalpaaDoorGPEx1
import Derived.Test.YtnbhlaoblnalpaaDoorGPEx2
import Derived.Test.YtnbhlaoblnalpaaDoorGPEx3
import Derived.Test.YtnbhlaoblnalpaaDoorGPEx5
import Derived.Test.YtnbhlaoblnalpaaDoorGPEx6
namespace Go.Proofs.YtnbhlaoblnalpaaDoor.PE
open Go.RowKit Go.Proofs.YtnbhlaoblnalpaaDoorW.PrintWords Go.Proofs.YtnbhlaoblnalpaaDoorW.PrintLast Go.Proofs.YtnbhlaoblnalpaaDoorW.PrintMore
attribute [local go_sem] max2_int min2_int max_two min_two max_three min_three max_four min_four   -- for this text's walks alone
set_option linter.unusedVariables false
set_option linter.unusedSimpArgs false

/-! ### grapevinelaw01_SealFinds: function 13 -/
-- typed by mk_finds.py: the true path alone
/-- A slice as a value of a row: where it lies, how long it is. -/
def sliceV (p : Option Addr × Nat × Nat) : Value := .slice p.1 p.2.1 p.2.2
def KdS : Kd (Option Addr × Nat × Nat) := Kd.scalar sliceV (fun _ => rfl)
abbrev WE := Int × Int × (Option Addr × Nat × Nat)
def KdW : Kd WE := (Kd.pair (Kd.int .u8) (Kd.pair (Kd.int .i64) KdS))
/-- An element of the row 'want' is a seal whose body came in. -/
def WRel (w : World) (p : WE) (s : S39) : Prop := p.1 = s.f0 ∧ p.2.1 = s.f1 ∧ p.2.2.2.1 = s.f2.length ∧ s.f2.length ≤ p.2.2.2.2 ∧ Kd.C (Kd.int .u8) w p.2.2.1 s.f2.length s.f2
inductive WRels (w : World) : List WE → List S39 → Prop
  | nil : WRels w [] []
  | cons {p s ps ss} : WRel w p s → WRels w ps ss → WRels w (p :: ps) (s :: ss)
theorem WRels.length {w : World} : ∀ {ps : List WE} {ss : List S39}, WRels w ps ss → ps.length = ss.length
  | _, _, .nil => rfl
  | _, _, .cons _ h => by simp [h.length]
theorem WRels.snoc {w : World} {p : WE} {s : S39} : ∀ {ps : List WE} {ss : List S39}, WRels w ps ss → WRel w p s → WRels w (ps ++ [p]) (ss ++ [s])
  | _, _, .nil, h => .cons h .nil
  | _, _, .cons h1 h2, h => .cons h1 (h2.snoc h)
theorem WRels.get {w : World} : ∀ {ps : List WE} {ss : List S39}, WRels w ps ss → ∀ {j : Nat} {s : S39}, ss[j]? = some s → ∃ p, ps[j]? = some p ∧ WRel w p s
  | _, _, .nil, j, s, h => by simp at h
  | _, _, .cons h1 h2, 0, s, h => by simp at h; subst h; exact ⟨_, rfl, h1⟩
  | _, _, .cons h1 h2, j + 1, s, h => by simp at h; obtain ⟨p, e, r⟩ := h2.get h; exact ⟨p, by simpa using e, r⟩
theorem want_C {w w1 : World} (hb : Below w.heap.size w w1) {A : Option Addr} {ps : List WE} {ss : List S39} (hr : WRels w ps ss) (h : KdW.C w1 A ps.length ps) : Kd.C k39 w1 A ss.length ss := by
  have hl := hr.length
  refine ⟨rfl, by rw [← hl]; exact h.2.1, fun hn => ?_⟩
  obtain ⟨ad, e, hc⟩ := h.2.2 (by omega)
  refine ⟨ad, e, fun j s hj => ?_⟩
  obtain ⟨p, hp, r1, r2, r3, r4, r5⟩ := hr.get hj
  obtain ⟨c, hs, hK, hcell⟩ := hc j p hp
  refine ⟨c, hs, ?_, hcell⟩
  obtain ⟨c0, c1, rfl, hk0, c2, c3, rfl, hk1, hk2⟩ := hK
  have e0 : c0 = [.int .u8 p.1] := hk0
  have e1 : c2 = [.int .i64 p.2.1] := hk1
  have e2 : c3 = [sliceV p.2.2] := hk2
  subst e0 e1 e2
  rw [r1, r2]
  have e3 : sliceV p.2.2 = .slice p.2.2.1 s.f2.length p.2.2.2.2 := by unfold sliceV; rw [r3]
  rw [e3]
  exact k39_mk w1 s r4 (Kd.C_below r5 hb)
def grapevinelaw01_SealFinds.l0 : Nat → List Int → List Int → Int → Option (List Int)
  | 0, _, _, _ => none
  | k + 1, l, x, i => if i < (l.length : Int) then (if i < 500 then (if 0 ≤ i then (if rd l i = 167 then grapevinelaw01_SealFinds.l0 k l x (wrap64 (i + 1)) else (if x.length < 140737488355328 then grapevinelaw01_SealFinds.l0 k l (x ++ [rd l i]) (wrap64 (i + 1)) else none)) else none) else some x) else some x
def grapevinelaw01_SealFinds.l1 : Nat → List (List Int) → List Int → List S39 → Int → Option (List Int × List S39)
  | 0, _, _, _, _ => none
  | k + 1, l, x, ws, i => if i < (l.length : Int) then (if i < 20 then (if 0 ≤ i then ((seal_Seal.f k (i % 256) (rd_L2 l i)).bind fun p =>
      if p.2 = 0 then (if wrap64 ((x.length : Int) + (p.1.length : Int)) ≤ 8000 then (if x.length + p.1.length < 140737488355328 ∧ ws.length < 3518437208882 then grapevinelaw01_SealFinds.l1 k l (x ++ p.1) (ws ++ [⟨i % 256, (x.length : Int), rd_L2 l i⟩]) (wrap64 (i + 1)) else none) else grapevinelaw01_SealFinds.l1 k l x ws (wrap64 (i + 1))) else grapevinelaw01_SealFinds.l1 k l x ws (wrap64 (i + 1))) else none) else some (x, ws)) else some (x, ws)
def grapevinelaw01_SealFinds.l2 : Nat → List Int → Int → List Int → Int → Int → Option (List Int × Int)
  | 0, _, _, _, _, _ => none
  | k + 1, y, m, x, q, i => if i < m then (if i < 1 then (if 0 ≤ i ∧ i < (y.length : Int) then (if x.length < 140737488355328 then grapevinelaw01_SealFinds.l2 k y m (x ++ [rd y i]) (wrap64 (q + 1)) (wrap64 (i + 1)) else none) else none) else some (x, q)) else some (x, q)
def grapevinelaw01_SealFinds.g (k : Nat) (x : List Int) (ws : List S39) (nn q : Int) : Option Bool :=
  (seal_Scan.f k x).bind fun y => (grapevinelaw01_lives.f k).bind fun t => (grapevineref01_SameAll.f k y.1 ws).bind fun u =>
    if t = true ∧ u = true ∧ y.2.2 = 0 ∧ y.2.1 = wrap64 (nn + q) then some true else none
def grapevinelaw01_SealFinds.f (k : Nat) (l0 : List Int) (l1 : List (List Int)) (l2_0 : List Int) (a2_1 : Int) : Option Bool :=
  (grapevinelaw01_SealFinds.l0 k l0 [] 0).bind fun x => (grapevinelaw01_SealFinds.l1 k l1 x [] 0).bind fun xw => (seal_Seal.f k 9 l2_0).bind fun p =>
    if p.2 = 0 then (if 0 < p.1.length then ((grapevinelaw01_SealFinds.l2 k p.1 (Int.tmod (wrap64 a2_1) (p.1.length : Int)) xw.1 0 0).bind fun xq => grapevinelaw01_SealFinds.g k xq.1 xw.2 (x.length : Int) xq.2) else none)
    else grapevinelaw01_SealFinds.g k xw.1 xw.2 (x.length : Int) 0
set_option maxHeartbeats 64000000 in
set_option maxRecDepth 100000 in
theorem grapevinelaw01_SealFinds.calls (k : Nat) (A0 : Option Addr) (c0 : Nat) (l0 : List Int) (A1 : Option Addr) (c1 : Nat) (l1 : List (List Int)) (A2_0 : Option Addr) (c2_0 : Nat) (l2_0 : List Int) (a2_1 : Int) (r : Bool) (w : World) (hr0 : Kd.C (Kd.int .u8) w A0 l0.length l0) (hc0 : l0.length ≤ c0) (hr1 : Kd.C (Kd.slice 5 (Kd.int .u8)) w A1 l1.length l1) (hc1 : l1.length ≤ c1) (hr2_0 : Kd.C (Kd.int .u8) w A2_0 l2_0.length l2_0) (hc2_0 : l2_0.length ≤ c2_0) (ht : TabW w) (h : grapevinelaw01_SealFinds.f k l0 l1 l2_0 a2_1 = some r) :
    Calls Tryd.prog 13 #[.slice A0 l0.length c0, .slice A1 l1.length c1, .agg #[.slice A2_0 l2_0.length c2_0, .int .u16 a2_1]] w fun e w' => e = .returned (.bool r) ∧ Below w.heap.size w w' := by
  have hu39 := Tryd.underlying39
  have hu57 := Tryd.underlying57
  have HR0 := Aside0.mk hr0
  have HC0 := Aside0.mk hc0
  have HR1 := Aside0.mk hr1
  have HC1 := Aside0.mk hc1
  have HR2 := Aside0.mk hr2_0
  have HC2 := Aside0.mk hc2_0
  have HT := Aside0.mk ht
  clear hr0 hc0 hr1 hc1 hr2_0 hc2_0 ht
  unfold grapevinelaw01_SealFinds.f at h
  obtain ⟨xa, hx, h1⟩ := Option.bind_eq_some_iff.mp h
  obtain ⟨⟨xb, wb⟩, hw1, h2⟩ := Option.bind_eq_some_iff.mp h1
  obtain ⟨⟨y, p2⟩, hs, h3⟩ := Option.bind_eq_some_iff.mp h2
  have HX := Aside0.mk hx
  have HW := Aside0.mk hw1
  have HS := Aside0.mk hs
  have H3 := Aside0.mk (show (if p2 = 0 then (if 0 < y.length then ((grapevinelaw01_SealFinds.l2 k y (Int.tmod (wrap64 a2_1) (y.length : Int)) xb 0 0).bind fun xq => grapevinelaw01_SealFinds.g k xq.1 wb (xa.length : Int) xq.2) else none) else grapevinelaw01_SealFinds.g k xb wb (xa.length : Int) 0) = some r from h3)
  clear h h1 h2 h3 hx hw1 hs
  go_enter Tryd.func13, Tryd.ntmps13
  go_wp2_with (((with_reducible refine gate_dst (N := 5) rfl ?_); refine box_event ?hg (N := 5) ?hd (cs := #[.slice A2_0 l2_0.length c2_0, .int .u16 a2_1]) (t := 57) ?hr ?_; (case hd => rfl); (case hg => rfl); (case hr => first | (go_simp; done) | (go_simp; rfl)); intro gp hgp w1 hbox hb; have HB1 := Aside0.mk hb; have hcp0 : w1.cell? ⟨gp, 0, none⟩ = some (.slice A2_0 l2_0.length c2_0) := (blk_cell hbox 0).trans rfl; have hcp1 : w1.cell? ⟨gp, 1, none⟩ = some (.int .u16 a2_1) := (blk_cell hbox 1).trans rfl; clear hgp hbox hb))
  go_quiet (fail)
  go_wp2
  go_loopg [9, 10] k (fun kq v9 v10 w' => ∃ (x : List Int) (i : Int), v10 = .int .i64 i ∧ Aside0 (grapevinelaw01_SealFinds.l0 kq l0 x i = some xa) ∧ Aside0 (kq ≤ k) ∧ Aside0 (Kd.R (Kd.int .u8) 5 w' w.heap.size (fun _ => True) v9 x) ∧ Aside0 (Below w.heap.size w w'))
  case atStart => exact ⟨[], 0, rfl, HX, ⟨Nat.le_refl _⟩, ⟨Kd.R_nil _ _ _ _ _⟩, ⟨by repeat (first | (with_reducible first | exact HB1.out | apply below_alloc | apply pw_below_drewN | apply below_drew1) | exact HB1.out)⟩⟩
  case round =>
    obtain ⟨x, i, rfl, HA, HK, HO, HB⟩ := hrel
    cases gk with
    | zero => exact absurd HA.out (by simp [grapevinelaw01_SealFinds.l0])
    | succ k1 =>
      have H := HA.out
      clear HA
      simp only [grapevinelaw01_SealFinds.l0] at H
      by_cases c1 : i < (l0.length : Int)
      case neg =>
        rw [if_neg c1] at H
        have c1b : decide (i < (l0.length : Int)) = false := decide_eq_false c1
        have ex := Option.some.inj H
        subst ex
        clear c1 H
        obtain ⟨A9, c9, e9⟩ := Kd.R_slice HO.out
        subst e9
        go_wp2
        go_loopg [9, 12, 13] k (fun kq v9 v12 v13 w' => ∃ (x' : List Int) (ps : List WE) (ws : List S39) (i' : Int), v13 = .int .i64 i' ∧ Aside0 (grapevinelaw01_SealFinds.l1 kq l1 x' ws i' = some (xb, wb)) ∧ Aside0 (kq ≤ k) ∧ Aside0 (Kd.R (Kd.int .u8) 5 w' w.heap.size (fun _ => True) v9 x') ∧ Aside0 (KdW.R 39 w' w.heap.size (fun _ => True) v12 ps) ∧ Aside0 (∀ k_, Value.ownBlock v9 = some k_ → some k_ ≠ Value.ownBlock v12) ∧ Aside0 (WRels w ps ws) ∧ Aside0 (Below w.heap.size w w'))
        case atStart => exact ⟨x, [], [], 0, rfl, HW, ⟨Nat.le_refl _⟩, HO, ⟨Kd.R_nil _ _ _ _ _⟩, ⟨fun _ _ e_ => by simp [Value.ownBlock] at e_⟩, ⟨.nil⟩, HB⟩
        case round =>
          clear HO HB HK
          obtain ⟨x', ps, ws, i', rfl, HA, HK, HO, HOW, NE, WR, HB⟩ := hrel
          obtain ⟨A9, c9, e9⟩ := Kd.R_slice HO.out
          subst e9
          obtain ⟨A12, c12, e12⟩ := Kd.R_slice HOW.out
          subst e12
          cases gk with
          | zero => exact absurd HA.out (by simp [grapevinelaw01_SealFinds.l1])
          | succ k2 =>
            have H := HA.out
            clear HA
            simp only [grapevinelaw01_SealFinds.l1] at H
            by_cases d1 : i' < (l1.length : Int)
            case neg =>
              rw [if_neg d1] at H
              have d1b : decide (i' < (l1.length : Int)) = false := decide_eq_false d1
              simp only [Option.some.injEq, Prod.mk.injEq] at H
              obtain ⟨e1, e2⟩ := H
              subst e1 e2
              clear d1
              by_cases hp : p2 = 0
              case neg =>
                have HG := Aside0.mk (show grapevinelaw01_SealFinds.g k x' ws (x.length : Int) 0 = some r from (if_neg hp).symm.trans H3.out)
                have hpb : (p2 == 0) = false := beq_eq_false_iff_ne.mpr hp
                clear hp
                obtain ⟨⟨r1, r2, r3⟩, hsc, h4⟩ := Option.bind_eq_some_iff.mp HG.out
                obtain ⟨t, hl, h5⟩ := Option.bind_eq_some_iff.mp h4
                obtain ⟨u, hsa, h6⟩ := Option.bind_eq_some_iff.mp h5
                by_cases hq : t = true ∧ u = true ∧ r3 = 0 ∧ r2 = wrap64 ((x.length : Int) + 0)
                case neg => exact absurd ((if_neg hq).symm.trans h6) (by simp)
                have h7 := (if_pos hq).symm.trans h6
                obtain ⟨rfl, rfl, rfl, hr2⟩ := hq
                obtain rfl := Option.some.inj h7
                have HSC := Aside0.mk hsc
                have HL := Aside0.mk hl
                have HSA := Aside0.mk (show grapevineref01_SameAll.f k r1 ws = some true from hsa)
                have hr2b : (r2 == wrap64 ((x.length : Int) + 0)) = true := beq_iff_eq.mpr hr2
                have hr2c := hr2b
                (try simp only [Int.add_zero] at hr2c)
                clear h4 h5 h6 h7 hsc hl hsa HG hr2
                go_wp2_with (first | ((with_reducible refine gate_callee (f := 21) rfl ?_); refine goesL_ (some 98) rfl rfl Tryd.func21 (by kernel_rfl) rfl #[.int .u8 9, .slice A2_0 l2_0.length c2_0] rfl (by (try simp only [List.map_toArray, List.map_cons, List.map_nil]); first | done | rfl) ?_; refine (seal_Seal.calls k 9 _ c2_0 _ y p2 _ ?hC HC2.out (TabW.below HT.out (by repeat (first | (with_reducible first | exact HB.out | apply below_alloc | apply pw_below_drewN | apply below_drew1) | exact HB.out))) HS.out).mono ?_; (case hC => with_reducible repeat (first | exact (Kd.C_below HR2.out HB.out) | refine Kd.C_alloc ?_ _ | refine Kd.C_drewN ?_ _ | refine Kd.C_drew ?_)); rintro e w6 ⟨vb, rfl, ho, hb⟩; refine ⟨_, rfl, ?_⟩; have HBn := Aside0.mk (below_step (by repeat (first | (with_reducible first | exact HB.out | apply below_alloc | apply pw_below_drewN | apply below_drew1) | exact HB.out)) hb); have HOB := Aside0.mk (Kd.R_lower ho (below_size (by repeat (first | (with_reducible first | exact HB.out | apply below_alloc | apply pw_below_drewN | apply below_drew1) | exact HB.out)))); have n0_ := Aside0.mk (Kd.R_below (by (with_reducible repeat (first | apply Kd.R_alloc | apply Kd.R_drewN | apply Kd.R_drew)); exact HO.out) hb); have n1_ := Aside0.mk (Kd.R_below (by (with_reducible repeat (first | apply Kd.R_alloc | apply Kd.R_drewN | apply Kd.R_drew)); exact HOW.out) hb); have NB0 := Aside0.mk (show ∀ k_, Value.ownBlock vb = some k_ → some k_ ≠ Value.ownBlock (.slice A9 x'.length c9 : Value) ∧ some k_ ≠ Value.ownBlock (.slice A12 ps.length c12 : Value) from fun k_ e_ => (by have g1_ := Kd.R_base ho k_ e_; exact ⟨fun e2_ => absurd (Kd.R_lt (by (with_reducible repeat (first | apply Kd.R_alloc | apply Kd.R_drewN | apply Kd.R_drew)); exact HO.out) k_ e2_.symm) (Nat.not_lt.2 g1_), fun e2_ => absurd (Kd.R_lt (by (with_reducible repeat (first | apply Kd.R_alloc | apply Kd.R_drewN | apply Kd.R_drew)); exact HOW.out) k_ e2_.symm) (Nat.not_lt.2 g1_)⟩)); clear HO HOW HB; have HO := n0_; have HOW := n1_; have HB := HBn; clear n0_ n1_ HBn; clear ho hb; obtain ⟨Ab, cb, eb⟩ := Kd.R_slice HOB.out; subst eb) | ((with_reducible refine gate_callee (f := 27) rfl ?_); refine goesL_ (some 132) rfl rfl Tryd.func27 (by kernel_rfl) rfl #[.slice A9 x'.length c9] rfl (by (try simp only [List.map_toArray, List.map_cons, List.map_nil]); first | done | rfl) ?_; refine (seal_Scan.calls k _ c9 x' r1 r2 0 _ ?hC (Kd.R_reads' HO.out).2.1 ?hT HSC.out).mono ?_; (case hC => repeat (first | exact (Kd.R_reads' HO.out).2.2 | (with_reducible refine Kd.C_alloc ?_ _) | (with_reducible refine Kd.C_drewN ?_ _) | (with_reducible refine Kd.C_drew ?_))); (case hT => exact (TabW.below HT.out (by repeat (first | (with_reducible first | exact HB.out | apply below_alloc | apply pw_below_drewN | apply below_drew1) | exact HB.out)))); rintro e ws_ ⟨vs, rfl, hos, hb⟩; refine ⟨_, rfl, ?_⟩; have HBs := Aside0.mk (below_step (by repeat (first | (with_reducible first | exact HB.out | apply below_alloc | apply pw_below_drewN | apply below_drew1) | exact HB.out)) hb); have HOS := Aside0.mk hos; have HWC := Aside0.mk (show ws.length ≤ c12 from (by have h_ := (Kd.R_reads' HOW.out).2.1; rw [← WR.out.length]; exact h_)); have HCW := Aside0.mk (want_C HBs.out WR.out (Kd.C_below (w := _) (by (with_reducible repeat (first | apply Kd.C_alloc | apply Kd.C_drewN | apply Kd.C_drew)); exact (Kd.R_reads' HOW.out).2.2) hb)); clear hos hb; obtain ⟨As, cs, es⟩ := Kd.S_slice HOS.out; subst es) | ((with_reducible refine gate_callee (f := 23) rfl ?_); refine goesL_ (some 136) rfl rfl Tryd.func23 (by kernel_rfl) rfl #[] rfl (by (try simp only [List.map_toArray, List.map_cons, List.map_nil]); first | done | rfl) ?_; refine (grapevinelaw01_lives.calls k true _ (TabW.below HT.out (by repeat (first | (with_reducible first | exact HBs.out | apply below_alloc | apply pw_below_drewN | apply below_drew1) | exact HBs.out))) HL.out).mono ?_; rintro e wl ⟨rfl, hb⟩; refine ⟨_, rfl, ?_⟩; have HBl := Aside0.mk (below_step (by repeat (first | (with_reducible first | exact HBs.out | apply below_alloc | apply pw_below_drewN | apply below_drew1) | exact HBs.out)) hb); have n0_ := Aside0.mk (Kd.S_below HOS.out hb); have n1_ := Aside0.mk (Kd.C_below HCW.out hb); clear HOS HCW; have HOS := n0_; have HCW := n1_; clear n0_ n1_; clear hb) | ((with_reducible refine gate_callee (f := 29) rfl ?_); (refine gate_guard (by rfl) ?_; dsimp only); refine goesL_ (some 144) rfl rfl Tryd.func29 (by kernel_rfl) rfl #[.slice As r1.length cs, .slice A12 ps.length c12] rfl (by (try simp only [List.map_toArray, List.map_cons, List.map_nil]); first | done | rfl) ?_; refine calls_of_args (args' := #[.slice As r1.length cs, .slice A12 ws.length c12]) (by rw [WR.out.length]) ?_; refine (grapevineref01_SameAll.calls k _ cs r1 _ c12 ws true _ ?hC (Kd.S_reads' HOS.out).2.1 ?hD HWC.out HSA.out).mono ?_; (case hC => repeat (first | exact (Kd.S_reads' HOS.out).2.2 | (with_reducible refine Kd.C_alloc ?_ _) | (with_reducible refine Kd.C_drewN ?_ _) | (with_reducible refine Kd.C_drew ?_))); (case hD => repeat (first | exact HCW.out | (with_reducible refine Kd.C_alloc ?_ _) | (with_reducible refine Kd.C_drewN ?_ _) | (with_reducible refine Kd.C_drew ?_))); rintro e we ⟨rfl, hb⟩; refine ⟨_, rfl, ?_⟩; have HBe := Aside0.mk (below_step (by repeat (first | (with_reducible first | exact HBl.out | apply below_alloc | apply pw_below_drewN | apply below_drew1) | exact HBl.out)) hb); clear hb))
                go_ret
                exact ⟨by first | rfl | (simp; done) | (simp only [hr2c]; rfl) | (simp only [hr2b]; rfl) | (simp [hr2b]; done) | (simp [hr2c]; done), (by repeat (first | (with_reducible first | exact HBe.out | apply below_alloc | apply pw_below_drewN | apply below_drew1) | exact HBe.out))⟩
              subst hp
              have h8 : (if 0 < y.length then ((grapevinelaw01_SealFinds.l2 k y (Int.tmod (wrap64 a2_1) (y.length : Int)) x' 0 0).bind fun xq => grapevinelaw01_SealFinds.g k xq.1 ws (x.length : Int) xq.2) else none) = some r := (if_pos rfl).symm.trans H3.out
              by_cases hy : 0 < y.length
              case neg => rw [if_neg hy] at h8; exact absurd h8 (by simp)
              rw [if_pos hy] at h8
              obtain ⟨⟨xc, qc⟩, hl2, h9⟩ := Option.bind_eq_some_iff.mp h8
              have HGC := Aside0.mk (show grapevinelaw01_SealFinds.g k xc ws (x.length : Int) qc = some r from h9)
              have HY := Aside0.mk hy
              have hyb : decide (0 < (y.length : Int)) = true := decide_eq_true (by omega)
              have hyn : decide (0 < y.length) = true := decide_eq_true hy
              have hybe : ((y.length : Int) == 0) = false := beq_eq_false_iff_ne.mpr (by omega)
              have hyne : (y.length == 0) = false := beq_eq_false_iff_ne.mpr (by omega)
              have hyd := eq_false (show ¬ y.length = 0 by omega)
              have hyf := eq_false (show ¬ (y.length : Int) = 0 by omega)
              obtain ⟨m, hm⟩ : ∃ m : Int, Int.tmod (wrap64 a2_1) (y.length : Int) = m := ⟨_, rfl⟩
              rw [hm] at hl2
              have HL2 := Aside0.mk hl2
              clear h8 h9 hl2 hy
              go_wp2_with (((with_reducible refine gate_callee (f := 21) rfl ?_); refine goesL_ (some 98) rfl rfl Tryd.func21 (by kernel_rfl) rfl #[.int .u8 9, .slice A2_0 l2_0.length c2_0] rfl (by (try simp only [List.map_toArray, List.map_cons, List.map_nil]); first | done | rfl) ?_; refine (seal_Seal.calls k 9 _ c2_0 _ y 0 _ ?hC HC2.out (TabW.below HT.out (by repeat (first | (with_reducible first | exact HB.out | apply below_alloc | apply pw_below_drewN | apply below_drew1) | exact HB.out))) HS.out).mono ?_; (case hC => with_reducible repeat (first | exact (Kd.C_below HR2.out HB.out) | refine Kd.C_alloc ?_ _ | refine Kd.C_drewN ?_ _ | refine Kd.C_drew ?_)); rintro e w6 ⟨vb, rfl, ho, hb⟩; refine ⟨_, rfl, ?_⟩; have HBn := Aside0.mk (below_step (by repeat (first | (with_reducible first | exact HB.out | apply below_alloc | apply pw_below_drewN | apply below_drew1) | exact HB.out)) hb); have HOB := Aside0.mk (Kd.R_lower ho (below_size (by repeat (first | (with_reducible first | exact HB.out | apply below_alloc | apply pw_below_drewN | apply below_drew1) | exact HB.out)))); have n0_ := Aside0.mk (Kd.R_below (by (with_reducible repeat (first | apply Kd.R_alloc | apply Kd.R_drewN | apply Kd.R_drew)); exact HO.out) hb); have n1_ := Aside0.mk (Kd.R_below (by (with_reducible repeat (first | apply Kd.R_alloc | apply Kd.R_drewN | apply Kd.R_drew)); exact HOW.out) hb); have NB0 := Aside0.mk (show ∀ k_, Value.ownBlock vb = some k_ → some k_ ≠ Value.ownBlock (.slice A9 x'.length c9 : Value) ∧ some k_ ≠ Value.ownBlock (.slice A12 ps.length c12 : Value) from fun k_ e_ => (by have g1_ := Kd.R_base ho k_ e_; exact ⟨fun e2_ => absurd (Kd.R_lt (by (with_reducible repeat (first | apply Kd.R_alloc | apply Kd.R_drewN | apply Kd.R_drew)); exact HO.out) k_ e2_.symm) (Nat.not_lt.2 g1_), fun e2_ => absurd (Kd.R_lt (by (with_reducible repeat (first | apply Kd.R_alloc | apply Kd.R_drewN | apply Kd.R_drew)); exact HOW.out) k_ e2_.symm) (Nat.not_lt.2 g1_)⟩)); clear HO HOW HB; have HO := n0_; have HOW := n1_; have HB := HBn; clear n0_ n1_ HBn; clear ho hb; obtain ⟨gy, cb, eb, _, _, _⟩ := Kd.R_form HOB.out HY.out; subst eb; have HOY := HOB; have NEYS := Aside0.mk (show ∀ k_, Value.ownBlock (.slice A9 x'.length c9) = some k_ → some k_ ≠ Value.ownBlock (.slice A12 ps.length c12) ∧ some k_ ≠ Value.ownBlock (.slice (some ⟨gy, 0, none⟩) y.length cb) from fun k_ e_ => ⟨NE.out k_ e_, fun e2_ => (NB0.out k_ e2_.symm).1 e_.symm⟩)))
              go_loopg [9, 18, 19] k (fun kq v9 v18 v19 w' => ∃ (x3 : List Int) (q3 i3 : Int), v18 = .int .i64 q3 ∧ v19 = .int .i64 i3 ∧ Aside0 (grapevinelaw01_SealFinds.l2 kq y m x3 q3 i3 = some (xc, qc)) ∧ Aside0 (kq ≤ k) ∧ Aside0 (Kd.R (Kd.int .u8) 5 w' w.heap.size (fun _ => True) v9 x3) ∧ Aside0 (KdW.R 39 w' w.heap.size (fun _ => True) (.slice A12 ps.length c12) ps) ∧ Aside0 (Kd.R (Kd.int .u8) 5 w' w.heap.size (fun _ => True) (.slice (some ⟨gy, 0, none⟩) y.length cb) y) ∧ Aside0 (∀ k_, Value.ownBlock v9 = some k_ → some k_ ≠ Value.ownBlock (.slice A12 ps.length c12) ∧ some k_ ≠ Value.ownBlock (.slice (some ⟨gy, 0, none⟩) y.length cb)) ∧ Aside0 (Below w.heap.size w w'))
              case atStart => exact ⟨x', 0, 0, rfl, rfl, HL2, ⟨Nat.le_refl _⟩, ⟨(by (with_reducible repeat (first | apply Kd.R_alloc | apply Kd.R_drewN | apply Kd.R_drew)); exact HO.out)⟩, ⟨(by (with_reducible repeat (first | apply Kd.R_alloc | apply Kd.R_drewN | apply Kd.R_drew)); exact HOW.out)⟩, ⟨(by (with_reducible repeat (first | apply Kd.R_alloc | apply Kd.R_drewN | apply Kd.R_drew)); exact HOY.out)⟩, NEYS, ⟨(by repeat (first | (with_reducible first | exact HB.out | apply below_alloc | apply pw_below_drewN | apply below_drew1) | exact HB.out))⟩⟩
              case round =>
                clear HO HOW HOY HB HK NE NB0 NEYS HOB
                obtain ⟨x3, q3, i3, rfl, rfl, HA, HK, HO, HOW, HOY, NY, HB⟩ := hrel
                obtain ⟨A9, c9, e9⟩ := Kd.R_slice HO.out
                subst e9
                cases gk with
                | zero => exact absurd HA.out (by simp [grapevinelaw01_SealFinds.l2])
                | succ k3 =>
                  have H := HA.out
                  clear HA
                  simp only [grapevinelaw01_SealFinds.l2] at H
                  by_cases f1 : i3 < m
                  case neg =>
                    rw [if_neg f1] at H
                    have f1b : decide (i3 < m) = false := decide_eq_false f1
                    simp only [Option.some.injEq, Prod.mk.injEq] at H
                    obtain ⟨e1, e2⟩ := H
                    subst e1 e2
                    have HG := HGC
                    clear f1
                    obtain ⟨⟨r1, r2, r3⟩, hsc, h4⟩ := Option.bind_eq_some_iff.mp HG.out
                    obtain ⟨t, hl, h5⟩ := Option.bind_eq_some_iff.mp h4
                    obtain ⟨u, hsa, h6⟩ := Option.bind_eq_some_iff.mp h5
                    by_cases hq : t = true ∧ u = true ∧ r3 = 0 ∧ r2 = wrap64 ((x.length : Int) + q3)
                    case neg => exact absurd ((if_neg hq).symm.trans h6) (by simp)
                    have h7 := (if_pos hq).symm.trans h6
                    obtain ⟨rfl, rfl, rfl, hr2⟩ := hq
                    obtain rfl := Option.some.inj h7
                    have HSC := Aside0.mk hsc
                    have HL := Aside0.mk hl
                    have HSA := Aside0.mk (show grapevineref01_SameAll.f k r1 ws = some true from hsa)
                    have hr2b : (r2 == wrap64 ((x.length : Int) + q3)) = true := beq_iff_eq.mpr hr2
                    have hr2c := hr2b
                    (try simp only [Int.add_zero] at hr2c)
                    clear h4 h5 h6 h7 hsc hl hsa HG hr2
                    go_wp2_with (first | ((with_reducible refine gate_callee (f := 27) rfl ?_); refine goesL_ (some 132) rfl rfl Tryd.func27 (by kernel_rfl) rfl #[.slice A9 x3.length c9] rfl (by (try simp only [List.map_toArray, List.map_cons, List.map_nil]); first | done | rfl) ?_; refine (seal_Scan.calls k _ c9 x3 r1 r2 0 _ ?hC (Kd.R_reads' HO.out).2.1 ?hT HSC.out).mono ?_; (case hC => repeat (first | exact (Kd.R_reads' HO.out).2.2 | (with_reducible refine Kd.C_alloc ?_ _) | (with_reducible refine Kd.C_drewN ?_ _) | (with_reducible refine Kd.C_drew ?_))); (case hT => exact (TabW.below HT.out (by repeat (first | (with_reducible first | exact HB.out | apply below_alloc | apply pw_below_drewN | apply below_drew1) | exact HB.out)))); rintro e ws_ ⟨vs, rfl, hos, hb⟩; refine ⟨_, rfl, ?_⟩; have HBs := Aside0.mk (below_step (by repeat (first | (with_reducible first | exact HB.out | apply below_alloc | apply pw_below_drewN | apply below_drew1) | exact HB.out)) hb); have HOS := Aside0.mk hos; have HWC := Aside0.mk (show ws.length ≤ c12 from (by have h_ := (Kd.R_reads' HOW.out).2.1; rw [← WR.out.length]; exact h_)); have HCW := Aside0.mk (want_C HBs.out WR.out (Kd.C_below (w := _) (by (with_reducible repeat (first | apply Kd.C_alloc | apply Kd.C_drewN | apply Kd.C_drew)); exact (Kd.R_reads' HOW.out).2.2) hb)); clear hos hb; obtain ⟨As, cs, es⟩ := Kd.S_slice HOS.out; subst es) | ((with_reducible refine gate_callee (f := 23) rfl ?_); refine goesL_ (some 136) rfl rfl Tryd.func23 (by kernel_rfl) rfl #[] rfl (by (try simp only [List.map_toArray, List.map_cons, List.map_nil]); first | done | rfl) ?_; refine (grapevinelaw01_lives.calls k true _ (TabW.below HT.out (by repeat (first | (with_reducible first | exact HBs.out | apply below_alloc | apply pw_below_drewN | apply below_drew1) | exact HBs.out))) HL.out).mono ?_; rintro e wl ⟨rfl, hb⟩; refine ⟨_, rfl, ?_⟩; have HBl := Aside0.mk (below_step (by repeat (first | (with_reducible first | exact HBs.out | apply below_alloc | apply pw_below_drewN | apply below_drew1) | exact HBs.out)) hb); have n0_ := Aside0.mk (Kd.S_below HOS.out hb); have n1_ := Aside0.mk (Kd.C_below HCW.out hb); clear HOS HCW; have HOS := n0_; have HCW := n1_; clear n0_ n1_; clear hb) | ((with_reducible refine gate_callee (f := 29) rfl ?_); (refine gate_guard (by rfl) ?_; dsimp only); refine goesL_ (some 144) rfl rfl Tryd.func29 (by kernel_rfl) rfl #[.slice As r1.length cs, .slice A12 ps.length c12] rfl (by (try simp only [List.map_toArray, List.map_cons, List.map_nil]); first | done | rfl) ?_; refine calls_of_args (args' := #[.slice As r1.length cs, .slice A12 ws.length c12]) (by rw [WR.out.length]) ?_; refine (grapevineref01_SameAll.calls k _ cs r1 _ c12 ws true _ ?hC (Kd.S_reads' HOS.out).2.1 ?hD HWC.out HSA.out).mono ?_; (case hC => repeat (first | exact (Kd.S_reads' HOS.out).2.2 | (with_reducible refine Kd.C_alloc ?_ _) | (with_reducible refine Kd.C_drewN ?_ _) | (with_reducible refine Kd.C_drew ?_))); (case hD => repeat (first | exact HCW.out | (with_reducible refine Kd.C_alloc ?_ _) | (with_reducible refine Kd.C_drewN ?_ _) | (with_reducible refine Kd.C_drew ?_))); rintro e we ⟨rfl, hb⟩; refine ⟨_, rfl, ?_⟩; have HBe := Aside0.mk (below_step (by repeat (first | (with_reducible first | exact HBl.out | apply below_alloc | apply pw_below_drewN | apply below_drew1) | exact HBl.out)) hb); clear hb))
                    go_ret
                    exact ⟨by first | rfl | (simp; done) | (simp only [hr2c]; rfl) | (simp only [hr2b]; rfl) | (simp [hr2b]; done) | (simp [hr2c]; done), (by repeat (first | (with_reducible first | exact HBe.out | apply below_alloc | apply pw_below_drewN | apply below_drew1) | exact HBe.out))⟩
                  rw [if_pos f1] at H
                  have f1b : decide (i3 < m) = true := decide_eq_true f1
                  by_cases f2 : i3 < 1
                  case neg =>
                    rw [if_neg f2] at H
                    have f2b : decide (i3 < 1) = false := decide_eq_false f2
                    simp only [Option.some.injEq, Prod.mk.injEq] at H
                    obtain ⟨e1, e2⟩ := H
                    subst e1 e2
                    have HG := HGC
                    clear f1 f2
                    obtain ⟨⟨r1, r2, r3⟩, hsc, h4⟩ := Option.bind_eq_some_iff.mp HG.out
                    obtain ⟨t, hl, h5⟩ := Option.bind_eq_some_iff.mp h4
                    obtain ⟨u, hsa, h6⟩ := Option.bind_eq_some_iff.mp h5
                    by_cases hq : t = true ∧ u = true ∧ r3 = 0 ∧ r2 = wrap64 ((x.length : Int) + q3)
                    case neg => exact absurd ((if_neg hq).symm.trans h6) (by simp)
                    have h7 := (if_pos hq).symm.trans h6
                    obtain ⟨rfl, rfl, rfl, hr2⟩ := hq
                    obtain rfl := Option.some.inj h7
                    have HSC := Aside0.mk hsc
                    have HL := Aside0.mk hl
                    have HSA := Aside0.mk (show grapevineref01_SameAll.f k r1 ws = some true from hsa)
                    have hr2b : (r2 == wrap64 ((x.length : Int) + q3)) = true := beq_iff_eq.mpr hr2
                    have hr2c := hr2b
                    (try simp only [Int.add_zero] at hr2c)
                    clear h4 h5 h6 h7 hsc hl hsa HG hr2
                    go_wp2_with (first | ((with_reducible refine gate_callee (f := 27) rfl ?_); refine goesL_ (some 132) rfl rfl Tryd.func27 (by kernel_rfl) rfl #[.slice A9 x3.length c9] rfl (by (try simp only [List.map_toArray, List.map_cons, List.map_nil]); first | done | rfl) ?_; refine (seal_Scan.calls k _ c9 x3 r1 r2 0 _ ?hC (Kd.R_reads' HO.out).2.1 ?hT HSC.out).mono ?_; (case hC => repeat (first | exact (Kd.R_reads' HO.out).2.2 | (with_reducible refine Kd.C_alloc ?_ _) | (with_reducible refine Kd.C_drewN ?_ _) | (with_reducible refine Kd.C_drew ?_))); (case hT => exact (TabW.below HT.out (by repeat (first | (with_reducible first | exact HB.out | apply below_alloc | apply pw_below_drewN | apply below_drew1) | exact HB.out)))); rintro e ws_ ⟨vs, rfl, hos, hb⟩; refine ⟨_, rfl, ?_⟩; have HBs := Aside0.mk (below_step (by repeat (first | (with_reducible first | exact HB.out | apply below_alloc | apply pw_below_drewN | apply below_drew1) | exact HB.out)) hb); have HOS := Aside0.mk hos; have HWC := Aside0.mk (show ws.length ≤ c12 from (by have h_ := (Kd.R_reads' HOW.out).2.1; rw [← WR.out.length]; exact h_)); have HCW := Aside0.mk (want_C HBs.out WR.out (Kd.C_below (w := _) (by (with_reducible repeat (first | apply Kd.C_alloc | apply Kd.C_drewN | apply Kd.C_drew)); exact (Kd.R_reads' HOW.out).2.2) hb)); clear hos hb; obtain ⟨As, cs, es⟩ := Kd.S_slice HOS.out; subst es) | ((with_reducible refine gate_callee (f := 23) rfl ?_); refine goesL_ (some 136) rfl rfl Tryd.func23 (by kernel_rfl) rfl #[] rfl (by (try simp only [List.map_toArray, List.map_cons, List.map_nil]); first | done | rfl) ?_; refine (grapevinelaw01_lives.calls k true _ (TabW.below HT.out (by repeat (first | (with_reducible first | exact HBs.out | apply below_alloc | apply pw_below_drewN | apply below_drew1) | exact HBs.out))) HL.out).mono ?_; rintro e wl ⟨rfl, hb⟩; refine ⟨_, rfl, ?_⟩; have HBl := Aside0.mk (below_step (by repeat (first | (with_reducible first | exact HBs.out | apply below_alloc | apply pw_below_drewN | apply below_drew1) | exact HBs.out)) hb); have n0_ := Aside0.mk (Kd.S_below HOS.out hb); have n1_ := Aside0.mk (Kd.C_below HCW.out hb); clear HOS HCW; have HOS := n0_; have HCW := n1_; clear n0_ n1_; clear hb) | ((with_reducible refine gate_callee (f := 29) rfl ?_); (refine gate_guard (by rfl) ?_; dsimp only); refine goesL_ (some 144) rfl rfl Tryd.func29 (by kernel_rfl) rfl #[.slice As r1.length cs, .slice A12 ps.length c12] rfl (by (try simp only [List.map_toArray, List.map_cons, List.map_nil]); first | done | rfl) ?_; refine calls_of_args (args' := #[.slice As r1.length cs, .slice A12 ws.length c12]) (by rw [WR.out.length]) ?_; refine (grapevineref01_SameAll.calls k _ cs r1 _ c12 ws true _ ?hC (Kd.S_reads' HOS.out).2.1 ?hD HWC.out HSA.out).mono ?_; (case hC => repeat (first | exact (Kd.S_reads' HOS.out).2.2 | (with_reducible refine Kd.C_alloc ?_ _) | (with_reducible refine Kd.C_drewN ?_ _) | (with_reducible refine Kd.C_drew ?_))); (case hD => repeat (first | exact HCW.out | (with_reducible refine Kd.C_alloc ?_ _) | (with_reducible refine Kd.C_drewN ?_ _) | (with_reducible refine Kd.C_drew ?_))); rintro e we ⟨rfl, hb⟩; refine ⟨_, rfl, ?_⟩; have HBe := Aside0.mk (below_step (by repeat (first | (with_reducible first | exact HBl.out | apply below_alloc | apply pw_below_drewN | apply below_drew1) | exact HBl.out)) hb); clear hb))
                    go_ret
                    exact ⟨by first | rfl | (simp; done) | (simp only [hr2c]; rfl) | (simp only [hr2b]; rfl) | (simp [hr2b]; done) | (simp [hr2c]; done), (by repeat (first | (with_reducible first | exact HBe.out | apply below_alloc | apply pw_below_drewN | apply below_drew1) | exact HBe.out))⟩
                  rw [if_pos f2] at H
                  have f2b : decide (i3 < 1) = true := decide_eq_true f2
                  by_cases f3 : 0 ≤ i3 ∧ i3 < (y.length : Int)
                  case neg => rw [if_neg f3] at H; exact absurd H (by simp)
                  rw [if_pos f3] at H
                  by_cases f4 : x3.length < 140737488355328
                  case neg => rw [if_neg f4] at H; exact absurd H (by simp)
                  rw [if_pos f4] at H
                  have HN := Aside0.mk H
                  have HLN := Aside0.mk f4
                  have hyc := Kd.R_celln (0 : Int) HOY.out i3 f3.1 f3.2
                  have hyi : wr.cell? ⟨gy, i3.toNat, none⟩ = some (.int .u8 (rd y i3)) := hyc.1
                  have pi3 := eq_true f3.1
                  have qi3 := eq_true f3.2
                  clear H hyc f1 f2 f3 f4
                  go_wp2_with (((with_reducible refine gate_builtin (b := .append) (xs := #[.tmp 121, .tmp 126]) rfl ?_); at_builtin; refine Kd.R_append (Kd.int .u8) (w0 := w) w.heap.size rfl (.tmp 121) (.tmp 126) 23 5 (.int .u8 0) 1 rfl Tryd.underlying23 info5 rfl (by decide) (by omega) (.slice A9 x3.length c9) x3 (rd y i3) [.int .u8 (rd y i3)] (fun _ => True) (fun _ => False) rfl rfl rfl (fun _ hk => hk.elim) (fun _ _ => trivial) (by (with_reducible repeat (first | apply Kd.R_alloc | apply Kd.R_drewN | apply Kd.R_drew)); exact HO.out) (by repeat (first | (with_reducible first | exact HB.out | apply below_alloc | apply pw_below_drewN | apply below_drew1) | exact HB.out)) (below_size (by repeat (first | (with_reducible first | exact HB.out | apply below_alloc | apply pw_below_drewN | apply below_drew1) | exact HB.out))) (by have := HLN.out; omega) ?_; intro v9n w7 ho hb hg hat; have HO7 := Aside0.mk ho; have HB7 := Aside0.mk hb; have HOW7 := Aside0.mk (Kd.R_grown2 (by (with_reducible repeat (first | apply Kd.R_alloc | apply Kd.R_drewN | apply Kd.R_drew)); exact HOW.out) rfl hg (fun k_ e_ e2_ => (NY.out k_ e_).1 e2_)); have HOY7 := Aside0.mk (Kd.R_grown2 (by (with_reducible repeat (first | apply Kd.R_alloc | apply Kd.R_drewN | apply Kd.R_drew)); exact HOY.out) rfl hg (fun k_ e_ e2_ => (NY.out k_ e_).2 e2_)); have NY2 := Aside0.mk (show ∀ k_, Value.ownBlock v9n = some k_ → some k_ ≠ Value.ownBlock (.slice A12 ps.length c12) ∧ some k_ ≠ Value.ownBlock (.slice (some ⟨gy, 0, none⟩) y.length cb) from fun k_ e_ => (by rcases hat with hat | ⟨b_, hb_, hle_⟩; (exact NY.out k_ (hat ▸ e_)); (rw [hb_] at e_; injection e_ with e3_; subst e3_; exact ⟨fun e4_ => absurd (Kd.R_lt (by (with_reducible repeat (first | apply Kd.R_alloc | apply Kd.R_drewN | apply Kd.R_drew)); exact HOW.out) _ e4_.symm) (Nat.not_lt.2 hle_), fun e4_ => absurd (Kd.R_lt (by (with_reducible repeat (first | apply Kd.R_alloc | apply Kd.R_drewN | apply Kd.R_drew)); exact HOY.out) _ e4_.symm) (Nat.not_lt.2 hle_)⟩))); clear ho hb hg hat))
                  go_roundg k3
                  case measure => have := HK.out; omega
                  case rel => exact ⟨_, _, _, rfl, rfl, HN, ⟨by have := HK.out; omega⟩, ⟨(by (with_reducible repeat (first | apply Kd.R_alloc | apply Kd.R_drewN | apply Kd.R_drew)); exact HO7.out)⟩, ⟨(by (with_reducible repeat (first | apply Kd.R_alloc | apply Kd.R_drewN | apply Kd.R_drew)); exact HOW7.out)⟩, ⟨(by (with_reducible repeat (first | apply Kd.R_alloc | apply Kd.R_drewN | apply Kd.R_drew)); exact HOY7.out)⟩, NY2, ⟨(by repeat (first | (with_reducible first | exact HB7.out | apply below_alloc | apply pw_below_drewN | apply below_drew1) | exact HB7.out))⟩⟩
            rw [if_pos d1] at H
            have d1b : decide (i' < (l1.length : Int)) = true := decide_eq_true d1
            by_cases d2 : i' < 20
            case neg =>
              rw [if_neg d2] at H
              have d2b : decide (i' < 20) = false := decide_eq_false d2
              simp only [Option.some.injEq, Prod.mk.injEq] at H
              obtain ⟨e1, e2⟩ := H
              subst e1 e2
              clear d1 d2
              by_cases hp : p2 = 0
              case neg =>
                have HG := Aside0.mk (show grapevinelaw01_SealFinds.g k x' ws (x.length : Int) 0 = some r from (if_neg hp).symm.trans H3.out)
                have hpb : (p2 == 0) = false := beq_eq_false_iff_ne.mpr hp
                clear hp
                obtain ⟨⟨r1, r2, r3⟩, hsc, h4⟩ := Option.bind_eq_some_iff.mp HG.out
                obtain ⟨t, hl, h5⟩ := Option.bind_eq_some_iff.mp h4
                obtain ⟨u, hsa, h6⟩ := Option.bind_eq_some_iff.mp h5
                by_cases hq : t = true ∧ u = true ∧ r3 = 0 ∧ r2 = wrap64 ((x.length : Int) + 0)
                case neg => exact absurd ((if_neg hq).symm.trans h6) (by simp)
                have h7 := (if_pos hq).symm.trans h6
                obtain ⟨rfl, rfl, rfl, hr2⟩ := hq
                obtain rfl := Option.some.inj h7
                have HSC := Aside0.mk hsc
                have HL := Aside0.mk hl
                have HSA := Aside0.mk (show grapevineref01_SameAll.f k r1 ws = some true from hsa)
                have hr2b : (r2 == wrap64 ((x.length : Int) + 0)) = true := beq_iff_eq.mpr hr2
                have hr2c := hr2b
                (try simp only [Int.add_zero] at hr2c)
                clear h4 h5 h6 h7 hsc hl hsa HG hr2
                go_wp2_with (first | ((with_reducible refine gate_callee (f := 21) rfl ?_); refine goesL_ (some 98) rfl rfl Tryd.func21 (by kernel_rfl) rfl #[.int .u8 9, .slice A2_0 l2_0.length c2_0] rfl (by (try simp only [List.map_toArray, List.map_cons, List.map_nil]); first | done | rfl) ?_; refine (seal_Seal.calls k 9 _ c2_0 _ y p2 _ ?hC HC2.out (TabW.below HT.out (by repeat (first | (with_reducible first | exact HB.out | apply below_alloc | apply pw_below_drewN | apply below_drew1) | exact HB.out))) HS.out).mono ?_; (case hC => with_reducible repeat (first | exact (Kd.C_below HR2.out HB.out) | refine Kd.C_alloc ?_ _ | refine Kd.C_drewN ?_ _ | refine Kd.C_drew ?_)); rintro e w6 ⟨vb, rfl, ho, hb⟩; refine ⟨_, rfl, ?_⟩; have HBn := Aside0.mk (below_step (by repeat (first | (with_reducible first | exact HB.out | apply below_alloc | apply pw_below_drewN | apply below_drew1) | exact HB.out)) hb); have HOB := Aside0.mk (Kd.R_lower ho (below_size (by repeat (first | (with_reducible first | exact HB.out | apply below_alloc | apply pw_below_drewN | apply below_drew1) | exact HB.out)))); have n0_ := Aside0.mk (Kd.R_below (by (with_reducible repeat (first | apply Kd.R_alloc | apply Kd.R_drewN | apply Kd.R_drew)); exact HO.out) hb); have n1_ := Aside0.mk (Kd.R_below (by (with_reducible repeat (first | apply Kd.R_alloc | apply Kd.R_drewN | apply Kd.R_drew)); exact HOW.out) hb); have NB0 := Aside0.mk (show ∀ k_, Value.ownBlock vb = some k_ → some k_ ≠ Value.ownBlock (.slice A9 x'.length c9 : Value) ∧ some k_ ≠ Value.ownBlock (.slice A12 ps.length c12 : Value) from fun k_ e_ => (by have g1_ := Kd.R_base ho k_ e_; exact ⟨fun e2_ => absurd (Kd.R_lt (by (with_reducible repeat (first | apply Kd.R_alloc | apply Kd.R_drewN | apply Kd.R_drew)); exact HO.out) k_ e2_.symm) (Nat.not_lt.2 g1_), fun e2_ => absurd (Kd.R_lt (by (with_reducible repeat (first | apply Kd.R_alloc | apply Kd.R_drewN | apply Kd.R_drew)); exact HOW.out) k_ e2_.symm) (Nat.not_lt.2 g1_)⟩)); clear HO HOW HB; have HO := n0_; have HOW := n1_; have HB := HBn; clear n0_ n1_ HBn; clear ho hb; obtain ⟨Ab, cb, eb⟩ := Kd.R_slice HOB.out; subst eb) | ((with_reducible refine gate_callee (f := 27) rfl ?_); refine goesL_ (some 132) rfl rfl Tryd.func27 (by kernel_rfl) rfl #[.slice A9 x'.length c9] rfl (by (try simp only [List.map_toArray, List.map_cons, List.map_nil]); first | done | rfl) ?_; refine (seal_Scan.calls k _ c9 x' r1 r2 0 _ ?hC (Kd.R_reads' HO.out).2.1 ?hT HSC.out).mono ?_; (case hC => repeat (first | exact (Kd.R_reads' HO.out).2.2 | (with_reducible refine Kd.C_alloc ?_ _) | (with_reducible refine Kd.C_drewN ?_ _) | (with_reducible refine Kd.C_drew ?_))); (case hT => exact (TabW.below HT.out (by repeat (first | (with_reducible first | exact HB.out | apply below_alloc | apply pw_below_drewN | apply below_drew1) | exact HB.out)))); rintro e ws_ ⟨vs, rfl, hos, hb⟩; refine ⟨_, rfl, ?_⟩; have HBs := Aside0.mk (below_step (by repeat (first | (with_reducible first | exact HB.out | apply below_alloc | apply pw_below_drewN | apply below_drew1) | exact HB.out)) hb); have HOS := Aside0.mk hos; have HWC := Aside0.mk (show ws.length ≤ c12 from (by have h_ := (Kd.R_reads' HOW.out).2.1; rw [← WR.out.length]; exact h_)); have HCW := Aside0.mk (want_C HBs.out WR.out (Kd.C_below (w := _) (by (with_reducible repeat (first | apply Kd.C_alloc | apply Kd.C_drewN | apply Kd.C_drew)); exact (Kd.R_reads' HOW.out).2.2) hb)); clear hos hb; obtain ⟨As, cs, es⟩ := Kd.S_slice HOS.out; subst es) | ((with_reducible refine gate_callee (f := 23) rfl ?_); refine goesL_ (some 136) rfl rfl Tryd.func23 (by kernel_rfl) rfl #[] rfl (by (try simp only [List.map_toArray, List.map_cons, List.map_nil]); first | done | rfl) ?_; refine (grapevinelaw01_lives.calls k true _ (TabW.below HT.out (by repeat (first | (with_reducible first | exact HBs.out | apply below_alloc | apply pw_below_drewN | apply below_drew1) | exact HBs.out))) HL.out).mono ?_; rintro e wl ⟨rfl, hb⟩; refine ⟨_, rfl, ?_⟩; have HBl := Aside0.mk (below_step (by repeat (first | (with_reducible first | exact HBs.out | apply below_alloc | apply pw_below_drewN | apply below_drew1) | exact HBs.out)) hb); have n0_ := Aside0.mk (Kd.S_below HOS.out hb); have n1_ := Aside0.mk (Kd.C_below HCW.out hb); clear HOS HCW; have HOS := n0_; have HCW := n1_; clear n0_ n1_; clear hb) | ((with_reducible refine gate_callee (f := 29) rfl ?_); (refine gate_guard (by rfl) ?_; dsimp only); refine goesL_ (some 144) rfl rfl Tryd.func29 (by kernel_rfl) rfl #[.slice As r1.length cs, .slice A12 ps.length c12] rfl (by (try simp only [List.map_toArray, List.map_cons, List.map_nil]); first | done | rfl) ?_; refine calls_of_args (args' := #[.slice As r1.length cs, .slice A12 ws.length c12]) (by rw [WR.out.length]) ?_; refine (grapevineref01_SameAll.calls k _ cs r1 _ c12 ws true _ ?hC (Kd.S_reads' HOS.out).2.1 ?hD HWC.out HSA.out).mono ?_; (case hC => repeat (first | exact (Kd.S_reads' HOS.out).2.2 | (with_reducible refine Kd.C_alloc ?_ _) | (with_reducible refine Kd.C_drewN ?_ _) | (with_reducible refine Kd.C_drew ?_))); (case hD => repeat (first | exact HCW.out | (with_reducible refine Kd.C_alloc ?_ _) | (with_reducible refine Kd.C_drewN ?_ _) | (with_reducible refine Kd.C_drew ?_))); rintro e we ⟨rfl, hb⟩; refine ⟨_, rfl, ?_⟩; have HBe := Aside0.mk (below_step (by repeat (first | (with_reducible first | exact HBl.out | apply below_alloc | apply pw_below_drewN | apply below_drew1) | exact HBl.out)) hb); clear hb))
                go_ret
                exact ⟨by first | rfl | (simp; done) | (simp only [hr2c]; rfl) | (simp only [hr2b]; rfl) | (simp [hr2b]; done) | (simp [hr2c]; done), (by repeat (first | (with_reducible first | exact HBe.out | apply below_alloc | apply pw_below_drewN | apply below_drew1) | exact HBe.out))⟩
              subst hp
              have h8 : (if 0 < y.length then ((grapevinelaw01_SealFinds.l2 k y (Int.tmod (wrap64 a2_1) (y.length : Int)) x' 0 0).bind fun xq => grapevinelaw01_SealFinds.g k xq.1 ws (x.length : Int) xq.2) else none) = some r := (if_pos rfl).symm.trans H3.out
              by_cases hy : 0 < y.length
              case neg => rw [if_neg hy] at h8; exact absurd h8 (by simp)
              rw [if_pos hy] at h8
              obtain ⟨⟨xc, qc⟩, hl2, h9⟩ := Option.bind_eq_some_iff.mp h8
              have HGC := Aside0.mk (show grapevinelaw01_SealFinds.g k xc ws (x.length : Int) qc = some r from h9)
              have HY := Aside0.mk hy
              have hyb : decide (0 < (y.length : Int)) = true := decide_eq_true (by omega)
              have hyn : decide (0 < y.length) = true := decide_eq_true hy
              have hybe : ((y.length : Int) == 0) = false := beq_eq_false_iff_ne.mpr (by omega)
              have hyne : (y.length == 0) = false := beq_eq_false_iff_ne.mpr (by omega)
              have hyd := eq_false (show ¬ y.length = 0 by omega)
              have hyf := eq_false (show ¬ (y.length : Int) = 0 by omega)
              obtain ⟨m, hm⟩ : ∃ m : Int, Int.tmod (wrap64 a2_1) (y.length : Int) = m := ⟨_, rfl⟩
              rw [hm] at hl2
              have HL2 := Aside0.mk hl2
              clear h8 h9 hl2 hy
              go_wp2_with (((with_reducible refine gate_callee (f := 21) rfl ?_); refine goesL_ (some 98) rfl rfl Tryd.func21 (by kernel_rfl) rfl #[.int .u8 9, .slice A2_0 l2_0.length c2_0] rfl (by (try simp only [List.map_toArray, List.map_cons, List.map_nil]); first | done | rfl) ?_; refine (seal_Seal.calls k 9 _ c2_0 _ y 0 _ ?hC HC2.out (TabW.below HT.out (by repeat (first | (with_reducible first | exact HB.out | apply below_alloc | apply pw_below_drewN | apply below_drew1) | exact HB.out))) HS.out).mono ?_; (case hC => with_reducible repeat (first | exact (Kd.C_below HR2.out HB.out) | refine Kd.C_alloc ?_ _ | refine Kd.C_drewN ?_ _ | refine Kd.C_drew ?_)); rintro e w6 ⟨vb, rfl, ho, hb⟩; refine ⟨_, rfl, ?_⟩; have HBn := Aside0.mk (below_step (by repeat (first | (with_reducible first | exact HB.out | apply below_alloc | apply pw_below_drewN | apply below_drew1) | exact HB.out)) hb); have HOB := Aside0.mk (Kd.R_lower ho (below_size (by repeat (first | (with_reducible first | exact HB.out | apply below_alloc | apply pw_below_drewN | apply below_drew1) | exact HB.out)))); have n0_ := Aside0.mk (Kd.R_below (by (with_reducible repeat (first | apply Kd.R_alloc | apply Kd.R_drewN | apply Kd.R_drew)); exact HO.out) hb); have n1_ := Aside0.mk (Kd.R_below (by (with_reducible repeat (first | apply Kd.R_alloc | apply Kd.R_drewN | apply Kd.R_drew)); exact HOW.out) hb); have NB0 := Aside0.mk (show ∀ k_, Value.ownBlock vb = some k_ → some k_ ≠ Value.ownBlock (.slice A9 x'.length c9 : Value) ∧ some k_ ≠ Value.ownBlock (.slice A12 ps.length c12 : Value) from fun k_ e_ => (by have g1_ := Kd.R_base ho k_ e_; exact ⟨fun e2_ => absurd (Kd.R_lt (by (with_reducible repeat (first | apply Kd.R_alloc | apply Kd.R_drewN | apply Kd.R_drew)); exact HO.out) k_ e2_.symm) (Nat.not_lt.2 g1_), fun e2_ => absurd (Kd.R_lt (by (with_reducible repeat (first | apply Kd.R_alloc | apply Kd.R_drewN | apply Kd.R_drew)); exact HOW.out) k_ e2_.symm) (Nat.not_lt.2 g1_)⟩)); clear HO HOW HB; have HO := n0_; have HOW := n1_; have HB := HBn; clear n0_ n1_ HBn; clear ho hb; obtain ⟨gy, cb, eb, _, _, _⟩ := Kd.R_form HOB.out HY.out; subst eb; have HOY := HOB; have NEYS := Aside0.mk (show ∀ k_, Value.ownBlock (.slice A9 x'.length c9) = some k_ → some k_ ≠ Value.ownBlock (.slice A12 ps.length c12) ∧ some k_ ≠ Value.ownBlock (.slice (some ⟨gy, 0, none⟩) y.length cb) from fun k_ e_ => ⟨NE.out k_ e_, fun e2_ => (NB0.out k_ e2_.symm).1 e_.symm⟩)))
              go_loopg [9, 18, 19] k (fun kq v9 v18 v19 w' => ∃ (x3 : List Int) (q3 i3 : Int), v18 = .int .i64 q3 ∧ v19 = .int .i64 i3 ∧ Aside0 (grapevinelaw01_SealFinds.l2 kq y m x3 q3 i3 = some (xc, qc)) ∧ Aside0 (kq ≤ k) ∧ Aside0 (Kd.R (Kd.int .u8) 5 w' w.heap.size (fun _ => True) v9 x3) ∧ Aside0 (KdW.R 39 w' w.heap.size (fun _ => True) (.slice A12 ps.length c12) ps) ∧ Aside0 (Kd.R (Kd.int .u8) 5 w' w.heap.size (fun _ => True) (.slice (some ⟨gy, 0, none⟩) y.length cb) y) ∧ Aside0 (∀ k_, Value.ownBlock v9 = some k_ → some k_ ≠ Value.ownBlock (.slice A12 ps.length c12) ∧ some k_ ≠ Value.ownBlock (.slice (some ⟨gy, 0, none⟩) y.length cb)) ∧ Aside0 (Below w.heap.size w w'))
              case atStart => exact ⟨x', 0, 0, rfl, rfl, HL2, ⟨Nat.le_refl _⟩, ⟨(by (with_reducible repeat (first | apply Kd.R_alloc | apply Kd.R_drewN | apply Kd.R_drew)); exact HO.out)⟩, ⟨(by (with_reducible repeat (first | apply Kd.R_alloc | apply Kd.R_drewN | apply Kd.R_drew)); exact HOW.out)⟩, ⟨(by (with_reducible repeat (first | apply Kd.R_alloc | apply Kd.R_drewN | apply Kd.R_drew)); exact HOY.out)⟩, NEYS, ⟨(by repeat (first | (with_reducible first | exact HB.out | apply below_alloc | apply pw_below_drewN | apply below_drew1) | exact HB.out))⟩⟩
              case round =>
                clear HO HOW HOY HB HK NE NB0 NEYS HOB
                obtain ⟨x3, q3, i3, rfl, rfl, HA, HK, HO, HOW, HOY, NY, HB⟩ := hrel
                obtain ⟨A9, c9, e9⟩ := Kd.R_slice HO.out
                subst e9
                cases gk with
                | zero => exact absurd HA.out (by simp [grapevinelaw01_SealFinds.l2])
                | succ k3 =>
                  have H := HA.out
                  clear HA
                  simp only [grapevinelaw01_SealFinds.l2] at H
                  by_cases f1 : i3 < m
                  case neg =>
                    rw [if_neg f1] at H
                    have f1b : decide (i3 < m) = false := decide_eq_false f1
                    simp only [Option.some.injEq, Prod.mk.injEq] at H
                    obtain ⟨e1, e2⟩ := H
                    subst e1 e2
                    have HG := HGC
                    clear f1
                    obtain ⟨⟨r1, r2, r3⟩, hsc, h4⟩ := Option.bind_eq_some_iff.mp HG.out
                    obtain ⟨t, hl, h5⟩ := Option.bind_eq_some_iff.mp h4
                    obtain ⟨u, hsa, h6⟩ := Option.bind_eq_some_iff.mp h5
                    by_cases hq : t = true ∧ u = true ∧ r3 = 0 ∧ r2 = wrap64 ((x.length : Int) + q3)
                    case neg => exact absurd ((if_neg hq).symm.trans h6) (by simp)
                    have h7 := (if_pos hq).symm.trans h6
                    obtain ⟨rfl, rfl, rfl, hr2⟩ := hq
                    obtain rfl := Option.some.inj h7
                    have HSC := Aside0.mk hsc
                    have HL := Aside0.mk hl
                    have HSA := Aside0.mk (show grapevineref01_SameAll.f k r1 ws = some true from hsa)
                    have hr2b : (r2 == wrap64 ((x.length : Int) + q3)) = true := beq_iff_eq.mpr hr2
                    have hr2c := hr2b
                    (try simp only [Int.add_zero] at hr2c)
                    clear h4 h5 h6 h7 hsc hl hsa HG hr2
                    go_wp2_with (first | ((with_reducible refine gate_callee (f := 27) rfl ?_); refine goesL_ (some 132) rfl rfl Tryd.func27 (by kernel_rfl) rfl #[.slice A9 x3.length c9] rfl (by (try simp only [List.map_toArray, List.map_cons, List.map_nil]); first | done | rfl) ?_; refine (seal_Scan.calls k _ c9 x3 r1 r2 0 _ ?hC (Kd.R_reads' HO.out).2.1 ?hT HSC.out).mono ?_; (case hC => repeat (first | exact (Kd.R_reads' HO.out).2.2 | (with_reducible refine Kd.C_alloc ?_ _) | (with_reducible refine Kd.C_drewN ?_ _) | (with_reducible refine Kd.C_drew ?_))); (case hT => exact (TabW.below HT.out (by repeat (first | (with_reducible first | exact HB.out | apply below_alloc | apply pw_below_drewN | apply below_drew1) | exact HB.out)))); rintro e ws_ ⟨vs, rfl, hos, hb⟩; refine ⟨_, rfl, ?_⟩; have HBs := Aside0.mk (below_step (by repeat (first | (with_reducible first | exact HB.out | apply below_alloc | apply pw_below_drewN | apply below_drew1) | exact HB.out)) hb); have HOS := Aside0.mk hos; have HWC := Aside0.mk (show ws.length ≤ c12 from (by have h_ := (Kd.R_reads' HOW.out).2.1; rw [← WR.out.length]; exact h_)); have HCW := Aside0.mk (want_C HBs.out WR.out (Kd.C_below (w := _) (by (with_reducible repeat (first | apply Kd.C_alloc | apply Kd.C_drewN | apply Kd.C_drew)); exact (Kd.R_reads' HOW.out).2.2) hb)); clear hos hb; obtain ⟨As, cs, es⟩ := Kd.S_slice HOS.out; subst es) | ((with_reducible refine gate_callee (f := 23) rfl ?_); refine goesL_ (some 136) rfl rfl Tryd.func23 (by kernel_rfl) rfl #[] rfl (by (try simp only [List.map_toArray, List.map_cons, List.map_nil]); first | done | rfl) ?_; refine (grapevinelaw01_lives.calls k true _ (TabW.below HT.out (by repeat (first | (with_reducible first | exact HBs.out | apply below_alloc | apply pw_below_drewN | apply below_drew1) | exact HBs.out))) HL.out).mono ?_; rintro e wl ⟨rfl, hb⟩; refine ⟨_, rfl, ?_⟩; have HBl := Aside0.mk (below_step (by repeat (first | (with_reducible first | exact HBs.out | apply below_alloc | apply pw_below_drewN | apply below_drew1) | exact HBs.out)) hb); have n0_ := Aside0.mk (Kd.S_below HOS.out hb); have n1_ := Aside0.mk (Kd.C_below HCW.out hb); clear HOS HCW; have HOS := n0_; have HCW := n1_; clear n0_ n1_; clear hb) | ((with_reducible refine gate_callee (f := 29) rfl ?_); (refine gate_guard (by rfl) ?_; dsimp only); refine goesL_ (some 144) rfl rfl Tryd.func29 (by kernel_rfl) rfl #[.slice As r1.length cs, .slice A12 ps.length c12] rfl (by (try simp only [List.map_toArray, List.map_cons, List.map_nil]); first | done | rfl) ?_; refine calls_of_args (args' := #[.slice As r1.length cs, .slice A12 ws.length c12]) (by rw [WR.out.length]) ?_; refine (grapevineref01_SameAll.calls k _ cs r1 _ c12 ws true _ ?hC (Kd.S_reads' HOS.out).2.1 ?hD HWC.out HSA.out).mono ?_; (case hC => repeat (first | exact (Kd.S_reads' HOS.out).2.2 | (with_reducible refine Kd.C_alloc ?_ _) | (with_reducible refine Kd.C_drewN ?_ _) | (with_reducible refine Kd.C_drew ?_))); (case hD => repeat (first | exact HCW.out | (with_reducible refine Kd.C_alloc ?_ _) | (with_reducible refine Kd.C_drewN ?_ _) | (with_reducible refine Kd.C_drew ?_))); rintro e we ⟨rfl, hb⟩; refine ⟨_, rfl, ?_⟩; have HBe := Aside0.mk (below_step (by repeat (first | (with_reducible first | exact HBl.out | apply below_alloc | apply pw_below_drewN | apply below_drew1) | exact HBl.out)) hb); clear hb))
                    go_ret
                    exact ⟨by first | rfl | (simp; done) | (simp only [hr2c]; rfl) | (simp only [hr2b]; rfl) | (simp [hr2b]; done) | (simp [hr2c]; done), (by repeat (first | (with_reducible first | exact HBe.out | apply below_alloc | apply pw_below_drewN | apply below_drew1) | exact HBe.out))⟩
                  rw [if_pos f1] at H
                  have f1b : decide (i3 < m) = true := decide_eq_true f1
                  by_cases f2 : i3 < 1
                  case neg =>
                    rw [if_neg f2] at H
                    have f2b : decide (i3 < 1) = false := decide_eq_false f2
                    simp only [Option.some.injEq, Prod.mk.injEq] at H
                    obtain ⟨e1, e2⟩ := H
                    subst e1 e2
                    have HG := HGC
                    clear f1 f2
                    obtain ⟨⟨r1, r2, r3⟩, hsc, h4⟩ := Option.bind_eq_some_iff.mp HG.out
                    obtain ⟨t, hl, h5⟩ := Option.bind_eq_some_iff.mp h4
                    obtain ⟨u, hsa, h6⟩ := Option.bind_eq_some_iff.mp h5
                    by_cases hq : t = true ∧ u = true ∧ r3 = 0 ∧ r2 = wrap64 ((x.length : Int) + q3)
                    case neg => exact absurd ((if_neg hq).symm.trans h6) (by simp)
                    have h7 := (if_pos hq).symm.trans h6
                    obtain ⟨rfl, rfl, rfl, hr2⟩ := hq
                    obtain rfl := Option.some.inj h7
                    have HSC := Aside0.mk hsc
                    have HL := Aside0.mk hl
                    have HSA := Aside0.mk (show grapevineref01_SameAll.f k r1 ws = some true from hsa)
                    have hr2b : (r2 == wrap64 ((x.length : Int) + q3)) = true := beq_iff_eq.mpr hr2
                    have hr2c := hr2b
                    (try simp only [Int.add_zero] at hr2c)
                    clear h4 h5 h6 h7 hsc hl hsa HG hr2
                    go_wp2_with (first | ((with_reducible refine gate_callee (f := 27) rfl ?_); refine goesL_ (some 132) rfl rfl Tryd.func27 (by kernel_rfl) rfl #[.slice A9 x3.length c9] rfl (by (try simp only [List.map_toArray, List.map_cons, List.map_nil]); first | done | rfl) ?_; refine (seal_Scan.calls k _ c9 x3 r1 r2 0 _ ?hC (Kd.R_reads' HO.out).2.1 ?hT HSC.out).mono ?_; (case hC => repeat (first | exact (Kd.R_reads' HO.out).2.2 | (with_reducible refine Kd.C_alloc ?_ _) | (with_reducible refine Kd.C_drewN ?_ _) | (with_reducible refine Kd.C_drew ?_))); (case hT => exact (TabW.below HT.out (by repeat (first | (with_reducible first | exact HB.out | apply below_alloc | apply pw_below_drewN | apply below_drew1) | exact HB.out)))); rintro e ws_ ⟨vs, rfl, hos, hb⟩; refine ⟨_, rfl, ?_⟩; have HBs := Aside0.mk (below_step (by repeat (first | (with_reducible first | exact HB.out | apply below_alloc | apply pw_below_drewN | apply below_drew1) | exact HB.out)) hb); have HOS := Aside0.mk hos; have HWC := Aside0.mk (show ws.length ≤ c12 from (by have h_ := (Kd.R_reads' HOW.out).2.1; rw [← WR.out.length]; exact h_)); have HCW := Aside0.mk (want_C HBs.out WR.out (Kd.C_below (w := _) (by (with_reducible repeat (first | apply Kd.C_alloc | apply Kd.C_drewN | apply Kd.C_drew)); exact (Kd.R_reads' HOW.out).2.2) hb)); clear hos hb; obtain ⟨As, cs, es⟩ := Kd.S_slice HOS.out; subst es) | ((with_reducible refine gate_callee (f := 23) rfl ?_); refine goesL_ (some 136) rfl rfl Tryd.func23 (by kernel_rfl) rfl #[] rfl (by (try simp only [List.map_toArray, List.map_cons, List.map_nil]); first | done | rfl) ?_; refine (grapevinelaw01_lives.calls k true _ (TabW.below HT.out (by repeat (first | (with_reducible first | exact HBs.out | apply below_alloc | apply pw_below_drewN | apply below_drew1) | exact HBs.out))) HL.out).mono ?_; rintro e wl ⟨rfl, hb⟩; refine ⟨_, rfl, ?_⟩; have HBl := Aside0.mk (below_step (by repeat (first | (with_reducible first | exact HBs.out | apply below_alloc | apply pw_below_drewN | apply below_drew1) | exact HBs.out)) hb); have n0_ := Aside0.mk (Kd.S_below HOS.out hb); have n1_ := Aside0.mk (Kd.C_below HCW.out hb); clear HOS HCW; have HOS := n0_; have HCW := n1_; clear n0_ n1_; clear hb) | ((with_reducible refine gate_callee (f := 29) rfl ?_); (refine gate_guard (by rfl) ?_; dsimp only); refine goesL_ (some 144) rfl rfl Tryd.func29 (by kernel_rfl) rfl #[.slice As r1.length cs, .slice A12 ps.length c12] rfl (by (try simp only [List.map_toArray, List.map_cons, List.map_nil]); first | done | rfl) ?_; refine calls_of_args (args' := #[.slice As r1.length cs, .slice A12 ws.length c12]) (by rw [WR.out.length]) ?_; refine (grapevineref01_SameAll.calls k _ cs r1 _ c12 ws true _ ?hC (Kd.S_reads' HOS.out).2.1 ?hD HWC.out HSA.out).mono ?_; (case hC => repeat (first | exact (Kd.S_reads' HOS.out).2.2 | (with_reducible refine Kd.C_alloc ?_ _) | (with_reducible refine Kd.C_drewN ?_ _) | (with_reducible refine Kd.C_drew ?_))); (case hD => repeat (first | exact HCW.out | (with_reducible refine Kd.C_alloc ?_ _) | (with_reducible refine Kd.C_drewN ?_ _) | (with_reducible refine Kd.C_drew ?_))); rintro e we ⟨rfl, hb⟩; refine ⟨_, rfl, ?_⟩; have HBe := Aside0.mk (below_step (by repeat (first | (with_reducible first | exact HBl.out | apply below_alloc | apply pw_below_drewN | apply below_drew1) | exact HBl.out)) hb); clear hb))
                    go_ret
                    exact ⟨by first | rfl | (simp; done) | (simp only [hr2c]; rfl) | (simp only [hr2b]; rfl) | (simp [hr2b]; done) | (simp [hr2c]; done), (by repeat (first | (with_reducible first | exact HBe.out | apply below_alloc | apply pw_below_drewN | apply below_drew1) | exact HBe.out))⟩
                  rw [if_pos f2] at H
                  have f2b : decide (i3 < 1) = true := decide_eq_true f2
                  by_cases f3 : 0 ≤ i3 ∧ i3 < (y.length : Int)
                  case neg => rw [if_neg f3] at H; exact absurd H (by simp)
                  rw [if_pos f3] at H
                  by_cases f4 : x3.length < 140737488355328
                  case neg => rw [if_neg f4] at H; exact absurd H (by simp)
                  rw [if_pos f4] at H
                  have HN := Aside0.mk H
                  have HLN := Aside0.mk f4
                  have hyc := Kd.R_celln (0 : Int) HOY.out i3 f3.1 f3.2
                  have hyi : wr.cell? ⟨gy, i3.toNat, none⟩ = some (.int .u8 (rd y i3)) := hyc.1
                  have pi3 := eq_true f3.1
                  have qi3 := eq_true f3.2
                  clear H hyc f1 f2 f3 f4
                  go_wp2_with (((with_reducible refine gate_builtin (b := .append) (xs := #[.tmp 121, .tmp 126]) rfl ?_); at_builtin; refine Kd.R_append (Kd.int .u8) (w0 := w) w.heap.size rfl (.tmp 121) (.tmp 126) 23 5 (.int .u8 0) 1 rfl Tryd.underlying23 info5 rfl (by decide) (by omega) (.slice A9 x3.length c9) x3 (rd y i3) [.int .u8 (rd y i3)] (fun _ => True) (fun _ => False) rfl rfl rfl (fun _ hk => hk.elim) (fun _ _ => trivial) (by (with_reducible repeat (first | apply Kd.R_alloc | apply Kd.R_drewN | apply Kd.R_drew)); exact HO.out) (by repeat (first | (with_reducible first | exact HB.out | apply below_alloc | apply pw_below_drewN | apply below_drew1) | exact HB.out)) (below_size (by repeat (first | (with_reducible first | exact HB.out | apply below_alloc | apply pw_below_drewN | apply below_drew1) | exact HB.out))) (by have := HLN.out; omega) ?_; intro v9n w7 ho hb hg hat; have HO7 := Aside0.mk ho; have HB7 := Aside0.mk hb; have HOW7 := Aside0.mk (Kd.R_grown2 (by (with_reducible repeat (first | apply Kd.R_alloc | apply Kd.R_drewN | apply Kd.R_drew)); exact HOW.out) rfl hg (fun k_ e_ e2_ => (NY.out k_ e_).1 e2_)); have HOY7 := Aside0.mk (Kd.R_grown2 (by (with_reducible repeat (first | apply Kd.R_alloc | apply Kd.R_drewN | apply Kd.R_drew)); exact HOY.out) rfl hg (fun k_ e_ e2_ => (NY.out k_ e_).2 e2_)); have NY2 := Aside0.mk (show ∀ k_, Value.ownBlock v9n = some k_ → some k_ ≠ Value.ownBlock (.slice A12 ps.length c12) ∧ some k_ ≠ Value.ownBlock (.slice (some ⟨gy, 0, none⟩) y.length cb) from fun k_ e_ => (by rcases hat with hat | ⟨b_, hb_, hle_⟩; (exact NY.out k_ (hat ▸ e_)); (rw [hb_] at e_; injection e_ with e3_; subst e3_; exact ⟨fun e4_ => absurd (Kd.R_lt (by (with_reducible repeat (first | apply Kd.R_alloc | apply Kd.R_drewN | apply Kd.R_drew)); exact HOW.out) _ e4_.symm) (Nat.not_lt.2 hle_), fun e4_ => absurd (Kd.R_lt (by (with_reducible repeat (first | apply Kd.R_alloc | apply Kd.R_drewN | apply Kd.R_drew)); exact HOY.out) _ e4_.symm) (Nat.not_lt.2 hle_)⟩))); clear ho hb hg hat))
                  go_roundg k3
                  case measure => have := HK.out; omega
                  case rel => exact ⟨_, _, _, rfl, rfl, HN, ⟨by have := HK.out; omega⟩, ⟨(by (with_reducible repeat (first | apply Kd.R_alloc | apply Kd.R_drewN | apply Kd.R_drew)); exact HO7.out)⟩, ⟨(by (with_reducible repeat (first | apply Kd.R_alloc | apply Kd.R_drewN | apply Kd.R_drew)); exact HOW7.out)⟩, ⟨(by (with_reducible repeat (first | apply Kd.R_alloc | apply Kd.R_drewN | apply Kd.R_drew)); exact HOY7.out)⟩, NY2, ⟨(by repeat (first | (with_reducible first | exact HB7.out | apply below_alloc | apply pw_below_drewN | apply below_drew1) | exact HB7.out))⟩⟩
            rw [if_pos d2] at H
            have d2b : decide (i' < 20) = true := decide_eq_true d2
            by_cases d3 : 0 ≤ i'
            case neg => rw [if_neg d3] at H; exact absurd H (by simp)
            rw [if_pos d3] at H
            obtain ⟨⟨b, pe⟩, hs1, H2⟩ := Option.bind_eq_some_iff.mp H
            have HS1 := Aside0.mk hs1
            obtain ⟨adl, Ab0, cb0, eA, hx_, hbl_, hbc_⟩ := at_L2 HR1.out i' d3 d1
            cases eA
            have HCB0 := Aside0.mk hbc_
            have HCB0L := Aside0.mk hbl_
            have hxi' := (HB.out.cell (World.block_lt_of_cell? w _ hx_)).trans hx_
            have HXW := Aside0.mk hx_
            have pi' := eq_true d3
            have qi' := eq_true d1
            clear hs1 H hx_ hbl_ hbc_ d1 d2 d3
            by_cases d4 : pe = 0
            case neg =>
              have HN := Aside0.mk (show grapevinelaw01_SealFinds.l1 k2 l1 x' ws (wrap64 (i' + 1)) = some (xb, wb) from (if_neg d4).symm.trans H2)
              have d4b : (pe == 0) = false := beq_eq_false_iff_ne.mpr d4
              clear d4 H2
              go_wp2_with (((with_reducible refine gate_callee (f := 21) rfl ?_); refine goesL_ (some 68) rfl rfl Tryd.func21 (by kernel_rfl) rfl #[.int .u8 (i' % 256), .slice Ab0 (rd_L2 l1 i').length cb0] rfl (by (try simp only [List.map_toArray, List.map_cons, List.map_nil]); first | done | rfl) ?_; refine (seal_Seal.calls k2 (i' % 256) _ cb0 _ b pe _ ?hC HCB0L.out (TabW.below HT.out (by repeat (first | (with_reducible first | exact HB.out | apply below_alloc | apply pw_below_drewN | apply below_drew1) | exact HB.out))) HS1.out).mono ?_; (case hC => with_reducible repeat (first | exact (Kd.C_below HCB0.out HB.out) | refine Kd.C_alloc ?_ _ | refine Kd.C_drewN ?_ _ | refine Kd.C_drew ?_)); rintro e w3 ⟨vb, rfl, ho, hb⟩; refine ⟨_, rfl, ?_⟩; have HBn := Aside0.mk (below_step (by repeat (first | (with_reducible first | exact HB.out | apply below_alloc | apply pw_below_drewN | apply below_drew1) | exact HB.out)) hb); have HOB := Aside0.mk (Kd.R_lower ho (below_size (by repeat (first | (with_reducible first | exact HB.out | apply below_alloc | apply pw_below_drewN | apply below_drew1) | exact HB.out)))); have n0_ := Aside0.mk (Kd.R_below (by (with_reducible repeat (first | apply Kd.R_alloc | apply Kd.R_drewN | apply Kd.R_drew)); exact HO.out) hb); have n1_ := Aside0.mk (Kd.R_below (by (with_reducible repeat (first | apply Kd.R_alloc | apply Kd.R_drewN | apply Kd.R_drew)); exact HOW.out) hb); have NB0 := Aside0.mk (show ∀ k_, Value.ownBlock vb = some k_ → some k_ ≠ Value.ownBlock (.slice A9 x'.length c9 : Value) ∧ some k_ ≠ Value.ownBlock (.slice A12 ps.length c12 : Value) from fun k_ e_ => (by have g1_ := Kd.R_base ho k_ e_; exact ⟨fun e2_ => absurd (Kd.R_lt (by (with_reducible repeat (first | apply Kd.R_alloc | apply Kd.R_drewN | apply Kd.R_drew)); exact HO.out) k_ e2_.symm) (Nat.not_lt.2 g1_), fun e2_ => absurd (Kd.R_lt (by (with_reducible repeat (first | apply Kd.R_alloc | apply Kd.R_drewN | apply Kd.R_drew)); exact HOW.out) k_ e2_.symm) (Nat.not_lt.2 g1_)⟩)); clear HO HOW HB; have HO := n0_; have HOW := n1_; have HB := HBn; clear n0_ n1_ HBn; clear ho hb; obtain ⟨Ab, cb, eb⟩ := Kd.R_slice HOB.out; subst eb))
              go_roundg k2
              case measure => have := HK.out; omega
              case rel => exact ⟨x', ps, ws, _, rfl, HN, ⟨by have := HK.out; omega⟩, ⟨(by (with_reducible repeat (first | apply Kd.R_alloc | apply Kd.R_drewN | apply Kd.R_drew)); exact HO.out)⟩, ⟨(by (with_reducible repeat (first | apply Kd.R_alloc | apply Kd.R_drewN | apply Kd.R_drew)); exact HOW.out)⟩, NE, WR, ⟨(by repeat (first | (with_reducible first | exact HB.out | apply below_alloc | apply pw_below_drewN | apply below_drew1) | exact HB.out))⟩⟩
            subst d4
            have H3_ : (if wrap64 ((x'.length : Int) + (b.length : Int)) ≤ 8000 then (if x'.length + b.length < 140737488355328 ∧ ws.length < 3518437208882 then grapevinelaw01_SealFinds.l1 k2 l1 (x' ++ b) (ws ++ [⟨i' % 256, (x'.length : Int), rd_L2 l1 i'⟩]) (wrap64 (i' + 1)) else none) else grapevinelaw01_SealFinds.l1 k2 l1 x' ws (wrap64 (i' + 1))) = some (xb, wb) := (if_pos rfl).symm.trans H2
            clear H2
            by_cases d5 : wrap64 ((x'.length : Int) + (b.length : Int)) ≤ 8000
            case neg =>
              rw [if_neg d5] at H3_
              have HN := Aside0.mk H3_
              have d5b : decide (wrap64 ((x'.length : Int) + (b.length : Int)) ≤ 8000) = false := decide_eq_false d5
              clear d5 H3_
              go_wp2_with (((with_reducible refine gate_callee (f := 21) rfl ?_); refine goesL_ (some 68) rfl rfl Tryd.func21 (by kernel_rfl) rfl #[.int .u8 (i' % 256), .slice Ab0 (rd_L2 l1 i').length cb0] rfl (by (try simp only [List.map_toArray, List.map_cons, List.map_nil]); first | done | rfl) ?_; refine (seal_Seal.calls k2 (i' % 256) _ cb0 _ b 0 _ ?hC HCB0L.out (TabW.below HT.out (by repeat (first | (with_reducible first | exact HB.out | apply below_alloc | apply pw_below_drewN | apply below_drew1) | exact HB.out))) HS1.out).mono ?_; (case hC => with_reducible repeat (first | exact (Kd.C_below HCB0.out HB.out) | refine Kd.C_alloc ?_ _ | refine Kd.C_drewN ?_ _ | refine Kd.C_drew ?_)); rintro e w3 ⟨vb, rfl, ho, hb⟩; refine ⟨_, rfl, ?_⟩; have HBn := Aside0.mk (below_step (by repeat (first | (with_reducible first | exact HB.out | apply below_alloc | apply pw_below_drewN | apply below_drew1) | exact HB.out)) hb); have HOB := Aside0.mk (Kd.R_lower ho (below_size (by repeat (first | (with_reducible first | exact HB.out | apply below_alloc | apply pw_below_drewN | apply below_drew1) | exact HB.out)))); have n0_ := Aside0.mk (Kd.R_below (by (with_reducible repeat (first | apply Kd.R_alloc | apply Kd.R_drewN | apply Kd.R_drew)); exact HO.out) hb); have n1_ := Aside0.mk (Kd.R_below (by (with_reducible repeat (first | apply Kd.R_alloc | apply Kd.R_drewN | apply Kd.R_drew)); exact HOW.out) hb); have NB0 := Aside0.mk (show ∀ k_, Value.ownBlock vb = some k_ → some k_ ≠ Value.ownBlock (.slice A9 x'.length c9 : Value) ∧ some k_ ≠ Value.ownBlock (.slice A12 ps.length c12 : Value) from fun k_ e_ => (by have g1_ := Kd.R_base ho k_ e_; exact ⟨fun e2_ => absurd (Kd.R_lt (by (with_reducible repeat (first | apply Kd.R_alloc | apply Kd.R_drewN | apply Kd.R_drew)); exact HO.out) k_ e2_.symm) (Nat.not_lt.2 g1_), fun e2_ => absurd (Kd.R_lt (by (with_reducible repeat (first | apply Kd.R_alloc | apply Kd.R_drewN | apply Kd.R_drew)); exact HOW.out) k_ e2_.symm) (Nat.not_lt.2 g1_)⟩)); clear HO HOW HB; have HO := n0_; have HOW := n1_; have HB := HBn; clear n0_ n1_ HBn; clear ho hb; obtain ⟨Ab, cb, eb⟩ := Kd.R_slice HOB.out; subst eb))
              go_roundg k2
              case measure => have := HK.out; omega
              case rel => exact ⟨x', ps, ws, _, rfl, HN, ⟨by have := HK.out; omega⟩, ⟨(by (with_reducible repeat (first | apply Kd.R_alloc | apply Kd.R_drewN | apply Kd.R_drew)); exact HO.out)⟩, ⟨(by (with_reducible repeat (first | apply Kd.R_alloc | apply Kd.R_drewN | apply Kd.R_drew)); exact HOW.out)⟩, NE, WR, ⟨(by repeat (first | (with_reducible first | exact HB.out | apply below_alloc | apply pw_below_drewN | apply below_drew1) | exact HB.out))⟩⟩
            rw [if_pos d5] at H3_
            by_cases d6 : x'.length + b.length < 140737488355328 ∧ ws.length < 3518437208882
            case neg => rw [if_neg d6] at H3_; exact absurd H3_ (by simp)
            rw [if_pos d6] at H3_
            have HN := Aside0.mk H3_
            have HLN := Aside0.mk d6
            have d5b : decide (wrap64 ((x'.length : Int) + (b.length : Int)) ≤ 8000) = true := decide_eq_true d5
            clear d5 d6 H3_
            go_wp2_with (first | ((with_reducible refine gate_callee (f := 21) rfl ?_); refine goesL_ (some 68) rfl rfl Tryd.func21 (by kernel_rfl) rfl #[.int .u8 (i' % 256), .slice Ab0 (rd_L2 l1 i').length cb0] rfl (by (try simp only [List.map_toArray, List.map_cons, List.map_nil]); first | done | rfl) ?_; refine (seal_Seal.calls k2 (i' % 256) _ cb0 _ b 0 _ ?hC HCB0L.out (TabW.below HT.out (by repeat (first | (with_reducible first | exact HB.out | apply below_alloc | apply pw_below_drewN | apply below_drew1) | exact HB.out))) HS1.out).mono ?_; (case hC => with_reducible repeat (first | exact (Kd.C_below HCB0.out HB.out) | refine Kd.C_alloc ?_ _ | refine Kd.C_drewN ?_ _ | refine Kd.C_drew ?_)); rintro e w3 ⟨vb, rfl, ho, hb⟩; refine ⟨_, rfl, ?_⟩; have HBn := Aside0.mk (below_step (by repeat (first | (with_reducible first | exact HB.out | apply below_alloc | apply pw_below_drewN | apply below_drew1) | exact HB.out)) hb); have HOB := Aside0.mk (Kd.R_lower ho (below_size (by repeat (first | (with_reducible first | exact HB.out | apply below_alloc | apply pw_below_drewN | apply below_drew1) | exact HB.out)))); have n0_ := Aside0.mk (Kd.R_below (by (with_reducible repeat (first | apply Kd.R_alloc | apply Kd.R_drewN | apply Kd.R_drew)); exact HO.out) hb); have n1_ := Aside0.mk (Kd.R_below (by (with_reducible repeat (first | apply Kd.R_alloc | apply Kd.R_drewN | apply Kd.R_drew)); exact HOW.out) hb); have NB0 := Aside0.mk (show ∀ k_, Value.ownBlock vb = some k_ → some k_ ≠ Value.ownBlock (.slice A9 x'.length c9 : Value) ∧ some k_ ≠ Value.ownBlock (.slice A12 ps.length c12 : Value) from fun k_ e_ => (by have g1_ := Kd.R_base ho k_ e_; exact ⟨fun e2_ => absurd (Kd.R_lt (by (with_reducible repeat (first | apply Kd.R_alloc | apply Kd.R_drewN | apply Kd.R_drew)); exact HO.out) k_ e2_.symm) (Nat.not_lt.2 g1_), fun e2_ => absurd (Kd.R_lt (by (with_reducible repeat (first | apply Kd.R_alloc | apply Kd.R_drewN | apply Kd.R_drew)); exact HOW.out) k_ e2_.symm) (Nat.not_lt.2 g1_)⟩)); clear HO HOW HB; have HO := n0_; have HOW := n1_; have HB := HBn; clear n0_ n1_ HBn; clear ho hb; obtain ⟨Ab, cb, eb⟩ := Kd.R_slice HOB.out; subst eb; have hxi3 := (HB.out.cell (World.block_lt_of_cell? w _ HXW.out)).trans HXW.out) | ((with_reducible refine gate_builtin (b := .append) (xs := #[.tmp 81, .tmp 91]) rfl ?_); at_builtin; refine Kd.R_append KdW (w0 := w) w.heap.size rfl (.tmp 81) (.tmp 91) 51 39 (.agg #[.int .u8 0, .int .i64 0, .slice none 0 0]) 40 rfl Tryd.underlying51 info39 rfl (by decide) (by omega) (.slice A12 ps.length c12 : Value) ps (i' % 256, (x'.length : Int), (Ab0, (rd_L2 l1 i').length, cb0)) [.int .u8 (i' % 256), .int .i64 (x'.length : Int), .slice Ab0 (rd_L2 l1 i').length cb0] (fun _ => True) (fun _ => False) rfl rfl ⟨[.int .u8 (i' % 256)], [.int .i64 (x'.length : Int), .slice Ab0 (rd_L2 l1 i').length cb0], rfl, rfl, ⟨[.int .i64 (x'.length : Int)], [.slice Ab0 (rd_L2 l1 i').length cb0], rfl, rfl, rfl⟩⟩ (fun _ hk => hk.elim) (fun _ _ => trivial) (by (with_reducible repeat (first | apply Kd.R_alloc | apply Kd.R_drewN | apply Kd.R_drew)); exact HOW.out) (by repeat (first | (with_reducible first | exact HB.out | apply below_alloc | apply pw_below_drewN | apply below_drew1) | exact HB.out)) (below_size (by repeat (first | (with_reducible first | exact HB.out | apply below_alloc | apply pw_below_drewN | apply below_drew1) | exact HB.out))) (by have h1_ := HLN.out; have h2_ := WR.out.length; omega) ?_; intro v12n w4 ho hb hg hat; have n0_ := Aside0.mk (Kd.R_grown2 (by (with_reducible repeat (first | apply Kd.R_alloc | apply Kd.R_drewN | apply Kd.R_drew)); exact HO.out) rfl hg (fun k_ e_ e2_ => NE.out k_ e2_.symm e_.symm)); have n1_ := Aside0.mk (Kd.R_grown2 (by (with_reducible repeat (first | apply Kd.R_alloc | apply Kd.R_drewN | apply Kd.R_drew)); exact HOB.out) rfl hg (fun k_ e_ e2_ => (NB0.out k_ e2_.symm).2 e_.symm)); have NE2 := Aside0.mk (show ∀ k_, Value.ownBlock (.slice A9 x'.length c9 : Value) = some k_ → some k_ ≠ Value.ownBlock v12n from fun k_ e_ e2_ => (by rcases hat with hat | ⟨b_, hb_, hle_⟩; (exact NE.out k_ e_ (e2_.trans hat)); (rw [hb_] at e2_; injection e2_ with e3_; subst e3_; exact absurd (Kd.R_lt (by (with_reducible repeat (first | apply Kd.R_alloc | apply Kd.R_drewN | apply Kd.R_drew)); exact HO.out) _ e_) (Nat.not_lt.2 hle_)))); have WR2 := Aside0.mk (WR.out.snoc (p := (i' % 256, (x'.length : Int), (Ab0, (rd_L2 l1 i').length, cb0))) (s := ⟨i' % 256, (x'.length : Int), rd_L2 l1 i'⟩) ⟨rfl, rfl, rfl, HCB0L.out, HCB0.out⟩); have HOW2 := Aside0.mk ho; have HB2 := Aside0.mk hb; clear HO HOB HOW HB; have HO := n0_; have HOB := n1_; have HB := HB2; clear n0_ n1_ HB2; clear ho hb hg hat) | ((with_reducible refine gate_builtin (b := .append) (xs := #[.tmp 93, .tmp 94]) rfl ?_); at_builtin; refine Kd.R_append_rows (Kd.int .u8) (w0 := w) w.heap.size rfl (.tmp 93) (.tmp 94) 23 5 (.int .u8 0) 1 rfl Tryd.underlying23 info5 rfl (by decide) (by omega) (.slice A9 x'.length c9 : Value) x' b _ _ _ (fun _ => True) (fun _ => False) rfl rfl ?aO ?aR (fun _ _ h => h) (fun _ h => h.elim) ?aF ?aB ?aS ?aL ?_; (case aR => repeat (first | exact (Kd.R_reads' HOB.out).2.2 | (with_reducible refine Kd.C_alloc ?_ _) | (with_reducible refine Kd.C_drewN ?_ _) | (with_reducible refine Kd.C_drew ?_))); (case aB => exact (by repeat (first | (with_reducible first | exact HB.out | apply below_alloc | apply pw_below_drewN | apply below_drew1) | exact HB.out))); (case aF => exact (fun _ _ => trivial)); (case aO => exact (by (with_reducible repeat (first | apply Kd.R_alloc | apply Kd.R_drewN | apply Kd.R_drew)); exact HO.out)); (case aS => exact (below_size (by repeat (first | (with_reducible first | exact HB.out | apply below_alloc | apply pw_below_drewN | apply below_drew1) | exact HB.out)))); (case aL => (have := HLN.out; omega)); intro v9n w5 ho hb hg hat; have HOW3 := Aside0.mk (Kd.R_grown2 (by (with_reducible repeat (first | apply Kd.R_alloc | apply Kd.R_drewN | apply Kd.R_drew)); exact HOW2.out) rfl hg (fun k_ e_ e2_ => NE2.out k_ e_ e2_)); have NE3 := Aside0.mk (show ∀ k_, Value.ownBlock v9n = some k_ → some k_ ≠ Value.ownBlock v12n from fun k_ e_ e2_ => (by rcases hat with hat | ⟨b_, hb_, hle_⟩; (exact NE2.out k_ (hat ▸ e_) e2_); (rw [hb_] at e_; injection e_ with e3_; subst e3_; exact absurd (Kd.R_lt (by (with_reducible repeat (first | apply Kd.R_alloc | apply Kd.R_drewN | apply Kd.R_drew)); exact HOW2.out) _ e2_.symm) (Nat.not_lt.2 hle_)))); have HO3 := Aside0.mk ho; have HB3 := Aside0.mk hb; clear HO HOB; clear ho hb hg hat))
            go_roundg k2
            case measure => have := HK.out; omega
            case rel => exact ⟨_, _, _, _, rfl, HN, ⟨by have := HK.out; omega⟩, ⟨(by (with_reducible repeat (first | apply Kd.R_alloc | apply Kd.R_drewN | apply Kd.R_drew)); exact HO3.out)⟩, ⟨(by (with_reducible repeat (first | apply Kd.R_alloc | apply Kd.R_drewN | apply Kd.R_drew)); exact HOW3.out)⟩, NE3, WR2, ⟨(by repeat (first | (with_reducible first | exact HB3.out | apply below_alloc | apply pw_below_drewN | apply below_drew1) | exact HB3.out))⟩⟩
      rw [if_pos c1] at H
      have c1b : decide (i < (l0.length : Int)) = true := decide_eq_true c1
      by_cases c2 : i < 500
      case neg =>
        rw [if_neg c2] at H
        have c2b : decide (i < 500) = false := decide_eq_false c2
        have ex := Option.some.inj H
        subst ex
        clear c1 c2 H
        obtain ⟨A9, c9, e9⟩ := Kd.R_slice HO.out
        subst e9
        go_wp2
        go_loopg [9, 12, 13] k (fun kq v9 v12 v13 w' => ∃ (x' : List Int) (ps : List WE) (ws : List S39) (i' : Int), v13 = .int .i64 i' ∧ Aside0 (grapevinelaw01_SealFinds.l1 kq l1 x' ws i' = some (xb, wb)) ∧ Aside0 (kq ≤ k) ∧ Aside0 (Kd.R (Kd.int .u8) 5 w' w.heap.size (fun _ => True) v9 x') ∧ Aside0 (KdW.R 39 w' w.heap.size (fun _ => True) v12 ps) ∧ Aside0 (∀ k_, Value.ownBlock v9 = some k_ → some k_ ≠ Value.ownBlock v12) ∧ Aside0 (WRels w ps ws) ∧ Aside0 (Below w.heap.size w w'))
        case atStart => exact ⟨x, [], [], 0, rfl, HW, ⟨Nat.le_refl _⟩, HO, ⟨Kd.R_nil _ _ _ _ _⟩, ⟨fun _ _ e_ => by simp [Value.ownBlock] at e_⟩, ⟨.nil⟩, HB⟩
        case round =>
          clear HO HB HK
          obtain ⟨x', ps, ws, i', rfl, HA, HK, HO, HOW, NE, WR, HB⟩ := hrel
          obtain ⟨A9, c9, e9⟩ := Kd.R_slice HO.out
          subst e9
          obtain ⟨A12, c12, e12⟩ := Kd.R_slice HOW.out
          subst e12
          cases gk with
          | zero => exact absurd HA.out (by simp [grapevinelaw01_SealFinds.l1])
          | succ k2 =>
            have H := HA.out
            clear HA
            simp only [grapevinelaw01_SealFinds.l1] at H
            by_cases d1 : i' < (l1.length : Int)
            case neg =>
              rw [if_neg d1] at H
              have d1b : decide (i' < (l1.length : Int)) = false := decide_eq_false d1
              simp only [Option.some.injEq, Prod.mk.injEq] at H
              obtain ⟨e1, e2⟩ := H
              subst e1 e2
              clear d1
              by_cases hp : p2 = 0
              case neg =>
                have HG := Aside0.mk (show grapevinelaw01_SealFinds.g k x' ws (x.length : Int) 0 = some r from (if_neg hp).symm.trans H3.out)
                have hpb : (p2 == 0) = false := beq_eq_false_iff_ne.mpr hp
                clear hp
                obtain ⟨⟨r1, r2, r3⟩, hsc, h4⟩ := Option.bind_eq_some_iff.mp HG.out
                obtain ⟨t, hl, h5⟩ := Option.bind_eq_some_iff.mp h4
                obtain ⟨u, hsa, h6⟩ := Option.bind_eq_some_iff.mp h5
                by_cases hq : t = true ∧ u = true ∧ r3 = 0 ∧ r2 = wrap64 ((x.length : Int) + 0)
                case neg => exact absurd ((if_neg hq).symm.trans h6) (by simp)
                have h7 := (if_pos hq).symm.trans h6
                obtain ⟨rfl, rfl, rfl, hr2⟩ := hq
                obtain rfl := Option.some.inj h7
                have HSC := Aside0.mk hsc
                have HL := Aside0.mk hl
                have HSA := Aside0.mk (show grapevineref01_SameAll.f k r1 ws = some true from hsa)
                have hr2b : (r2 == wrap64 ((x.length : Int) + 0)) = true := beq_iff_eq.mpr hr2
                have hr2c := hr2b
                (try simp only [Int.add_zero] at hr2c)
                clear h4 h5 h6 h7 hsc hl hsa HG hr2
                go_wp2_with (first | ((with_reducible refine gate_callee (f := 21) rfl ?_); refine goesL_ (some 98) rfl rfl Tryd.func21 (by kernel_rfl) rfl #[.int .u8 9, .slice A2_0 l2_0.length c2_0] rfl (by (try simp only [List.map_toArray, List.map_cons, List.map_nil]); first | done | rfl) ?_; refine (seal_Seal.calls k 9 _ c2_0 _ y p2 _ ?hC HC2.out (TabW.below HT.out (by repeat (first | (with_reducible first | exact HB.out | apply below_alloc | apply pw_below_drewN | apply below_drew1) | exact HB.out))) HS.out).mono ?_; (case hC => with_reducible repeat (first | exact (Kd.C_below HR2.out HB.out) | refine Kd.C_alloc ?_ _ | refine Kd.C_drewN ?_ _ | refine Kd.C_drew ?_)); rintro e w6 ⟨vb, rfl, ho, hb⟩; refine ⟨_, rfl, ?_⟩; have HBn := Aside0.mk (below_step (by repeat (first | (with_reducible first | exact HB.out | apply below_alloc | apply pw_below_drewN | apply below_drew1) | exact HB.out)) hb); have HOB := Aside0.mk (Kd.R_lower ho (below_size (by repeat (first | (with_reducible first | exact HB.out | apply below_alloc | apply pw_below_drewN | apply below_drew1) | exact HB.out)))); have n0_ := Aside0.mk (Kd.R_below (by (with_reducible repeat (first | apply Kd.R_alloc | apply Kd.R_drewN | apply Kd.R_drew)); exact HO.out) hb); have n1_ := Aside0.mk (Kd.R_below (by (with_reducible repeat (first | apply Kd.R_alloc | apply Kd.R_drewN | apply Kd.R_drew)); exact HOW.out) hb); have NB0 := Aside0.mk (show ∀ k_, Value.ownBlock vb = some k_ → some k_ ≠ Value.ownBlock (.slice A9 x'.length c9 : Value) ∧ some k_ ≠ Value.ownBlock (.slice A12 ps.length c12 : Value) from fun k_ e_ => (by have g1_ := Kd.R_base ho k_ e_; exact ⟨fun e2_ => absurd (Kd.R_lt (by (with_reducible repeat (first | apply Kd.R_alloc | apply Kd.R_drewN | apply Kd.R_drew)); exact HO.out) k_ e2_.symm) (Nat.not_lt.2 g1_), fun e2_ => absurd (Kd.R_lt (by (with_reducible repeat (first | apply Kd.R_alloc | apply Kd.R_drewN | apply Kd.R_drew)); exact HOW.out) k_ e2_.symm) (Nat.not_lt.2 g1_)⟩)); clear HO HOW HB; have HO := n0_; have HOW := n1_; have HB := HBn; clear n0_ n1_ HBn; clear ho hb; obtain ⟨Ab, cb, eb⟩ := Kd.R_slice HOB.out; subst eb) | ((with_reducible refine gate_callee (f := 27) rfl ?_); refine goesL_ (some 132) rfl rfl Tryd.func27 (by kernel_rfl) rfl #[.slice A9 x'.length c9] rfl (by (try simp only [List.map_toArray, List.map_cons, List.map_nil]); first | done | rfl) ?_; refine (seal_Scan.calls k _ c9 x' r1 r2 0 _ ?hC (Kd.R_reads' HO.out).2.1 ?hT HSC.out).mono ?_; (case hC => repeat (first | exact (Kd.R_reads' HO.out).2.2 | (with_reducible refine Kd.C_alloc ?_ _) | (with_reducible refine Kd.C_drewN ?_ _) | (with_reducible refine Kd.C_drew ?_))); (case hT => exact (TabW.below HT.out (by repeat (first | (with_reducible first | exact HB.out | apply below_alloc | apply pw_below_drewN | apply below_drew1) | exact HB.out)))); rintro e ws_ ⟨vs, rfl, hos, hb⟩; refine ⟨_, rfl, ?_⟩; have HBs := Aside0.mk (below_step (by repeat (first | (with_reducible first | exact HB.out | apply below_alloc | apply pw_below_drewN | apply below_drew1) | exact HB.out)) hb); have HOS := Aside0.mk hos; have HWC := Aside0.mk (show ws.length ≤ c12 from (by have h_ := (Kd.R_reads' HOW.out).2.1; rw [← WR.out.length]; exact h_)); have HCW := Aside0.mk (want_C HBs.out WR.out (Kd.C_below (w := _) (by (with_reducible repeat (first | apply Kd.C_alloc | apply Kd.C_drewN | apply Kd.C_drew)); exact (Kd.R_reads' HOW.out).2.2) hb)); clear hos hb; obtain ⟨As, cs, es⟩ := Kd.S_slice HOS.out; subst es) | ((with_reducible refine gate_callee (f := 23) rfl ?_); refine goesL_ (some 136) rfl rfl Tryd.func23 (by kernel_rfl) rfl #[] rfl (by (try simp only [List.map_toArray, List.map_cons, List.map_nil]); first | done | rfl) ?_; refine (grapevinelaw01_lives.calls k true _ (TabW.below HT.out (by repeat (first | (with_reducible first | exact HBs.out | apply below_alloc | apply pw_below_drewN | apply below_drew1) | exact HBs.out))) HL.out).mono ?_; rintro e wl ⟨rfl, hb⟩; refine ⟨_, rfl, ?_⟩; have HBl := Aside0.mk (below_step (by repeat (first | (with_reducible first | exact HBs.out | apply below_alloc | apply pw_below_drewN | apply below_drew1) | exact HBs.out)) hb); have n0_ := Aside0.mk (Kd.S_below HOS.out hb); have n1_ := Aside0.mk (Kd.C_below HCW.out hb); clear HOS HCW; have HOS := n0_; have HCW := n1_; clear n0_ n1_; clear hb) | ((with_reducible refine gate_callee (f := 29) rfl ?_); (refine gate_guard (by rfl) ?_; dsimp only); refine goesL_ (some 144) rfl rfl Tryd.func29 (by kernel_rfl) rfl #[.slice As r1.length cs, .slice A12 ps.length c12] rfl (by (try simp only [List.map_toArray, List.map_cons, List.map_nil]); first | done | rfl) ?_; refine calls_of_args (args' := #[.slice As r1.length cs, .slice A12 ws.length c12]) (by rw [WR.out.length]) ?_; refine (grapevineref01_SameAll.calls k _ cs r1 _ c12 ws true _ ?hC (Kd.S_reads' HOS.out).2.1 ?hD HWC.out HSA.out).mono ?_; (case hC => repeat (first | exact (Kd.S_reads' HOS.out).2.2 | (with_reducible refine Kd.C_alloc ?_ _) | (with_reducible refine Kd.C_drewN ?_ _) | (with_reducible refine Kd.C_drew ?_))); (case hD => repeat (first | exact HCW.out | (with_reducible refine Kd.C_alloc ?_ _) | (with_reducible refine Kd.C_drewN ?_ _) | (with_reducible refine Kd.C_drew ?_))); rintro e we ⟨rfl, hb⟩; refine ⟨_, rfl, ?_⟩; have HBe := Aside0.mk (below_step (by repeat (first | (with_reducible first | exact HBl.out | apply below_alloc | apply pw_below_drewN | apply below_drew1) | exact HBl.out)) hb); clear hb))
                go_ret
                exact ⟨by first | rfl | (simp; done) | (simp only [hr2c]; rfl) | (simp only [hr2b]; rfl) | (simp [hr2b]; done) | (simp [hr2c]; done), (by repeat (first | (with_reducible first | exact HBe.out | apply below_alloc | apply pw_below_drewN | apply below_drew1) | exact HBe.out))⟩
              subst hp
              have h8 : (if 0 < y.length then ((grapevinelaw01_SealFinds.l2 k y (Int.tmod (wrap64 a2_1) (y.length : Int)) x' 0 0).bind fun xq => grapevinelaw01_SealFinds.g k xq.1 ws (x.length : Int) xq.2) else none) = some r := (if_pos rfl).symm.trans H3.out
              by_cases hy : 0 < y.length
              case neg => rw [if_neg hy] at h8; exact absurd h8 (by simp)
              rw [if_pos hy] at h8
              obtain ⟨⟨xc, qc⟩, hl2, h9⟩ := Option.bind_eq_some_iff.mp h8
              have HGC := Aside0.mk (show grapevinelaw01_SealFinds.g k xc ws (x.length : Int) qc = some r from h9)
              have HY := Aside0.mk hy
              have hyb : decide (0 < (y.length : Int)) = true := decide_eq_true (by omega)
              have hyn : decide (0 < y.length) = true := decide_eq_true hy
              have hybe : ((y.length : Int) == 0) = false := beq_eq_false_iff_ne.mpr (by omega)
              have hyne : (y.length == 0) = false := beq_eq_false_iff_ne.mpr (by omega)
              have hyd := eq_false (show ¬ y.length = 0 by omega)
              have hyf := eq_false (show ¬ (y.length : Int) = 0 by omega)
              obtain ⟨m, hm⟩ : ∃ m : Int, Int.tmod (wrap64 a2_1) (y.length : Int) = m := ⟨_, rfl⟩
              rw [hm] at hl2
              have HL2 := Aside0.mk hl2
              clear h8 h9 hl2 hy
              go_wp2_with (((with_reducible refine gate_callee (f := 21) rfl ?_); refine goesL_ (some 98) rfl rfl Tryd.func21 (by kernel_rfl) rfl #[.int .u8 9, .slice A2_0 l2_0.length c2_0] rfl (by (try simp only [List.map_toArray, List.map_cons, List.map_nil]); first | done | rfl) ?_; refine (seal_Seal.calls k 9 _ c2_0 _ y 0 _ ?hC HC2.out (TabW.below HT.out (by repeat (first | (with_reducible first | exact HB.out | apply below_alloc | apply pw_below_drewN | apply below_drew1) | exact HB.out))) HS.out).mono ?_; (case hC => with_reducible repeat (first | exact (Kd.C_below HR2.out HB.out) | refine Kd.C_alloc ?_ _ | refine Kd.C_drewN ?_ _ | refine Kd.C_drew ?_)); rintro e w6 ⟨vb, rfl, ho, hb⟩; refine ⟨_, rfl, ?_⟩; have HBn := Aside0.mk (below_step (by repeat (first | (with_reducible first | exact HB.out | apply below_alloc | apply pw_below_drewN | apply below_drew1) | exact HB.out)) hb); have HOB := Aside0.mk (Kd.R_lower ho (below_size (by repeat (first | (with_reducible first | exact HB.out | apply below_alloc | apply pw_below_drewN | apply below_drew1) | exact HB.out)))); have n0_ := Aside0.mk (Kd.R_below (by (with_reducible repeat (first | apply Kd.R_alloc | apply Kd.R_drewN | apply Kd.R_drew)); exact HO.out) hb); have n1_ := Aside0.mk (Kd.R_below (by (with_reducible repeat (first | apply Kd.R_alloc | apply Kd.R_drewN | apply Kd.R_drew)); exact HOW.out) hb); have NB0 := Aside0.mk (show ∀ k_, Value.ownBlock vb = some k_ → some k_ ≠ Value.ownBlock (.slice A9 x'.length c9 : Value) ∧ some k_ ≠ Value.ownBlock (.slice A12 ps.length c12 : Value) from fun k_ e_ => (by have g1_ := Kd.R_base ho k_ e_; exact ⟨fun e2_ => absurd (Kd.R_lt (by (with_reducible repeat (first | apply Kd.R_alloc | apply Kd.R_drewN | apply Kd.R_drew)); exact HO.out) k_ e2_.symm) (Nat.not_lt.2 g1_), fun e2_ => absurd (Kd.R_lt (by (with_reducible repeat (first | apply Kd.R_alloc | apply Kd.R_drewN | apply Kd.R_drew)); exact HOW.out) k_ e2_.symm) (Nat.not_lt.2 g1_)⟩)); clear HO HOW HB; have HO := n0_; have HOW := n1_; have HB := HBn; clear n0_ n1_ HBn; clear ho hb; obtain ⟨gy, cb, eb, _, _, _⟩ := Kd.R_form HOB.out HY.out; subst eb; have HOY := HOB; have NEYS := Aside0.mk (show ∀ k_, Value.ownBlock (.slice A9 x'.length c9) = some k_ → some k_ ≠ Value.ownBlock (.slice A12 ps.length c12) ∧ some k_ ≠ Value.ownBlock (.slice (some ⟨gy, 0, none⟩) y.length cb) from fun k_ e_ => ⟨NE.out k_ e_, fun e2_ => (NB0.out k_ e2_.symm).1 e_.symm⟩)))
              go_loopg [9, 18, 19] k (fun kq v9 v18 v19 w' => ∃ (x3 : List Int) (q3 i3 : Int), v18 = .int .i64 q3 ∧ v19 = .int .i64 i3 ∧ Aside0 (grapevinelaw01_SealFinds.l2 kq y m x3 q3 i3 = some (xc, qc)) ∧ Aside0 (kq ≤ k) ∧ Aside0 (Kd.R (Kd.int .u8) 5 w' w.heap.size (fun _ => True) v9 x3) ∧ Aside0 (KdW.R 39 w' w.heap.size (fun _ => True) (.slice A12 ps.length c12) ps) ∧ Aside0 (Kd.R (Kd.int .u8) 5 w' w.heap.size (fun _ => True) (.slice (some ⟨gy, 0, none⟩) y.length cb) y) ∧ Aside0 (∀ k_, Value.ownBlock v9 = some k_ → some k_ ≠ Value.ownBlock (.slice A12 ps.length c12) ∧ some k_ ≠ Value.ownBlock (.slice (some ⟨gy, 0, none⟩) y.length cb)) ∧ Aside0 (Below w.heap.size w w'))
              case atStart => exact ⟨x', 0, 0, rfl, rfl, HL2, ⟨Nat.le_refl _⟩, ⟨(by (with_reducible repeat (first | apply Kd.R_alloc | apply Kd.R_drewN | apply Kd.R_drew)); exact HO.out)⟩, ⟨(by (with_reducible repeat (first | apply Kd.R_alloc | apply Kd.R_drewN | apply Kd.R_drew)); exact HOW.out)⟩, ⟨(by (with_reducible repeat (first | apply Kd.R_alloc | apply Kd.R_drewN | apply Kd.R_drew)); exact HOY.out)⟩, NEYS, ⟨(by repeat (first | (with_reducible first | exact HB.out | apply below_alloc | apply pw_below_drewN | apply below_drew1) | exact HB.out))⟩⟩
              case round =>
                clear HO HOW HOY HB HK NE NB0 NEYS HOB
                obtain ⟨x3, q3, i3, rfl, rfl, HA, HK, HO, HOW, HOY, NY, HB⟩ := hrel
                obtain ⟨A9, c9, e9⟩ := Kd.R_slice HO.out
                subst e9
                cases gk with
                | zero => exact absurd HA.out (by simp [grapevinelaw01_SealFinds.l2])
                | succ k3 =>
                  have H := HA.out
                  clear HA
                  simp only [grapevinelaw01_SealFinds.l2] at H
                  by_cases f1 : i3 < m
                  case neg =>
                    rw [if_neg f1] at H
                    have f1b : decide (i3 < m) = false := decide_eq_false f1
                    simp only [Option.some.injEq, Prod.mk.injEq] at H
                    obtain ⟨e1, e2⟩ := H
                    subst e1 e2
                    have HG := HGC
                    clear f1
                    obtain ⟨⟨r1, r2, r3⟩, hsc, h4⟩ := Option.bind_eq_some_iff.mp HG.out
                    obtain ⟨t, hl, h5⟩ := Option.bind_eq_some_iff.mp h4
                    obtain ⟨u, hsa, h6⟩ := Option.bind_eq_some_iff.mp h5
                    by_cases hq : t = true ∧ u = true ∧ r3 = 0 ∧ r2 = wrap64 ((x.length : Int) + q3)
                    case neg => exact absurd ((if_neg hq).symm.trans h6) (by simp)
                    have h7 := (if_pos hq).symm.trans h6
                    obtain ⟨rfl, rfl, rfl, hr2⟩ := hq
                    obtain rfl := Option.some.inj h7
                    have HSC := Aside0.mk hsc
                    have HL := Aside0.mk hl
                    have HSA := Aside0.mk (show grapevineref01_SameAll.f k r1 ws = some true from hsa)
                    have hr2b : (r2 == wrap64 ((x.length : Int) + q3)) = true := beq_iff_eq.mpr hr2
                    have hr2c := hr2b
                    (try simp only [Int.add_zero] at hr2c)
                    clear h4 h5 h6 h7 hsc hl hsa HG hr2
                    go_wp2_with (first | ((with_reducible refine gate_callee (f := 27) rfl ?_); refine goesL_ (some 132) rfl rfl Tryd.func27 (by kernel_rfl) rfl #[.slice A9 x3.length c9] rfl (by (try simp only [List.map_toArray, List.map_cons, List.map_nil]); first | done | rfl) ?_; refine (seal_Scan.calls k _ c9 x3 r1 r2 0 _ ?hC (Kd.R_reads' HO.out).2.1 ?hT HSC.out).mono ?_; (case hC => repeat (first | exact (Kd.R_reads' HO.out).2.2 | (with_reducible refine Kd.C_alloc ?_ _) | (with_reducible refine Kd.C_drewN ?_ _) | (with_reducible refine Kd.C_drew ?_))); (case hT => exact (TabW.below HT.out (by repeat (first | (with_reducible first | exact HB.out | apply below_alloc | apply pw_below_drewN | apply below_drew1) | exact HB.out)))); rintro e ws_ ⟨vs, rfl, hos, hb⟩; refine ⟨_, rfl, ?_⟩; have HBs := Aside0.mk (below_step (by repeat (first | (with_reducible first | exact HB.out | apply below_alloc | apply pw_below_drewN | apply below_drew1) | exact HB.out)) hb); have HOS := Aside0.mk hos; have HWC := Aside0.mk (show ws.length ≤ c12 from (by have h_ := (Kd.R_reads' HOW.out).2.1; rw [← WR.out.length]; exact h_)); have HCW := Aside0.mk (want_C HBs.out WR.out (Kd.C_below (w := _) (by (with_reducible repeat (first | apply Kd.C_alloc | apply Kd.C_drewN | apply Kd.C_drew)); exact (Kd.R_reads' HOW.out).2.2) hb)); clear hos hb; obtain ⟨As, cs, es⟩ := Kd.S_slice HOS.out; subst es) | ((with_reducible refine gate_callee (f := 23) rfl ?_); refine goesL_ (some 136) rfl rfl Tryd.func23 (by kernel_rfl) rfl #[] rfl (by (try simp only [List.map_toArray, List.map_cons, List.map_nil]); first | done | rfl) ?_; refine (grapevinelaw01_lives.calls k true _ (TabW.below HT.out (by repeat (first | (with_reducible first | exact HBs.out | apply below_alloc | apply pw_below_drewN | apply below_drew1) | exact HBs.out))) HL.out).mono ?_; rintro e wl ⟨rfl, hb⟩; refine ⟨_, rfl, ?_⟩; have HBl := Aside0.mk (below_step (by repeat (first | (with_reducible first | exact HBs.out | apply below_alloc | apply pw_below_drewN | apply below_drew1) | exact HBs.out)) hb); have n0_ := Aside0.mk (Kd.S_below HOS.out hb); have n1_ := Aside0.mk (Kd.C_below HCW.out hb); clear HOS HCW; have HOS := n0_; have HCW := n1_; clear n0_ n1_; clear hb) | ((with_reducible refine gate_callee (f := 29) rfl ?_); (refine gate_guard (by rfl) ?_; dsimp only); refine goesL_ (some 144) rfl rfl Tryd.func29 (by kernel_rfl) rfl #[.slice As r1.length cs, .slice A12 ps.length c12] rfl (by (try simp only [List.map_toArray, List.map_cons, List.map_nil]); first | done | rfl) ?_; refine calls_of_args (args' := #[.slice As r1.length cs, .slice A12 ws.length c12]) (by rw [WR.out.length]) ?_; refine (grapevineref01_SameAll.calls k _ cs r1 _ c12 ws true _ ?hC (Kd.S_reads' HOS.out).2.1 ?hD HWC.out HSA.out).mono ?_; (case hC => repeat (first | exact (Kd.S_reads' HOS.out).2.2 | (with_reducible refine Kd.C_alloc ?_ _) | (with_reducible refine Kd.C_drewN ?_ _) | (with_reducible refine Kd.C_drew ?_))); (case hD => repeat (first | exact HCW.out | (with_reducible refine Kd.C_alloc ?_ _) | (with_reducible refine Kd.C_drewN ?_ _) | (with_reducible refine Kd.C_drew ?_))); rintro e we ⟨rfl, hb⟩; refine ⟨_, rfl, ?_⟩; have HBe := Aside0.mk (below_step (by repeat (first | (with_reducible first | exact HBl.out | apply below_alloc | apply pw_below_drewN | apply below_drew1) | exact HBl.out)) hb); clear hb))
                    go_ret
                    exact ⟨by first | rfl | (simp; done) | (simp only [hr2c]; rfl) | (simp only [hr2b]; rfl) | (simp [hr2b]; done) | (simp [hr2c]; done), (by repeat (first | (with_reducible first | exact HBe.out | apply below_alloc | apply pw_below_drewN | apply below_drew1) | exact HBe.out))⟩
                  rw [if_pos f1] at H
                  have f1b : decide (i3 < m) = true := decide_eq_true f1
                  by_cases f2 : i3 < 1
                  case neg =>
                    rw [if_neg f2] at H
                    have f2b : decide (i3 < 1) = false := decide_eq_false f2
                    simp only [Option.some.injEq, Prod.mk.injEq] at H
                    obtain ⟨e1, e2⟩ := H
                    subst e1 e2
                    have HG := HGC
                    clear f1 f2
                    obtain ⟨⟨r1, r2, r3⟩, hsc, h4⟩ := Option.bind_eq_some_iff.mp HG.out
                    obtain ⟨t, hl, h5⟩ := Option.bind_eq_some_iff.mp h4
                    obtain ⟨u, hsa, h6⟩ := Option.bind_eq_some_iff.mp h5
                    by_cases hq : t = true ∧ u = true ∧ r3 = 0 ∧ r2 = wrap64 ((x.length : Int) + q3)
                    case neg => exact absurd ((if_neg hq).symm.trans h6) (by simp)
                    have h7 := (if_pos hq).symm.trans h6
                    obtain ⟨rfl, rfl, rfl, hr2⟩ := hq
                    obtain rfl := Option.some.inj h7
                    have HSC := Aside0.mk hsc
                    have HL := Aside0.mk hl
                    have HSA := Aside0.mk (show grapevineref01_SameAll.f k r1 ws = some true from hsa)
                    have hr2b : (r2 == wrap64 ((x.length : Int) + q3)) = true := beq_iff_eq.mpr hr2
                    have hr2c := hr2b
                    (try simp only [Int.add_zero] at hr2c)
                    clear h4 h5 h6 h7 hsc hl hsa HG hr2
                    go_wp2_with (first | ((with_reducible refine gate_callee (f := 27) rfl ?_); refine goesL_ (some 132) rfl rfl Tryd.func27 (by kernel_rfl) rfl #[.slice A9 x3.length c9] rfl (by (try simp only [List.map_toArray, List.map_cons, List.map_nil]); first | done | rfl) ?_; refine (seal_Scan.calls k _ c9 x3 r1 r2 0 _ ?hC (Kd.R_reads' HO.out).2.1 ?hT HSC.out).mono ?_; (case hC => repeat (first | exact (Kd.R_reads' HO.out).2.2 | (with_reducible refine Kd.C_alloc ?_ _) | (with_reducible refine Kd.C_drewN ?_ _) | (with_reducible refine Kd.C_drew ?_))); (case hT => exact (TabW.below HT.out (by repeat (first | (with_reducible first | exact HB.out | apply below_alloc | apply pw_below_drewN | apply below_drew1) | exact HB.out)))); rintro e ws_ ⟨vs, rfl, hos, hb⟩; refine ⟨_, rfl, ?_⟩; have HBs := Aside0.mk (below_step (by repeat (first | (with_reducible first | exact HB.out | apply below_alloc | apply pw_below_drewN | apply below_drew1) | exact HB.out)) hb); have HOS := Aside0.mk hos; have HWC := Aside0.mk (show ws.length ≤ c12 from (by have h_ := (Kd.R_reads' HOW.out).2.1; rw [← WR.out.length]; exact h_)); have HCW := Aside0.mk (want_C HBs.out WR.out (Kd.C_below (w := _) (by (with_reducible repeat (first | apply Kd.C_alloc | apply Kd.C_drewN | apply Kd.C_drew)); exact (Kd.R_reads' HOW.out).2.2) hb)); clear hos hb; obtain ⟨As, cs, es⟩ := Kd.S_slice HOS.out; subst es) | ((with_reducible refine gate_callee (f := 23) rfl ?_); refine goesL_ (some 136) rfl rfl Tryd.func23 (by kernel_rfl) rfl #[] rfl (by (try simp only [List.map_toArray, List.map_cons, List.map_nil]); first | done | rfl) ?_; refine (grapevinelaw01_lives.calls k true _ (TabW.below HT.out (by repeat (first | (with_reducible first | exact HBs.out | apply below_alloc | apply pw_below_drewN | apply below_drew1) | exact HBs.out))) HL.out).mono ?_; rintro e wl ⟨rfl, hb⟩; refine ⟨_, rfl, ?_⟩; have HBl := Aside0.mk (below_step (by repeat (first | (with_reducible first | exact HBs.out | apply below_alloc | apply pw_below_drewN | apply below_drew1) | exact HBs.out)) hb); have n0_ := Aside0.mk (Kd.S_below HOS.out hb); have n1_ := Aside0.mk (Kd.C_below HCW.out hb); clear HOS HCW; have HOS := n0_; have HCW := n1_; clear n0_ n1_; clear hb) | ((with_reducible refine gate_callee (f := 29) rfl ?_); (refine gate_guard (by rfl) ?_; dsimp only); refine goesL_ (some 144) rfl rfl Tryd.func29 (by kernel_rfl) rfl #[.slice As r1.length cs, .slice A12 ps.length c12] rfl (by (try simp only [List.map_toArray, List.map_cons, List.map_nil]); first | done | rfl) ?_; refine calls_of_args (args' := #[.slice As r1.length cs, .slice A12 ws.length c12]) (by rw [WR.out.length]) ?_; refine (grapevineref01_SameAll.calls k _ cs r1 _ c12 ws true _ ?hC (Kd.S_reads' HOS.out).2.1 ?hD HWC.out HSA.out).mono ?_; (case hC => repeat (first | exact (Kd.S_reads' HOS.out).2.2 | (with_reducible refine Kd.C_alloc ?_ _) | (with_reducible refine Kd.C_drewN ?_ _) | (with_reducible refine Kd.C_drew ?_))); (case hD => repeat (first | exact HCW.out | (with_reducible refine Kd.C_alloc ?_ _) | (with_reducible refine Kd.C_drewN ?_ _) | (with_reducible refine Kd.C_drew ?_))); rintro e we ⟨rfl, hb⟩; refine ⟨_, rfl, ?_⟩; have HBe := Aside0.mk (below_step (by repeat (first | (with_reducible first | exact HBl.out | apply below_alloc | apply pw_below_drewN | apply below_drew1) | exact HBl.out)) hb); clear hb))
                    go_ret
                    exact ⟨by first | rfl | (simp; done) | (simp only [hr2c]; rfl) | (simp only [hr2b]; rfl) | (simp [hr2b]; done) | (simp [hr2c]; done), (by repeat (first | (with_reducible first | exact HBe.out | apply below_alloc | apply pw_below_drewN | apply below_drew1) | exact HBe.out))⟩
                  rw [if_pos f2] at H
                  have f2b : decide (i3 < 1) = true := decide_eq_true f2
                  by_cases f3 : 0 ≤ i3 ∧ i3 < (y.length : Int)
                  case neg => rw [if_neg f3] at H; exact absurd H (by simp)
                  rw [if_pos f3] at H
                  by_cases f4 : x3.length < 140737488355328
                  case neg => rw [if_neg f4] at H; exact absurd H (by simp)
                  rw [if_pos f4] at H
                  have HN := Aside0.mk H
                  have HLN := Aside0.mk f4
                  have hyc := Kd.R_celln (0 : Int) HOY.out i3 f3.1 f3.2
                  have hyi : wr.cell? ⟨gy, i3.toNat, none⟩ = some (.int .u8 (rd y i3)) := hyc.1
                  have pi3 := eq_true f3.1
                  have qi3 := eq_true f3.2
                  clear H hyc f1 f2 f3 f4
                  go_wp2_with (((with_reducible refine gate_builtin (b := .append) (xs := #[.tmp 121, .tmp 126]) rfl ?_); at_builtin; refine Kd.R_append (Kd.int .u8) (w0 := w) w.heap.size rfl (.tmp 121) (.tmp 126) 23 5 (.int .u8 0) 1 rfl Tryd.underlying23 info5 rfl (by decide) (by omega) (.slice A9 x3.length c9) x3 (rd y i3) [.int .u8 (rd y i3)] (fun _ => True) (fun _ => False) rfl rfl rfl (fun _ hk => hk.elim) (fun _ _ => trivial) (by (with_reducible repeat (first | apply Kd.R_alloc | apply Kd.R_drewN | apply Kd.R_drew)); exact HO.out) (by repeat (first | (with_reducible first | exact HB.out | apply below_alloc | apply pw_below_drewN | apply below_drew1) | exact HB.out)) (below_size (by repeat (first | (with_reducible first | exact HB.out | apply below_alloc | apply pw_below_drewN | apply below_drew1) | exact HB.out))) (by have := HLN.out; omega) ?_; intro v9n w7 ho hb hg hat; have HO7 := Aside0.mk ho; have HB7 := Aside0.mk hb; have HOW7 := Aside0.mk (Kd.R_grown2 (by (with_reducible repeat (first | apply Kd.R_alloc | apply Kd.R_drewN | apply Kd.R_drew)); exact HOW.out) rfl hg (fun k_ e_ e2_ => (NY.out k_ e_).1 e2_)); have HOY7 := Aside0.mk (Kd.R_grown2 (by (with_reducible repeat (first | apply Kd.R_alloc | apply Kd.R_drewN | apply Kd.R_drew)); exact HOY.out) rfl hg (fun k_ e_ e2_ => (NY.out k_ e_).2 e2_)); have NY2 := Aside0.mk (show ∀ k_, Value.ownBlock v9n = some k_ → some k_ ≠ Value.ownBlock (.slice A12 ps.length c12) ∧ some k_ ≠ Value.ownBlock (.slice (some ⟨gy, 0, none⟩) y.length cb) from fun k_ e_ => (by rcases hat with hat | ⟨b_, hb_, hle_⟩; (exact NY.out k_ (hat ▸ e_)); (rw [hb_] at e_; injection e_ with e3_; subst e3_; exact ⟨fun e4_ => absurd (Kd.R_lt (by (with_reducible repeat (first | apply Kd.R_alloc | apply Kd.R_drewN | apply Kd.R_drew)); exact HOW.out) _ e4_.symm) (Nat.not_lt.2 hle_), fun e4_ => absurd (Kd.R_lt (by (with_reducible repeat (first | apply Kd.R_alloc | apply Kd.R_drewN | apply Kd.R_drew)); exact HOY.out) _ e4_.symm) (Nat.not_lt.2 hle_)⟩))); clear ho hb hg hat))
                  go_roundg k3
                  case measure => have := HK.out; omega
                  case rel => exact ⟨_, _, _, rfl, rfl, HN, ⟨by have := HK.out; omega⟩, ⟨(by (with_reducible repeat (first | apply Kd.R_alloc | apply Kd.R_drewN | apply Kd.R_drew)); exact HO7.out)⟩, ⟨(by (with_reducible repeat (first | apply Kd.R_alloc | apply Kd.R_drewN | apply Kd.R_drew)); exact HOW7.out)⟩, ⟨(by (with_reducible repeat (first | apply Kd.R_alloc | apply Kd.R_drewN | apply Kd.R_drew)); exact HOY7.out)⟩, NY2, ⟨(by repeat (first | (with_reducible first | exact HB7.out | apply below_alloc | apply pw_below_drewN | apply below_drew1) | exact HB7.out))⟩⟩
            rw [if_pos d1] at H
            have d1b : decide (i' < (l1.length : Int)) = true := decide_eq_true d1
            by_cases d2 : i' < 20
            case neg =>
              rw [if_neg d2] at H
              have d2b : decide (i' < 20) = false := decide_eq_false d2
              simp only [Option.some.injEq, Prod.mk.injEq] at H
              obtain ⟨e1, e2⟩ := H
              subst e1 e2
              clear d1 d2
              by_cases hp : p2 = 0
              case neg =>
                have HG := Aside0.mk (show grapevinelaw01_SealFinds.g k x' ws (x.length : Int) 0 = some r from (if_neg hp).symm.trans H3.out)
                have hpb : (p2 == 0) = false := beq_eq_false_iff_ne.mpr hp
                clear hp
                obtain ⟨⟨r1, r2, r3⟩, hsc, h4⟩ := Option.bind_eq_some_iff.mp HG.out
                obtain ⟨t, hl, h5⟩ := Option.bind_eq_some_iff.mp h4
                obtain ⟨u, hsa, h6⟩ := Option.bind_eq_some_iff.mp h5
                by_cases hq : t = true ∧ u = true ∧ r3 = 0 ∧ r2 = wrap64 ((x.length : Int) + 0)
                case neg => exact absurd ((if_neg hq).symm.trans h6) (by simp)
                have h7 := (if_pos hq).symm.trans h6
                obtain ⟨rfl, rfl, rfl, hr2⟩ := hq
                obtain rfl := Option.some.inj h7
                have HSC := Aside0.mk hsc
                have HL := Aside0.mk hl
                have HSA := Aside0.mk (show grapevineref01_SameAll.f k r1 ws = some true from hsa)
                have hr2b : (r2 == wrap64 ((x.length : Int) + 0)) = true := beq_iff_eq.mpr hr2
                have hr2c := hr2b
                (try simp only [Int.add_zero] at hr2c)
                clear h4 h5 h6 h7 hsc hl hsa HG hr2
                go_wp2_with (first | ((with_reducible refine gate_callee (f := 21) rfl ?_); refine goesL_ (some 98) rfl rfl Tryd.func21 (by kernel_rfl) rfl #[.int .u8 9, .slice A2_0 l2_0.length c2_0] rfl (by (try simp only [List.map_toArray, List.map_cons, List.map_nil]); first | done | rfl) ?_; refine (seal_Seal.calls k 9 _ c2_0 _ y p2 _ ?hC HC2.out (TabW.below HT.out (by repeat (first | (with_reducible first | exact HB.out | apply below_alloc | apply pw_below_drewN | apply below_drew1) | exact HB.out))) HS.out).mono ?_; (case hC => with_reducible repeat (first | exact (Kd.C_below HR2.out HB.out) | refine Kd.C_alloc ?_ _ | refine Kd.C_drewN ?_ _ | refine Kd.C_drew ?_)); rintro e w6 ⟨vb, rfl, ho, hb⟩; refine ⟨_, rfl, ?_⟩; have HBn := Aside0.mk (below_step (by repeat (first | (with_reducible first | exact HB.out | apply below_alloc | apply pw_below_drewN | apply below_drew1) | exact HB.out)) hb); have HOB := Aside0.mk (Kd.R_lower ho (below_size (by repeat (first | (with_reducible first | exact HB.out | apply below_alloc | apply pw_below_drewN | apply below_drew1) | exact HB.out)))); have n0_ := Aside0.mk (Kd.R_below (by (with_reducible repeat (first | apply Kd.R_alloc | apply Kd.R_drewN | apply Kd.R_drew)); exact HO.out) hb); have n1_ := Aside0.mk (Kd.R_below (by (with_reducible repeat (first | apply Kd.R_alloc | apply Kd.R_drewN | apply Kd.R_drew)); exact HOW.out) hb); have NB0 := Aside0.mk (show ∀ k_, Value.ownBlock vb = some k_ → some k_ ≠ Value.ownBlock (.slice A9 x'.length c9 : Value) ∧ some k_ ≠ Value.ownBlock (.slice A12 ps.length c12 : Value) from fun k_ e_ => (by have g1_ := Kd.R_base ho k_ e_; exact ⟨fun e2_ => absurd (Kd.R_lt (by (with_reducible repeat (first | apply Kd.R_alloc | apply Kd.R_drewN | apply Kd.R_drew)); exact HO.out) k_ e2_.symm) (Nat.not_lt.2 g1_), fun e2_ => absurd (Kd.R_lt (by (with_reducible repeat (first | apply Kd.R_alloc | apply Kd.R_drewN | apply Kd.R_drew)); exact HOW.out) k_ e2_.symm) (Nat.not_lt.2 g1_)⟩)); clear HO HOW HB; have HO := n0_; have HOW := n1_; have HB := HBn; clear n0_ n1_ HBn; clear ho hb; obtain ⟨Ab, cb, eb⟩ := Kd.R_slice HOB.out; subst eb) | ((with_reducible refine gate_callee (f := 27) rfl ?_); refine goesL_ (some 132) rfl rfl Tryd.func27 (by kernel_rfl) rfl #[.slice A9 x'.length c9] rfl (by (try simp only [List.map_toArray, List.map_cons, List.map_nil]); first | done | rfl) ?_; refine (seal_Scan.calls k _ c9 x' r1 r2 0 _ ?hC (Kd.R_reads' HO.out).2.1 ?hT HSC.out).mono ?_; (case hC => repeat (first | exact (Kd.R_reads' HO.out).2.2 | (with_reducible refine Kd.C_alloc ?_ _) | (with_reducible refine Kd.C_drewN ?_ _) | (with_reducible refine Kd.C_drew ?_))); (case hT => exact (TabW.below HT.out (by repeat (first | (with_reducible first | exact HB.out | apply below_alloc | apply pw_below_drewN | apply below_drew1) | exact HB.out)))); rintro e ws_ ⟨vs, rfl, hos, hb⟩; refine ⟨_, rfl, ?_⟩; have HBs := Aside0.mk (below_step (by repeat (first | (with_reducible first | exact HB.out | apply below_alloc | apply pw_below_drewN | apply below_drew1) | exact HB.out)) hb); have HOS := Aside0.mk hos; have HWC := Aside0.mk (show ws.length ≤ c12 from (by have h_ := (Kd.R_reads' HOW.out).2.1; rw [← WR.out.length]; exact h_)); have HCW := Aside0.mk (want_C HBs.out WR.out (Kd.C_below (w := _) (by (with_reducible repeat (first | apply Kd.C_alloc | apply Kd.C_drewN | apply Kd.C_drew)); exact (Kd.R_reads' HOW.out).2.2) hb)); clear hos hb; obtain ⟨As, cs, es⟩ := Kd.S_slice HOS.out; subst es) | ((with_reducible refine gate_callee (f := 23) rfl ?_); refine goesL_ (some 136) rfl rfl Tryd.func23 (by kernel_rfl) rfl #[] rfl (by (try simp only [List.map_toArray, List.map_cons, List.map_nil]); first | done | rfl) ?_; refine (grapevinelaw01_lives.calls k true _ (TabW.below HT.out (by repeat (first | (with_reducible first | exact HBs.out | apply below_alloc | apply pw_below_drewN | apply below_drew1) | exact HBs.out))) HL.out).mono ?_; rintro e wl ⟨rfl, hb⟩; refine ⟨_, rfl, ?_⟩; have HBl := Aside0.mk (below_step (by repeat (first | (with_reducible first | exact HBs.out | apply below_alloc | apply pw_below_drewN | apply below_drew1) | exact HBs.out)) hb); have n0_ := Aside0.mk (Kd.S_below HOS.out hb); have n1_ := Aside0.mk (Kd.C_below HCW.out hb); clear HOS HCW; have HOS := n0_; have HCW := n1_; clear n0_ n1_; clear hb) | ((with_reducible refine gate_callee (f := 29) rfl ?_); (refine gate_guard (by rfl) ?_; dsimp only); refine goesL_ (some 144) rfl rfl Tryd.func29 (by kernel_rfl) rfl #[.slice As r1.length cs, .slice A12 ps.length c12] rfl (by (try simp only [List.map_toArray, List.map_cons, List.map_nil]); first | done | rfl) ?_; refine calls_of_args (args' := #[.slice As r1.length cs, .slice A12 ws.length c12]) (by rw [WR.out.length]) ?_; refine (grapevineref01_SameAll.calls k _ cs r1 _ c12 ws true _ ?hC (Kd.S_reads' HOS.out).2.1 ?hD HWC.out HSA.out).mono ?_; (case hC => repeat (first | exact (Kd.S_reads' HOS.out).2.2 | (with_reducible refine Kd.C_alloc ?_ _) | (with_reducible refine Kd.C_drewN ?_ _) | (with_reducible refine Kd.C_drew ?_))); (case hD => repeat (first | exact HCW.out | (with_reducible refine Kd.C_alloc ?_ _) | (with_reducible refine Kd.C_drewN ?_ _) | (with_reducible refine Kd.C_drew ?_))); rintro e we ⟨rfl, hb⟩; refine ⟨_, rfl, ?_⟩; have HBe := Aside0.mk (below_step (by repeat (first | (with_reducible first | exact HBl.out | apply below_alloc | apply pw_below_drewN | apply below_drew1) | exact HBl.out)) hb); clear hb))
                go_ret
                exact ⟨by first | rfl | (simp; done) | (simp only [hr2c]; rfl) | (simp only [hr2b]; rfl) | (simp [hr2b]; done) | (simp [hr2c]; done), (by repeat (first | (with_reducible first | exact HBe.out | apply below_alloc | apply pw_below_drewN | apply below_drew1) | exact HBe.out))⟩
              subst hp
              have h8 : (if 0 < y.length then ((grapevinelaw01_SealFinds.l2 k y (Int.tmod (wrap64 a2_1) (y.length : Int)) x' 0 0).bind fun xq => grapevinelaw01_SealFinds.g k xq.1 ws (x.length : Int) xq.2) else none) = some r := (if_pos rfl).symm.trans H3.out
              by_cases hy : 0 < y.length
              case neg => rw [if_neg hy] at h8; exact absurd h8 (by simp)
              rw [if_pos hy] at h8
              obtain ⟨⟨xc, qc⟩, hl2, h9⟩ := Option.bind_eq_some_iff.mp h8
              have HGC := Aside0.mk (show grapevinelaw01_SealFinds.g k xc ws (x.length : Int) qc = some r from h9)
              have HY := Aside0.mk hy
              have hyb : decide (0 < (y.length : Int)) = true := decide_eq_true (by omega)
              have hyn : decide (0 < y.length) = true := decide_eq_true hy
              have hybe : ((y.length : Int) == 0) = false := beq_eq_false_iff_ne.mpr (by omega)
              have hyne : (y.length == 0) = false := beq_eq_false_iff_ne.mpr (by omega)
              have hyd := eq_false (show ¬ y.length = 0 by omega)
              have hyf := eq_false (show ¬ (y.length : Int) = 0 by omega)
              obtain ⟨m, hm⟩ : ∃ m : Int, Int.tmod (wrap64 a2_1) (y.length : Int) = m := ⟨_, rfl⟩
              rw [hm] at hl2
              have HL2 := Aside0.mk hl2
              clear h8 h9 hl2 hy
              go_wp2_with (((with_reducible refine gate_callee (f := 21) rfl ?_); refine goesL_ (some 98) rfl rfl Tryd.func21 (by kernel_rfl) rfl #[.int .u8 9, .slice A2_0 l2_0.length c2_0] rfl (by (try simp only [List.map_toArray, List.map_cons, List.map_nil]); first | done | rfl) ?_; refine (seal_Seal.calls k 9 _ c2_0 _ y 0 _ ?hC HC2.out (TabW.below HT.out (by repeat (first | (with_reducible first | exact HB.out | apply below_alloc | apply pw_below_drewN | apply below_drew1) | exact HB.out))) HS.out).mono ?_; (case hC => with_reducible repeat (first | exact (Kd.C_below HR2.out HB.out) | refine Kd.C_alloc ?_ _ | refine Kd.C_drewN ?_ _ | refine Kd.C_drew ?_)); rintro e w6 ⟨vb, rfl, ho, hb⟩; refine ⟨_, rfl, ?_⟩; have HBn := Aside0.mk (below_step (by repeat (first | (with_reducible first | exact HB.out | apply below_alloc | apply pw_below_drewN | apply below_drew1) | exact HB.out)) hb); have HOB := Aside0.mk (Kd.R_lower ho (below_size (by repeat (first | (with_reducible first | exact HB.out | apply below_alloc | apply pw_below_drewN | apply below_drew1) | exact HB.out)))); have n0_ := Aside0.mk (Kd.R_below (by (with_reducible repeat (first | apply Kd.R_alloc | apply Kd.R_drewN | apply Kd.R_drew)); exact HO.out) hb); have n1_ := Aside0.mk (Kd.R_below (by (with_reducible repeat (first | apply Kd.R_alloc | apply Kd.R_drewN | apply Kd.R_drew)); exact HOW.out) hb); have NB0 := Aside0.mk (show ∀ k_, Value.ownBlock vb = some k_ → some k_ ≠ Value.ownBlock (.slice A9 x'.length c9 : Value) ∧ some k_ ≠ Value.ownBlock (.slice A12 ps.length c12 : Value) from fun k_ e_ => (by have g1_ := Kd.R_base ho k_ e_; exact ⟨fun e2_ => absurd (Kd.R_lt (by (with_reducible repeat (first | apply Kd.R_alloc | apply Kd.R_drewN | apply Kd.R_drew)); exact HO.out) k_ e2_.symm) (Nat.not_lt.2 g1_), fun e2_ => absurd (Kd.R_lt (by (with_reducible repeat (first | apply Kd.R_alloc | apply Kd.R_drewN | apply Kd.R_drew)); exact HOW.out) k_ e2_.symm) (Nat.not_lt.2 g1_)⟩)); clear HO HOW HB; have HO := n0_; have HOW := n1_; have HB := HBn; clear n0_ n1_ HBn; clear ho hb; obtain ⟨gy, cb, eb, _, _, _⟩ := Kd.R_form HOB.out HY.out; subst eb; have HOY := HOB; have NEYS := Aside0.mk (show ∀ k_, Value.ownBlock (.slice A9 x'.length c9) = some k_ → some k_ ≠ Value.ownBlock (.slice A12 ps.length c12) ∧ some k_ ≠ Value.ownBlock (.slice (some ⟨gy, 0, none⟩) y.length cb) from fun k_ e_ => ⟨NE.out k_ e_, fun e2_ => (NB0.out k_ e2_.symm).1 e_.symm⟩)))
              go_loopg [9, 18, 19] k (fun kq v9 v18 v19 w' => ∃ (x3 : List Int) (q3 i3 : Int), v18 = .int .i64 q3 ∧ v19 = .int .i64 i3 ∧ Aside0 (grapevinelaw01_SealFinds.l2 kq y m x3 q3 i3 = some (xc, qc)) ∧ Aside0 (kq ≤ k) ∧ Aside0 (Kd.R (Kd.int .u8) 5 w' w.heap.size (fun _ => True) v9 x3) ∧ Aside0 (KdW.R 39 w' w.heap.size (fun _ => True) (.slice A12 ps.length c12) ps) ∧ Aside0 (Kd.R (Kd.int .u8) 5 w' w.heap.size (fun _ => True) (.slice (some ⟨gy, 0, none⟩) y.length cb) y) ∧ Aside0 (∀ k_, Value.ownBlock v9 = some k_ → some k_ ≠ Value.ownBlock (.slice A12 ps.length c12) ∧ some k_ ≠ Value.ownBlock (.slice (some ⟨gy, 0, none⟩) y.length cb)) ∧ Aside0 (Below w.heap.size w w'))
              case atStart => exact ⟨x', 0, 0, rfl, rfl, HL2, ⟨Nat.le_refl _⟩, ⟨(by (with_reducible repeat (first | apply Kd.R_alloc | apply Kd.R_drewN | apply Kd.R_drew)); exact HO.out)⟩, ⟨(by (with_reducible repeat (first | apply Kd.R_alloc | apply Kd.R_drewN | apply Kd.R_drew)); exact HOW.out)⟩, ⟨(by (with_reducible repeat (first | apply Kd.R_alloc | apply Kd.R_drewN | apply Kd.R_drew)); exact HOY.out)⟩, NEYS, ⟨(by repeat (first | (with_reducible first | exact HB.out | apply below_alloc | apply pw_below_drewN | apply below_drew1) | exact HB.out))⟩⟩
              case round =>
                clear HO HOW HOY HB HK NE NB0 NEYS HOB
                obtain ⟨x3, q3, i3, rfl, rfl, HA, HK, HO, HOW, HOY, NY, HB⟩ := hrel
                obtain ⟨A9, c9, e9⟩ := Kd.R_slice HO.out
                subst e9
                cases gk with
                | zero => exact absurd HA.out (by simp [grapevinelaw01_SealFinds.l2])
                | succ k3 =>
                  have H := HA.out
                  clear HA
                  simp only [grapevinelaw01_SealFinds.l2] at H
                  by_cases f1 : i3 < m
                  case neg =>
                    rw [if_neg f1] at H
                    have f1b : decide (i3 < m) = false := decide_eq_false f1
                    simp only [Option.some.injEq, Prod.mk.injEq] at H
                    obtain ⟨e1, e2⟩ := H
                    subst e1 e2
                    have HG := HGC
                    clear f1
                    obtain ⟨⟨r1, r2, r3⟩, hsc, h4⟩ := Option.bind_eq_some_iff.mp HG.out
                    obtain ⟨t, hl, h5⟩ := Option.bind_eq_some_iff.mp h4
                    obtain ⟨u, hsa, h6⟩ := Option.bind_eq_some_iff.mp h5
                    by_cases hq : t = true ∧ u = true ∧ r3 = 0 ∧ r2 = wrap64 ((x.length : Int) + q3)
                    case neg => exact absurd ((if_neg hq).symm.trans h6) (by simp)
                    have h7 := (if_pos hq).symm.trans h6
                    obtain ⟨rfl, rfl, rfl, hr2⟩ := hq
                    obtain rfl := Option.some.inj h7
                    have HSC := Aside0.mk hsc
                    have HL := Aside0.mk hl
                    have HSA := Aside0.mk (show grapevineref01_SameAll.f k r1 ws = some true from hsa)
                    have hr2b : (r2 == wrap64 ((x.length : Int) + q3)) = true := beq_iff_eq.mpr hr2
                    have hr2c := hr2b
                    (try simp only [Int.add_zero] at hr2c)
                    clear h4 h5 h6 h7 hsc hl hsa HG hr2
                    go_wp2_with (first | ((with_reducible refine gate_callee (f := 27) rfl ?_); refine goesL_ (some 132) rfl rfl Tryd.func27 (by kernel_rfl) rfl #[.slice A9 x3.length c9] rfl (by (try simp only [List.map_toArray, List.map_cons, List.map_nil]); first | done | rfl) ?_; refine (seal_Scan.calls k _ c9 x3 r1 r2 0 _ ?hC (Kd.R_reads' HO.out).2.1 ?hT HSC.out).mono ?_; (case hC => repeat (first | exact (Kd.R_reads' HO.out).2.2 | (with_reducible refine Kd.C_alloc ?_ _) | (with_reducible refine Kd.C_drewN ?_ _) | (with_reducible refine Kd.C_drew ?_))); (case hT => exact (TabW.below HT.out (by repeat (first | (with_reducible first | exact HB.out | apply below_alloc | apply pw_below_drewN | apply below_drew1) | exact HB.out)))); rintro e ws_ ⟨vs, rfl, hos, hb⟩; refine ⟨_, rfl, ?_⟩; have HBs := Aside0.mk (below_step (by repeat (first | (with_reducible first | exact HB.out | apply below_alloc | apply pw_below_drewN | apply below_drew1) | exact HB.out)) hb); have HOS := Aside0.mk hos; have HWC := Aside0.mk (show ws.length ≤ c12 from (by have h_ := (Kd.R_reads' HOW.out).2.1; rw [← WR.out.length]; exact h_)); have HCW := Aside0.mk (want_C HBs.out WR.out (Kd.C_below (w := _) (by (with_reducible repeat (first | apply Kd.C_alloc | apply Kd.C_drewN | apply Kd.C_drew)); exact (Kd.R_reads' HOW.out).2.2) hb)); clear hos hb; obtain ⟨As, cs, es⟩ := Kd.S_slice HOS.out; subst es) | ((with_reducible refine gate_callee (f := 23) rfl ?_); refine goesL_ (some 136) rfl rfl Tryd.func23 (by kernel_rfl) rfl #[] rfl (by (try simp only [List.map_toArray, List.map_cons, List.map_nil]); first | done | rfl) ?_; refine (grapevinelaw01_lives.calls k true _ (TabW.below HT.out (by repeat (first | (with_reducible first | exact HBs.out | apply below_alloc | apply pw_below_drewN | apply below_drew1) | exact HBs.out))) HL.out).mono ?_; rintro e wl ⟨rfl, hb⟩; refine ⟨_, rfl, ?_⟩; have HBl := Aside0.mk (below_step (by repeat (first | (with_reducible first | exact HBs.out | apply below_alloc | apply pw_below_drewN | apply below_drew1) | exact HBs.out)) hb); have n0_ := Aside0.mk (Kd.S_below HOS.out hb); have n1_ := Aside0.mk (Kd.C_below HCW.out hb); clear HOS HCW; have HOS := n0_; have HCW := n1_; clear n0_ n1_; clear hb) | ((with_reducible refine gate_callee (f := 29) rfl ?_); (refine gate_guard (by rfl) ?_; dsimp only); refine goesL_ (some 144) rfl rfl Tryd.func29 (by kernel_rfl) rfl #[.slice As r1.length cs, .slice A12 ps.length c12] rfl (by (try simp only [List.map_toArray, List.map_cons, List.map_nil]); first | done | rfl) ?_; refine calls_of_args (args' := #[.slice As r1.length cs, .slice A12 ws.length c12]) (by rw [WR.out.length]) ?_; refine (grapevineref01_SameAll.calls k _ cs r1 _ c12 ws true _ ?hC (Kd.S_reads' HOS.out).2.1 ?hD HWC.out HSA.out).mono ?_; (case hC => repeat (first | exact (Kd.S_reads' HOS.out).2.2 | (with_reducible refine Kd.C_alloc ?_ _) | (with_reducible refine Kd.C_drewN ?_ _) | (with_reducible refine Kd.C_drew ?_))); (case hD => repeat (first | exact HCW.out | (with_reducible refine Kd.C_alloc ?_ _) | (with_reducible refine Kd.C_drewN ?_ _) | (with_reducible refine Kd.C_drew ?_))); rintro e we ⟨rfl, hb⟩; refine ⟨_, rfl, ?_⟩; have HBe := Aside0.mk (below_step (by repeat (first | (with_reducible first | exact HBl.out | apply below_alloc | apply pw_below_drewN | apply below_drew1) | exact HBl.out)) hb); clear hb))
                    go_ret
                    exact ⟨by first | rfl | (simp; done) | (simp only [hr2c]; rfl) | (simp only [hr2b]; rfl) | (simp [hr2b]; done) | (simp [hr2c]; done), (by repeat (first | (with_reducible first | exact HBe.out | apply below_alloc | apply pw_below_drewN | apply below_drew1) | exact HBe.out))⟩
                  rw [if_pos f1] at H
                  have f1b : decide (i3 < m) = true := decide_eq_true f1
                  by_cases f2 : i3 < 1
                  case neg =>
                    rw [if_neg f2] at H
                    have f2b : decide (i3 < 1) = false := decide_eq_false f2
                    simp only [Option.some.injEq, Prod.mk.injEq] at H
                    obtain ⟨e1, e2⟩ := H
                    subst e1 e2
                    have HG := HGC
                    clear f1 f2
                    obtain ⟨⟨r1, r2, r3⟩, hsc, h4⟩ := Option.bind_eq_some_iff.mp HG.out
                    obtain ⟨t, hl, h5⟩ := Option.bind_eq_some_iff.mp h4
                    obtain ⟨u, hsa, h6⟩ := Option.bind_eq_some_iff.mp h5
                    by_cases hq : t = true ∧ u = true ∧ r3 = 0 ∧ r2 = wrap64 ((x.length : Int) + q3)
                    case neg => exact absurd ((if_neg hq).symm.trans h6) (by simp)
                    have h7 := (if_pos hq).symm.trans h6
                    obtain ⟨rfl, rfl, rfl, hr2⟩ := hq
                    obtain rfl := Option.some.inj h7
                    have HSC := Aside0.mk hsc
                    have HL := Aside0.mk hl
                    have HSA := Aside0.mk (show grapevineref01_SameAll.f k r1 ws = some true from hsa)
                    have hr2b : (r2 == wrap64 ((x.length : Int) + q3)) = true := beq_iff_eq.mpr hr2
                    have hr2c := hr2b
                    (try simp only [Int.add_zero] at hr2c)
                    clear h4 h5 h6 h7 hsc hl hsa HG hr2
                    go_wp2_with (first | ((with_reducible refine gate_callee (f := 27) rfl ?_); refine goesL_ (some 132) rfl rfl Tryd.func27 (by kernel_rfl) rfl #[.slice A9 x3.length c9] rfl (by (try simp only [List.map_toArray, List.map_cons, List.map_nil]); first | done | rfl) ?_; refine (seal_Scan.calls k _ c9 x3 r1 r2 0 _ ?hC (Kd.R_reads' HO.out).2.1 ?hT HSC.out).mono ?_; (case hC => repeat (first | exact (Kd.R_reads' HO.out).2.2 | (with_reducible refine Kd.C_alloc ?_ _) | (with_reducible refine Kd.C_drewN ?_ _) | (with_reducible refine Kd.C_drew ?_))); (case hT => exact (TabW.below HT.out (by repeat (first | (with_reducible first | exact HB.out | apply below_alloc | apply pw_below_drewN | apply below_drew1) | exact HB.out)))); rintro e ws_ ⟨vs, rfl, hos, hb⟩; refine ⟨_, rfl, ?_⟩; have HBs := Aside0.mk (below_step (by repeat (first | (with_reducible first | exact HB.out | apply below_alloc | apply pw_below_drewN | apply below_drew1) | exact HB.out)) hb); have HOS := Aside0.mk hos; have HWC := Aside0.mk (show ws.length ≤ c12 from (by have h_ := (Kd.R_reads' HOW.out).2.1; rw [← WR.out.length]; exact h_)); have HCW := Aside0.mk (want_C HBs.out WR.out (Kd.C_below (w := _) (by (with_reducible repeat (first | apply Kd.C_alloc | apply Kd.C_drewN | apply Kd.C_drew)); exact (Kd.R_reads' HOW.out).2.2) hb)); clear hos hb; obtain ⟨As, cs, es⟩ := Kd.S_slice HOS.out; subst es) | ((with_reducible refine gate_callee (f := 23) rfl ?_); refine goesL_ (some 136) rfl rfl Tryd.func23 (by kernel_rfl) rfl #[] rfl (by (try simp only [List.map_toArray, List.map_cons, List.map_nil]); first | done | rfl) ?_; refine (grapevinelaw01_lives.calls k true _ (TabW.below HT.out (by repeat (first | (with_reducible first | exact HBs.out | apply below_alloc | apply pw_below_drewN | apply below_drew1) | exact HBs.out))) HL.out).mono ?_; rintro e wl ⟨rfl, hb⟩; refine ⟨_, rfl, ?_⟩; have HBl := Aside0.mk (below_step (by repeat (first | (with_reducible first | exact HBs.out | apply below_alloc | apply pw_below_drewN | apply below_drew1) | exact HBs.out)) hb); have n0_ := Aside0.mk (Kd.S_below HOS.out hb); have n1_ := Aside0.mk (Kd.C_below HCW.out hb); clear HOS HCW; have HOS := n0_; have HCW := n1_; clear n0_ n1_; clear hb) | ((with_reducible refine gate_callee (f := 29) rfl ?_); (refine gate_guard (by rfl) ?_; dsimp only); refine goesL_ (some 144) rfl rfl Tryd.func29 (by kernel_rfl) rfl #[.slice As r1.length cs, .slice A12 ps.length c12] rfl (by (try simp only [List.map_toArray, List.map_cons, List.map_nil]); first | done | rfl) ?_; refine calls_of_args (args' := #[.slice As r1.length cs, .slice A12 ws.length c12]) (by rw [WR.out.length]) ?_; refine (grapevineref01_SameAll.calls k _ cs r1 _ c12 ws true _ ?hC (Kd.S_reads' HOS.out).2.1 ?hD HWC.out HSA.out).mono ?_; (case hC => repeat (first | exact (Kd.S_reads' HOS.out).2.2 | (with_reducible refine Kd.C_alloc ?_ _) | (with_reducible refine Kd.C_drewN ?_ _) | (with_reducible refine Kd.C_drew ?_))); (case hD => repeat (first | exact HCW.out | (with_reducible refine Kd.C_alloc ?_ _) | (with_reducible refine Kd.C_drewN ?_ _) | (with_reducible refine Kd.C_drew ?_))); rintro e we ⟨rfl, hb⟩; refine ⟨_, rfl, ?_⟩; have HBe := Aside0.mk (below_step (by repeat (first | (with_reducible first | exact HBl.out | apply below_alloc | apply pw_below_drewN | apply below_drew1) | exact HBl.out)) hb); clear hb))
                    go_ret
                    exact ⟨by first | rfl | (simp; done) | (simp only [hr2c]; rfl) | (simp only [hr2b]; rfl) | (simp [hr2b]; done) | (simp [hr2c]; done), (by repeat (first | (with_reducible first | exact HBe.out | apply below_alloc | apply pw_below_drewN | apply below_drew1) | exact HBe.out))⟩
                  rw [if_pos f2] at H
                  have f2b : decide (i3 < 1) = true := decide_eq_true f2
                  by_cases f3 : 0 ≤ i3 ∧ i3 < (y.length : Int)
                  case neg => rw [if_neg f3] at H; exact absurd H (by simp)
                  rw [if_pos f3] at H
                  by_cases f4 : x3.length < 140737488355328
                  case neg => rw [if_neg f4] at H; exact absurd H (by simp)
                  rw [if_pos f4] at H
                  have HN := Aside0.mk H
                  have HLN := Aside0.mk f4
                  have hyc := Kd.R_celln (0 : Int) HOY.out i3 f3.1 f3.2
                  have hyi : wr.cell? ⟨gy, i3.toNat, none⟩ = some (.int .u8 (rd y i3)) := hyc.1
                  have pi3 := eq_true f3.1
                  have qi3 := eq_true f3.2
                  clear H hyc f1 f2 f3 f4
                  go_wp2_with (((with_reducible refine gate_builtin (b := .append) (xs := #[.tmp 121, .tmp 126]) rfl ?_); at_builtin; refine Kd.R_append (Kd.int .u8) (w0 := w) w.heap.size rfl (.tmp 121) (.tmp 126) 23 5 (.int .u8 0) 1 rfl Tryd.underlying23 info5 rfl (by decide) (by omega) (.slice A9 x3.length c9) x3 (rd y i3) [.int .u8 (rd y i3)] (fun _ => True) (fun _ => False) rfl rfl rfl (fun _ hk => hk.elim) (fun _ _ => trivial) (by (with_reducible repeat (first | apply Kd.R_alloc | apply Kd.R_drewN | apply Kd.R_drew)); exact HO.out) (by repeat (first | (with_reducible first | exact HB.out | apply below_alloc | apply pw_below_drewN | apply below_drew1) | exact HB.out)) (below_size (by repeat (first | (with_reducible first | exact HB.out | apply below_alloc | apply pw_below_drewN | apply below_drew1) | exact HB.out))) (by have := HLN.out; omega) ?_; intro v9n w7 ho hb hg hat; have HO7 := Aside0.mk ho; have HB7 := Aside0.mk hb; have HOW7 := Aside0.mk (Kd.R_grown2 (by (with_reducible repeat (first | apply Kd.R_alloc | apply Kd.R_drewN | apply Kd.R_drew)); exact HOW.out) rfl hg (fun k_ e_ e2_ => (NY.out k_ e_).1 e2_)); have HOY7 := Aside0.mk (Kd.R_grown2 (by (with_reducible repeat (first | apply Kd.R_alloc | apply Kd.R_drewN | apply Kd.R_drew)); exact HOY.out) rfl hg (fun k_ e_ e2_ => (NY.out k_ e_).2 e2_)); have NY2 := Aside0.mk (show ∀ k_, Value.ownBlock v9n = some k_ → some k_ ≠ Value.ownBlock (.slice A12 ps.length c12) ∧ some k_ ≠ Value.ownBlock (.slice (some ⟨gy, 0, none⟩) y.length cb) from fun k_ e_ => (by rcases hat with hat | ⟨b_, hb_, hle_⟩; (exact NY.out k_ (hat ▸ e_)); (rw [hb_] at e_; injection e_ with e3_; subst e3_; exact ⟨fun e4_ => absurd (Kd.R_lt (by (with_reducible repeat (first | apply Kd.R_alloc | apply Kd.R_drewN | apply Kd.R_drew)); exact HOW.out) _ e4_.symm) (Nat.not_lt.2 hle_), fun e4_ => absurd (Kd.R_lt (by (with_reducible repeat (first | apply Kd.R_alloc | apply Kd.R_drewN | apply Kd.R_drew)); exact HOY.out) _ e4_.symm) (Nat.not_lt.2 hle_)⟩))); clear ho hb hg hat))
                  go_roundg k3
                  case measure => have := HK.out; omega
                  case rel => exact ⟨_, _, _, rfl, rfl, HN, ⟨by have := HK.out; omega⟩, ⟨(by (with_reducible repeat (first | apply Kd.R_alloc | apply Kd.R_drewN | apply Kd.R_drew)); exact HO7.out)⟩, ⟨(by (with_reducible repeat (first | apply Kd.R_alloc | apply Kd.R_drewN | apply Kd.R_drew)); exact HOW7.out)⟩, ⟨(by (with_reducible repeat (first | apply Kd.R_alloc | apply Kd.R_drewN | apply Kd.R_drew)); exact HOY7.out)⟩, NY2, ⟨(by repeat (first | (with_reducible first | exact HB7.out | apply below_alloc | apply pw_below_drewN | apply below_drew1) | exact HB7.out))⟩⟩
            rw [if_pos d2] at H
            have d2b : decide (i' < 20) = true := decide_eq_true d2
            by_cases d3 : 0 ≤ i'
            case neg => rw [if_neg d3] at H; exact absurd H (by simp)
            rw [if_pos d3] at H
            obtain ⟨⟨b, pe⟩, hs1, H2⟩ := Option.bind_eq_some_iff.mp H
            have HS1 := Aside0.mk hs1
            obtain ⟨adl, Ab0, cb0, eA, hx_, hbl_, hbc_⟩ := at_L2 HR1.out i' d3 d1
            cases eA
            have HCB0 := Aside0.mk hbc_
            have HCB0L := Aside0.mk hbl_
            have hxi' := (HB.out.cell (World.block_lt_of_cell? w _ hx_)).trans hx_
            have HXW := Aside0.mk hx_
            have pi' := eq_true d3
            have qi' := eq_true d1
            clear hs1 H hx_ hbl_ hbc_ d1 d2 d3
            by_cases d4 : pe = 0
            case neg =>
              have HN := Aside0.mk (show grapevinelaw01_SealFinds.l1 k2 l1 x' ws (wrap64 (i' + 1)) = some (xb, wb) from (if_neg d4).symm.trans H2)
              have d4b : (pe == 0) = false := beq_eq_false_iff_ne.mpr d4
              clear d4 H2
              go_wp2_with (((with_reducible refine gate_callee (f := 21) rfl ?_); refine goesL_ (some 68) rfl rfl Tryd.func21 (by kernel_rfl) rfl #[.int .u8 (i' % 256), .slice Ab0 (rd_L2 l1 i').length cb0] rfl (by (try simp only [List.map_toArray, List.map_cons, List.map_nil]); first | done | rfl) ?_; refine (seal_Seal.calls k2 (i' % 256) _ cb0 _ b pe _ ?hC HCB0L.out (TabW.below HT.out (by repeat (first | (with_reducible first | exact HB.out | apply below_alloc | apply pw_below_drewN | apply below_drew1) | exact HB.out))) HS1.out).mono ?_; (case hC => with_reducible repeat (first | exact (Kd.C_below HCB0.out HB.out) | refine Kd.C_alloc ?_ _ | refine Kd.C_drewN ?_ _ | refine Kd.C_drew ?_)); rintro e w3 ⟨vb, rfl, ho, hb⟩; refine ⟨_, rfl, ?_⟩; have HBn := Aside0.mk (below_step (by repeat (first | (with_reducible first | exact HB.out | apply below_alloc | apply pw_below_drewN | apply below_drew1) | exact HB.out)) hb); have HOB := Aside0.mk (Kd.R_lower ho (below_size (by repeat (first | (with_reducible first | exact HB.out | apply below_alloc | apply pw_below_drewN | apply below_drew1) | exact HB.out)))); have n0_ := Aside0.mk (Kd.R_below (by (with_reducible repeat (first | apply Kd.R_alloc | apply Kd.R_drewN | apply Kd.R_drew)); exact HO.out) hb); have n1_ := Aside0.mk (Kd.R_below (by (with_reducible repeat (first | apply Kd.R_alloc | apply Kd.R_drewN | apply Kd.R_drew)); exact HOW.out) hb); have NB0 := Aside0.mk (show ∀ k_, Value.ownBlock vb = some k_ → some k_ ≠ Value.ownBlock (.slice A9 x'.length c9 : Value) ∧ some k_ ≠ Value.ownBlock (.slice A12 ps.length c12 : Value) from fun k_ e_ => (by have g1_ := Kd.R_base ho k_ e_; exact ⟨fun e2_ => absurd (Kd.R_lt (by (with_reducible repeat (first | apply Kd.R_alloc | apply Kd.R_drewN | apply Kd.R_drew)); exact HO.out) k_ e2_.symm) (Nat.not_lt.2 g1_), fun e2_ => absurd (Kd.R_lt (by (with_reducible repeat (first | apply Kd.R_alloc | apply Kd.R_drewN | apply Kd.R_drew)); exact HOW.out) k_ e2_.symm) (Nat.not_lt.2 g1_)⟩)); clear HO HOW HB; have HO := n0_; have HOW := n1_; have HB := HBn; clear n0_ n1_ HBn; clear ho hb; obtain ⟨Ab, cb, eb⟩ := Kd.R_slice HOB.out; subst eb))
              go_roundg k2
              case measure => have := HK.out; omega
              case rel => exact ⟨x', ps, ws, _, rfl, HN, ⟨by have := HK.out; omega⟩, ⟨(by (with_reducible repeat (first | apply Kd.R_alloc | apply Kd.R_drewN | apply Kd.R_drew)); exact HO.out)⟩, ⟨(by (with_reducible repeat (first | apply Kd.R_alloc | apply Kd.R_drewN | apply Kd.R_drew)); exact HOW.out)⟩, NE, WR, ⟨(by repeat (first | (with_reducible first | exact HB.out | apply below_alloc | apply pw_below_drewN | apply below_drew1) | exact HB.out))⟩⟩
            subst d4
            have H3_ : (if wrap64 ((x'.length : Int) + (b.length : Int)) ≤ 8000 then (if x'.length + b.length < 140737488355328 ∧ ws.length < 3518437208882 then grapevinelaw01_SealFinds.l1 k2 l1 (x' ++ b) (ws ++ [⟨i' % 256, (x'.length : Int), rd_L2 l1 i'⟩]) (wrap64 (i' + 1)) else none) else grapevinelaw01_SealFinds.l1 k2 l1 x' ws (wrap64 (i' + 1))) = some (xb, wb) := (if_pos rfl).symm.trans H2
            clear H2
            by_cases d5 : wrap64 ((x'.length : Int) + (b.length : Int)) ≤ 8000
            case neg =>
              rw [if_neg d5] at H3_
              have HN := Aside0.mk H3_
              have d5b : decide (wrap64 ((x'.length : Int) + (b.length : Int)) ≤ 8000) = false := decide_eq_false d5
              clear d5 H3_
              go_wp2_with (((with_reducible refine gate_callee (f := 21) rfl ?_); refine goesL_ (some 68) rfl rfl Tryd.func21 (by kernel_rfl) rfl #[.int .u8 (i' % 256), .slice Ab0 (rd_L2 l1 i').length cb0] rfl (by (try simp only [List.map_toArray, List.map_cons, List.map_nil]); first | done | rfl) ?_; refine (seal_Seal.calls k2 (i' % 256) _ cb0 _ b 0 _ ?hC HCB0L.out (TabW.below HT.out (by repeat (first | (with_reducible first | exact HB.out | apply below_alloc | apply pw_below_drewN | apply below_drew1) | exact HB.out))) HS1.out).mono ?_; (case hC => with_reducible repeat (first | exact (Kd.C_below HCB0.out HB.out) | refine Kd.C_alloc ?_ _ | refine Kd.C_drewN ?_ _ | refine Kd.C_drew ?_)); rintro e w3 ⟨vb, rfl, ho, hb⟩; refine ⟨_, rfl, ?_⟩; have HBn := Aside0.mk (below_step (by repeat (first | (with_reducible first | exact HB.out | apply below_alloc | apply pw_below_drewN | apply below_drew1) | exact HB.out)) hb); have HOB := Aside0.mk (Kd.R_lower ho (below_size (by repeat (first | (with_reducible first | exact HB.out | apply below_alloc | apply pw_below_drewN | apply below_drew1) | exact HB.out)))); have n0_ := Aside0.mk (Kd.R_below (by (with_reducible repeat (first | apply Kd.R_alloc | apply Kd.R_drewN | apply Kd.R_drew)); exact HO.out) hb); have n1_ := Aside0.mk (Kd.R_below (by (with_reducible repeat (first | apply Kd.R_alloc | apply Kd.R_drewN | apply Kd.R_drew)); exact HOW.out) hb); have NB0 := Aside0.mk (show ∀ k_, Value.ownBlock vb = some k_ → some k_ ≠ Value.ownBlock (.slice A9 x'.length c9 : Value) ∧ some k_ ≠ Value.ownBlock (.slice A12 ps.length c12 : Value) from fun k_ e_ => (by have g1_ := Kd.R_base ho k_ e_; exact ⟨fun e2_ => absurd (Kd.R_lt (by (with_reducible repeat (first | apply Kd.R_alloc | apply Kd.R_drewN | apply Kd.R_drew)); exact HO.out) k_ e2_.symm) (Nat.not_lt.2 g1_), fun e2_ => absurd (Kd.R_lt (by (with_reducible repeat (first | apply Kd.R_alloc | apply Kd.R_drewN | apply Kd.R_drew)); exact HOW.out) k_ e2_.symm) (Nat.not_lt.2 g1_)⟩)); clear HO HOW HB; have HO := n0_; have HOW := n1_; have HB := HBn; clear n0_ n1_ HBn; clear ho hb; obtain ⟨Ab, cb, eb⟩ := Kd.R_slice HOB.out; subst eb))
              go_roundg k2
              case measure => have := HK.out; omega
              case rel => exact ⟨x', ps, ws, _, rfl, HN, ⟨by have := HK.out; omega⟩, ⟨(by (with_reducible repeat (first | apply Kd.R_alloc | apply Kd.R_drewN | apply Kd.R_drew)); exact HO.out)⟩, ⟨(by (with_reducible repeat (first | apply Kd.R_alloc | apply Kd.R_drewN | apply Kd.R_drew)); exact HOW.out)⟩, NE, WR, ⟨(by repeat (first | (with_reducible first | exact HB.out | apply below_alloc | apply pw_below_drewN | apply below_drew1) | exact HB.out))⟩⟩
            rw [if_pos d5] at H3_
            by_cases d6 : x'.length + b.length < 140737488355328 ∧ ws.length < 3518437208882
            case neg => rw [if_neg d6] at H3_; exact absurd H3_ (by simp)
            rw [if_pos d6] at H3_
            have HN := Aside0.mk H3_
            have HLN := Aside0.mk d6
            have d5b : decide (wrap64 ((x'.length : Int) + (b.length : Int)) ≤ 8000) = true := decide_eq_true d5
            clear d5 d6 H3_
            go_wp2_with (first | ((with_reducible refine gate_callee (f := 21) rfl ?_); refine goesL_ (some 68) rfl rfl Tryd.func21 (by kernel_rfl) rfl #[.int .u8 (i' % 256), .slice Ab0 (rd_L2 l1 i').length cb0] rfl (by (try simp only [List.map_toArray, List.map_cons, List.map_nil]); first | done | rfl) ?_; refine (seal_Seal.calls k2 (i' % 256) _ cb0 _ b 0 _ ?hC HCB0L.out (TabW.below HT.out (by repeat (first | (with_reducible first | exact HB.out | apply below_alloc | apply pw_below_drewN | apply below_drew1) | exact HB.out))) HS1.out).mono ?_; (case hC => with_reducible repeat (first | exact (Kd.C_below HCB0.out HB.out) | refine Kd.C_alloc ?_ _ | refine Kd.C_drewN ?_ _ | refine Kd.C_drew ?_)); rintro e w3 ⟨vb, rfl, ho, hb⟩; refine ⟨_, rfl, ?_⟩; have HBn := Aside0.mk (below_step (by repeat (first | (with_reducible first | exact HB.out | apply below_alloc | apply pw_below_drewN | apply below_drew1) | exact HB.out)) hb); have HOB := Aside0.mk (Kd.R_lower ho (below_size (by repeat (first | (with_reducible first | exact HB.out | apply below_alloc | apply pw_below_drewN | apply below_drew1) | exact HB.out)))); have n0_ := Aside0.mk (Kd.R_below (by (with_reducible repeat (first | apply Kd.R_alloc | apply Kd.R_drewN | apply Kd.R_drew)); exact HO.out) hb); have n1_ := Aside0.mk (Kd.R_below (by (with_reducible repeat (first | apply Kd.R_alloc | apply Kd.R_drewN | apply Kd.R_drew)); exact HOW.out) hb); have NB0 := Aside0.mk (show ∀ k_, Value.ownBlock vb = some k_ → some k_ ≠ Value.ownBlock (.slice A9 x'.length c9 : Value) ∧ some k_ ≠ Value.ownBlock (.slice A12 ps.length c12 : Value) from fun k_ e_ => (by have g1_ := Kd.R_base ho k_ e_; exact ⟨fun e2_ => absurd (Kd.R_lt (by (with_reducible repeat (first | apply Kd.R_alloc | apply Kd.R_drewN | apply Kd.R_drew)); exact HO.out) k_ e2_.symm) (Nat.not_lt.2 g1_), fun e2_ => absurd (Kd.R_lt (by (with_reducible repeat (first | apply Kd.R_alloc | apply Kd.R_drewN | apply Kd.R_drew)); exact HOW.out) k_ e2_.symm) (Nat.not_lt.2 g1_)⟩)); clear HO HOW HB; have HO := n0_; have HOW := n1_; have HB := HBn; clear n0_ n1_ HBn; clear ho hb; obtain ⟨Ab, cb, eb⟩ := Kd.R_slice HOB.out; subst eb; have hxi3 := (HB.out.cell (World.block_lt_of_cell? w _ HXW.out)).trans HXW.out) | ((with_reducible refine gate_builtin (b := .append) (xs := #[.tmp 81, .tmp 91]) rfl ?_); at_builtin; refine Kd.R_append KdW (w0 := w) w.heap.size rfl (.tmp 81) (.tmp 91) 51 39 (.agg #[.int .u8 0, .int .i64 0, .slice none 0 0]) 40 rfl Tryd.underlying51 info39 rfl (by decide) (by omega) (.slice A12 ps.length c12 : Value) ps (i' % 256, (x'.length : Int), (Ab0, (rd_L2 l1 i').length, cb0)) [.int .u8 (i' % 256), .int .i64 (x'.length : Int), .slice Ab0 (rd_L2 l1 i').length cb0] (fun _ => True) (fun _ => False) rfl rfl ⟨[.int .u8 (i' % 256)], [.int .i64 (x'.length : Int), .slice Ab0 (rd_L2 l1 i').length cb0], rfl, rfl, ⟨[.int .i64 (x'.length : Int)], [.slice Ab0 (rd_L2 l1 i').length cb0], rfl, rfl, rfl⟩⟩ (fun _ hk => hk.elim) (fun _ _ => trivial) (by (with_reducible repeat (first | apply Kd.R_alloc | apply Kd.R_drewN | apply Kd.R_drew)); exact HOW.out) (by repeat (first | (with_reducible first | exact HB.out | apply below_alloc | apply pw_below_drewN | apply below_drew1) | exact HB.out)) (below_size (by repeat (first | (with_reducible first | exact HB.out | apply below_alloc | apply pw_below_drewN | apply below_drew1) | exact HB.out))) (by have h1_ := HLN.out; have h2_ := WR.out.length; omega) ?_; intro v12n w4 ho hb hg hat; have n0_ := Aside0.mk (Kd.R_grown2 (by (with_reducible repeat (first | apply Kd.R_alloc | apply Kd.R_drewN | apply Kd.R_drew)); exact HO.out) rfl hg (fun k_ e_ e2_ => NE.out k_ e2_.symm e_.symm)); have n1_ := Aside0.mk (Kd.R_grown2 (by (with_reducible repeat (first | apply Kd.R_alloc | apply Kd.R_drewN | apply Kd.R_drew)); exact HOB.out) rfl hg (fun k_ e_ e2_ => (NB0.out k_ e2_.symm).2 e_.symm)); have NE2 := Aside0.mk (show ∀ k_, Value.ownBlock (.slice A9 x'.length c9 : Value) = some k_ → some k_ ≠ Value.ownBlock v12n from fun k_ e_ e2_ => (by rcases hat with hat | ⟨b_, hb_, hle_⟩; (exact NE.out k_ e_ (e2_.trans hat)); (rw [hb_] at e2_; injection e2_ with e3_; subst e3_; exact absurd (Kd.R_lt (by (with_reducible repeat (first | apply Kd.R_alloc | apply Kd.R_drewN | apply Kd.R_drew)); exact HO.out) _ e_) (Nat.not_lt.2 hle_)))); have WR2 := Aside0.mk (WR.out.snoc (p := (i' % 256, (x'.length : Int), (Ab0, (rd_L2 l1 i').length, cb0))) (s := ⟨i' % 256, (x'.length : Int), rd_L2 l1 i'⟩) ⟨rfl, rfl, rfl, HCB0L.out, HCB0.out⟩); have HOW2 := Aside0.mk ho; have HB2 := Aside0.mk hb; clear HO HOB HOW HB; have HO := n0_; have HOB := n1_; have HB := HB2; clear n0_ n1_ HB2; clear ho hb hg hat) | ((with_reducible refine gate_builtin (b := .append) (xs := #[.tmp 93, .tmp 94]) rfl ?_); at_builtin; refine Kd.R_append_rows (Kd.int .u8) (w0 := w) w.heap.size rfl (.tmp 93) (.tmp 94) 23 5 (.int .u8 0) 1 rfl Tryd.underlying23 info5 rfl (by decide) (by omega) (.slice A9 x'.length c9 : Value) x' b _ _ _ (fun _ => True) (fun _ => False) rfl rfl ?aO ?aR (fun _ _ h => h) (fun _ h => h.elim) ?aF ?aB ?aS ?aL ?_; (case aR => repeat (first | exact (Kd.R_reads' HOB.out).2.2 | (with_reducible refine Kd.C_alloc ?_ _) | (with_reducible refine Kd.C_drewN ?_ _) | (with_reducible refine Kd.C_drew ?_))); (case aB => exact (by repeat (first | (with_reducible first | exact HB.out | apply below_alloc | apply pw_below_drewN | apply below_drew1) | exact HB.out))); (case aF => exact (fun _ _ => trivial)); (case aO => exact (by (with_reducible repeat (first | apply Kd.R_alloc | apply Kd.R_drewN | apply Kd.R_drew)); exact HO.out)); (case aS => exact (below_size (by repeat (first | (with_reducible first | exact HB.out | apply below_alloc | apply pw_below_drewN | apply below_drew1) | exact HB.out)))); (case aL => (have := HLN.out; omega)); intro v9n w5 ho hb hg hat; have HOW3 := Aside0.mk (Kd.R_grown2 (by (with_reducible repeat (first | apply Kd.R_alloc | apply Kd.R_drewN | apply Kd.R_drew)); exact HOW2.out) rfl hg (fun k_ e_ e2_ => NE2.out k_ e_ e2_)); have NE3 := Aside0.mk (show ∀ k_, Value.ownBlock v9n = some k_ → some k_ ≠ Value.ownBlock v12n from fun k_ e_ e2_ => (by rcases hat with hat | ⟨b_, hb_, hle_⟩; (exact NE2.out k_ (hat ▸ e_) e2_); (rw [hb_] at e_; injection e_ with e3_; subst e3_; exact absurd (Kd.R_lt (by (with_reducible repeat (first | apply Kd.R_alloc | apply Kd.R_drewN | apply Kd.R_drew)); exact HOW2.out) _ e2_.symm) (Nat.not_lt.2 hle_)))); have HO3 := Aside0.mk ho; have HB3 := Aside0.mk hb; clear HO HOB; clear ho hb hg hat))
            go_roundg k2
            case measure => have := HK.out; omega
            case rel => exact ⟨_, _, _, _, rfl, HN, ⟨by have := HK.out; omega⟩, ⟨(by (with_reducible repeat (first | apply Kd.R_alloc | apply Kd.R_drewN | apply Kd.R_drew)); exact HO3.out)⟩, ⟨(by (with_reducible repeat (first | apply Kd.R_alloc | apply Kd.R_drewN | apply Kd.R_drew)); exact HOW3.out)⟩, NE3, WR2, ⟨(by repeat (first | (with_reducible first | exact HB3.out | apply below_alloc | apply pw_below_drewN | apply below_drew1) | exact HB3.out))⟩⟩
      rw [if_pos c2] at H
      have c2b : decide (i < 500) = true := decide_eq_true c2
      by_cases c3 : 0 ≤ i
      case neg => rw [if_neg c3] at H; exact absurd H (by simp)
      rw [if_pos c3] at H
      obtain ⟨ad, eA, hx_⟩ := Kd.at_int HR0.out i c3 c1
      cases eA
      have hxi := (HB.out.cell (World.block_lt_of_cell? w _ hx_)).trans hx_
      have pi := eq_true c3
      have qi := eq_true c1
      clear hx_ c1 c2 c3
      by_cases c4 : rd l0 i = 167
      · rw [if_pos c4] at H
        have HN := Aside0.mk H
        clear H
        have c4b : (rd l0 i != 167) = false := by simpa using c4
        clear c4
        go_wp2
        go_roundg k1
        case measure => have := HK.out; omega
        case rel => exact ⟨x, _, rfl, HN, ⟨by have := HK.out; omega⟩, ⟨(by (with_reducible repeat (first | apply Kd.R_alloc | apply Kd.R_drewN | apply Kd.R_drew)); exact HO.out)⟩, ⟨(by repeat (first | (with_reducible first | exact HB.out | apply below_alloc | apply pw_below_drewN | apply below_drew1) | exact HB.out))⟩⟩
      · rw [if_neg c4] at H
        by_cases c5 : x.length < 140737488355328
        case neg => rw [if_neg c5] at H; exact absurd H (by simp)
        rw [if_pos c5] at H
        have HN := Aside0.mk H
        have HLN := Aside0.mk c5
        clear H c5
        have c4b : (rd l0 i != 167) = true := by simpa using c4
        clear c4
        go_wp2_with (((with_reducible refine gate_builtin (b := .append) (xs := #[.tmp 42, .tmp 47]) rfl ?_); at_builtin; refine Kd.R_append (Kd.int .u8) (w0 := w) w.heap.size rfl (.tmp 42) (.tmp 47) 23 5 (.int .u8 0) 1 rfl Tryd.underlying23 info5 rfl (by decide) (by omega) _ x (rd l0 i) [.int .u8 (rd l0 i)] (fun _ => True) (fun _ => False) rfl rfl rfl (fun _ hk => hk.elim) (fun _ _ => trivial) (by (with_reducible repeat (first | apply Kd.R_alloc | apply Kd.R_drewN | apply Kd.R_drew)); exact HO.out) (by repeat (first | (with_reducible first | exact HB.out | apply below_alloc | apply pw_below_drewN | apply below_drew1) | exact HB.out)) (below_size (by repeat (first | (with_reducible first | exact HB.out | apply below_alloc | apply pw_below_drewN | apply below_drew1) | exact HB.out))) (by have := HLN.out; omega) ?_; intro v2 w2 ho hb hg hat; have HO2 := Aside0.mk ho; have HB2 := Aside0.mk hb; clear ho hb hg hat))
        go_roundg k1
        case measure => have := HK.out; omega
        case rel => exact ⟨_, _, rfl, HN, ⟨by have := HK.out; omega⟩, ⟨(by (with_reducible repeat (first | apply Kd.R_alloc | apply Kd.R_drewN | apply Kd.R_drew)); exact HO2.out)⟩, ⟨(by repeat (first | (with_reducible first | exact HB2.out | apply below_alloc | apply pw_below_drewN | apply below_drew1) | exact HB2.out))⟩⟩


end Go.Proofs.YtnbhlaoblnalpaaDoor.PE
