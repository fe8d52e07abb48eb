-- PRINTED by gprint.py (a session's own driver over the kit's print): not trusted; Lean checks it.
import Derived.Test.YtffefaiaifhokaaSOPTx0
import Derived.Test.YtffefaiaifhokaaSOPTx10
namespace Go.Proofs.Ytffefaiaifhokaa.PT
open Go.RowKit Go.Proofs.YtffefaiaifhokaaW.PrintWords Go.Proofs.YtffefaiaifhokaaW.PrintLast Go.Proofs.YtffefaiaifhokaaW.PrintMore
set_option linter.unusedVariables false
set_option linter.unusedSimpArgs false

/-! ### span_zip: function 74 -/
-- GIVEN-ALONE: typed by hand: the walks of (*row).next and of zip, its function value a number
def rw_skip (l : List S38) (at_ : Int) : List S38 := l.dropWhile (fun s => decide (s.f1 < at_))
def rw_know (l : List S38) (at_ : Int) : Int := match l with
 | [] => 0
 | s :: _ => if s.f0 > at_ then 0 else s.f2
def rw_end (l : List S38) (at_ : Int) : Int := match l with
 | [] => 1099511627776
 | s :: _ => if s.f0 > at_ then wrap64 (s.f0 - 1) else s.f1
theorem rw_skip_cons_lt {s : S38} {l : List S38} {a : Int} (h : s.f1 < a) : rw_skip (s :: l) a = rw_skip l a := by
 unfold rw_skip; rw [List.dropWhile_cons, if_pos (by simpa using h)]
theorem rw_skip_cons_ge {s : S38} {l : List S38} {a : Int} (h : ¬ s.f1 < a) : rw_skip (s :: l) a = s :: l := by
 unfold rw_skip; rw [List.dropWhile_cons, if_neg (by simpa using h)]
theorem rw_head {w : World} {A : Option Addr} {s : S38} {l : List S38} {n : Nat} (h : Kd.C k38 w A n (s :: l)) (hn : 0 < n) :
 ∃ ad, A = some ad ∧ w.cell? ad = some (.int .i64 s.f0) ∧ w.cell? ⟨ad.block, ad.off + 1, none⟩ = some (.int .i64 s.f1) ∧ w.cell? ⟨ad.block, ad.off + 2, none⟩ = some (.int .i64 s.f2) := by
 obtain ⟨ad, e, h0, h1, h2⟩ := at_T38 h 0 (Int.le_refl 0) (by omega)
 exact ⟨ad, e, h0, h1, h2⟩

theorem only_setCell {a w : World} {g : Nat} (h : a.grownBy w (some g)) {p : Addr} (hp : p.block = g ∨ a.heap.size ≤ p.block) (u : Value) : a.grownBy (w.setCell p u) (some g) :=
 ⟨h.os, h.tape, h.output, by simpa [World.setCell] using h.size, fun i hi hne => (Below.heap_setCell w p u i (by
  rintro rfl
  rcases hp with hp | hp
  ·
   exact hne (by rw [hp])
  omega)).trans (h.block i hi hne)⟩
theorem grown_drewN {a w : World} {row : Option Nat} (h : a.grownBy w row) (n : Nat) : a.grownBy (w.drewN n) row := ⟨h.os, h.tape, h.output, h.size, h.block⟩
set_option maxHeartbeats 400000 in
set_option maxRecDepth 100000 in
theorem next_calls (g : Nat) (A : Option Addr) (c : Nat) (l : List S38) (at_ : Int) (w0 w : World) (hB : Below w0.heap.size w0 w) (hg : w0.heap.size ≤ g)
 (hr : Kd.C k38 w0 A l.length l) (hc : l.length ≤ c) (hb : w.heap[g]? = some (.cells #[.slice A l.length c, .int .i64 at_] 122 (0, 0))) :
 Calls Try.prog 84 #[.pointer (some ⟨g, 0, none⟩)] w fun e w' => ∃ A' c', e = .returned (.tuple #[.int .i64 (rw_know (rw_skip l at_) at_), .int .i64 (rw_end (rw_skip l at_) at_)]) ∧
  w'.heap[g]? = some (.cells #[.slice A' (rw_skip l at_).length c', .int .i64 at_] 122 (0, 0)) ∧ Kd.C k38 w0 A' (rw_skip l at_).length (rw_skip l at_) ∧ (rw_skip l at_).length ≤ c' ∧ w.grownBy w' (some g) := by
 have HB := Aside0.mk hB
 have HR := Aside0.mk hr
 have HC := Aside0.mk hc
 have HX := Aside0.mk hb
 clear hB hr hc hb
 go_enter Try.func84, Try.ntmps84
 go_wp2
 go_loopg [] l.length (fun kq w' => ∃ A' c' l', Aside0 (rw_skip l at_ = rw_skip l' at_) ∧ Aside0 (l'.length ≤ kq) ∧ Aside0 (Kd.C k38 w0 A' l'.length l') ∧ Aside0 (l'.length ≤ c') ∧ Aside0 (w'.heap[g]? = some (.cells #[.slice A' l'.length c', .int .i64 at_] 122 (0, 0))) ∧ Aside0 (Below w0.heap.size w0 w') ∧ Aside0 (w.grownBy w' (some g)))
 case atStart => exact ⟨A, c, l, ⟨rfl⟩, ⟨Nat.le_refl _⟩, HR, HC, HX, HB, ⟨World.grownBy.refl _ _⟩⟩
 case round =>
  obtain ⟨A', c', l', HS, HK, HR, HC, HX, HB, HG⟩ := hrel
  have q0 : wr.cell? ⟨g, 0, none⟩ = some (.slice A' l'.length c') := (blk_cell HX.out 0).trans rfl
  have q1 : wr.cell? ⟨g, 1, none⟩ = some (.int .i64 at_) := (blk_cell HX.out 1).trans rfl
  cases l' with
  | nil =>
   go_wp2
   go_quiet (fail)
   go_wp2
   go_ret2
   have e1 : rw_skip l at_ = [] := HS.out
   exact ⟨A', c', by rw [e1]; rfl, by rw [e1]; exact HX.out, by rw [e1]; exact HR.out, by rw [e1]; exact HC.out, by repeat (first | exact HG.out | apply grown_drewN)⟩
  | cons s l' =>
   obtain ⟨ad, rfl, h0, h1, h2⟩ := rw_head HR.out (by simp)
   have g0 := (HB.out.cell (World.block_lt_of_cell? w0 _ h0)).trans h0
   have g1 := (HB.out.cell (World.block_lt_of_cell? w0 _ h1)).trans h1
   have g2 := (HB.out.cell (World.block_lt_of_cell? w0 _ h2)).trans h2
   clear h0 h1 h2
   have fz : wr.frozen? ⟨g, 0, none⟩ = false := blk_frozen HX.out _
   by_cases hlt : s.f1 < at_
   ·
    obtain ⟨A2, hA2⟩ : ∃ A2, A2 = (if c' = 1 then some ad else (some ad).map (·.add (1 * 3))) := ⟨_, rfl⟩
    have hC2 : Kd.C k38 w0 A2 l'.length l' := by
     rw [hA2]; exact Kd.C_drop (m := 1) HR.out (by simp) HC.out
    have hsl : ∀ W : World, (Instr.slice 30 (.slice (some ad) (l'.length + 1) c') (some (.int .i64 1)) none none).run Try.prog W = .ok (.slice A2 l'.length (c' - 1)) W := by
     intro W
     obtain ⟨i0, hi, hz⟩ := Option.map_eq_some_iff.1 info38
     simp only [Prod.mk.injEq] at hz
     rw [hA2]
     exact cut_from (P := Try.prog) 30 38 .i64 Try.underlying30 hi 3 hz.2.1 (some ad) (l'.length + 1) c' 1 (by omega) (by omega) W
    have HA2 := Aside0.mk hA2
    have HC2 := Aside0.mk hC2
    clear hA2 hC2
    go_wp2
    go_quiet (fail)
    go_wp2
    cases gk with
    | zero => exact absurd HK.out (by simp)
    | succ k2 =>
     go_roundg k2
     case measure => omega
     case rel =>
      have hc := HC.out
      have hk := HK.out
      simp only [List.length_cons] at hc hk
      exact ⟨A2, c' - 1, l', ⟨by rw [HS.out, rw_skip_cons_lt hlt]⟩, ⟨by omega⟩, HC2, ⟨by omega⟩, ⟨blk_put (cs := #[.slice (some ad) (l'.length + 1) c', .int .i64 at_]) (by exact HX.out) 0 _ rfl⟩, ⟨below_set (pw_below_drewN HB.out _) hg⟩, ⟨only_setCell (grown_drewN HG.out _) (.inl rfl) _⟩⟩
   have e1 : rw_skip l at_ = s :: l' := by rw [HS.out, rw_skip_cons_ge hlt]
   have E1 := Aside0.mk e1
   clear e1
   by_cases hgt : s.f0 > at_
   ·
    go_wp2
    go_quiet (fail)
    go_wp2
    go_quiet (fail)
    go_wp2
    go_quiet (fail)
    go_wp2
    go_ret2
    refine ⟨some ad, c', ?_, by rw [E1.out]; exact HX.out, by rw [E1.out]; exact HR.out, by rw [E1.out]; exact HC.out, by repeat (first | exact HG.out | apply grown_drewN)⟩
    rw [E1.out]
    simp only [rw_know, rw_end]; rw [if_pos (by omega), if_pos (by omega)]; rfl
   go_wp2
   go_quiet (fail)
   go_wp2
   go_quiet (fail)
   go_wp2
   go_quiet (fail)
   go_wp2
   go_ret2
   refine ⟨some ad, c', ?_, by rw [E1.out]; exact HX.out, by rw [E1.out]; exact HR.out, by rw [E1.out]; exact HC.out, by repeat (first | exact HG.out | apply grown_drewN)⟩
   rw [E1.out]
   simp only [rw_know, rw_end]; rw [if_neg (by omega), if_neg (by omega)]; rfl
theorem min2_mn (k k' : IntKind) (x y : Int) : Builtin.min2 (.int k x) (.int k' y) = pure (.int k (mn x y)) := min2_int k k' x y
attribute [local go_sem] max2_int min2_mn max_two min_two
def span_zip.one (fid : Nat) (x y : Int) : Int :=
 if fid = 81 then mx x y else if fid = 75 then (if y = 0 then 0 else x) else if fid = 76 then (if y = 0 then x else 0) else (if x = 0 then y else 0)
def span_zip.l0 : Nat → List S38 → List S38 → Nat → List S38 → Int → Option (List S38)
 | 0, _, _, _, _, _ => none
 | k + 1, p, q, fid, out, at_ => if at_ ≤ 1099511627776 then
  ((span_add.f k out at_ (mn (rw_end (rw_skip p at_) at_) (rw_end (rw_skip q at_) at_)) (span_zip.one fid (rw_know (rw_skip p at_) at_) (rw_know (rw_skip q at_) at_))).bind fun o =>
   span_zip.l0 k (rw_skip p at_) (rw_skip q at_) fid o (wrap64 (mn (rw_end (rw_skip p at_) at_) (rw_end (rw_skip q at_) at_) + 1))) else some out
def span_zip.f (k : Nat) (l0 l1 : List S38) (a2 : Nat) : Option (List S38) := if a2 = 81 ∨ a2 = 75 ∨ a2 = 76 then span_zip.l0 k l0 l1 a2 [] 1 else none
theorem span_zip.mono_l : ∀ k y0 y1 y2 y3 y4, LeO (span_zip.l0 k y0 y1 y2 y3 y4) (span_zip.l0 (k + 1) y0 y1 y2 y3 y4)
 | 0 => fun _ _ _ _ _ r h => by simp [span_zip.l0] at h
 | k + 1 => by
  intro y0 y1 y2 y3 y4
  unfold span_zip.l0
  exact LeO.ite (LeO.bind (span_add.mono _ _ _ _ _) (fun _ => span_zip.mono_l k _ _ _ _ _)) (LeO.refl _)
theorem span_zip.mono : ∀ a0 a1 a2 k, LeO (span_zip.f k a0 a1 a2) (span_zip.f (k + 1) a0 a1 a2) := by
 intro a0 a1 a2 k
 unfold span_zip.f
 exact LeO.ite (span_zip.mono_l _ _ _ _ _ _) (LeO.refl _)
/-- The four function values. -/
theorem one_calls (fid : Nat) (hf : fid = 81 ∨ fid = 75 ∨ fid = 76) (x y : Int) (w : World) :
 Calls Try.prog fid #[.int .i64 x, .int .i64 y] w fun e w' => e = .returned (.int .i64 (span_zip.one fid x y)) ∧ w = w' := by
 rcases hf with rfl | rfl | rfl
 ·
  by_cases h : x < y
  ·
   go_enter Try.func81, Try.ntmps81
   go_wp2
   go_ret
   exact ⟨by rw [show span_zip.one 81 x y = y from if_pos h]; rfl, rfl⟩
  go_enter Try.func81, Try.ntmps81
  go_wp2
  go_ret
  exact ⟨by rw [show span_zip.one 81 x y = x from if_neg (show ¬ x < y by omega)]; rfl, rfl⟩
 ·
  by_cases h : y = 0
  ·
   subst h
   go_enter Try.func75, Try.ntmps75
   go_wp2
   go_ret
   exact ⟨rfl, rfl⟩
  have h3 : (y == 0) = false := beq_eq_false_iff_ne.mpr h
  go_enter Try.func75, Try.ntmps75
  go_wp2
  go_ret
  exact ⟨by rw [show span_zip.one 75 x y = x from if_neg h]; rfl, rfl⟩
 by_cases h : y = 0
 ·
  subst h
  go_enter Try.func76, Try.ntmps76
  go_wp2
  go_ret
  exact ⟨rfl, rfl⟩
 have h3 : (y != 0) = true := bne_iff_ne.mpr h
 go_enter Try.func76, Try.ntmps76
 go_wp2
 go_ret
 exact ⟨by rw [show span_zip.one 76 x y = 0 from if_neg h]; rfl, rfl⟩

theorem zo_keep {wr w1 : World} {base g : Nat} {v : Value} {xs : List S38} {cs : Array Value} (h : Kd.R k38 38 wr base (fun _ => True) v xs) (hb : wr.heap[g]? = some (.cells cs 122 (0, 0))) (hg : wr.grownBy w1 (some g)) : Kd.R k38 38 w1 base (fun _ => True) v xs :=
 Kd.R_mono (Kd.R_grown (Kd.R_types h hb (by decide)) hg (fun k hk e => hk.2 (Option.some.inj e))) (fun _ _ => trivial)
theorem kept_cell {w w' : World} {S : Nat → Prop} (h : Kept w w' S) {g : Nat} {o : Obj} (hb : w.heap[g]? = some o) (hn : ¬ S g) : w'.heap[g]? = some o := (h.2 g (blk_lt hb) hn).trans hb
set_option maxHeartbeats 1000000 in
set_option maxRecDepth 100000 in
theorem span_zip.calls (k : Nat) (A0 : Option Addr) (c0 : Nat) (l0 : List S38) (A1 : Option Addr) (c1 : Nat) (l1 : List S38) (a2 : Nat) (r : List S38) (w : World) (hr0 : Kd.C k38 w A0 l0.length l0) (hc0 : l0.length ≤ c0) (hr1 : Kd.C k38 w A1 l1.length l1) (hc1 : l1.length ≤ c1) (h : span_zip.f k l0 l1 a2 = some r) :
 Calls Try.prog 74 #[.slice A0 l0.length c0, .slice A1 l1.length c1, .func (.func a2) #[] #[]] w fun e w' => ∃ v0_ : Value, e = .returned (v0_) ∧ Kd.R k38 38 w' w.heap.size (fun _ => True) v0_ r ∧ Below w.heap.size w w' := by
 have HR0 := Aside0.mk hr0
 have HC0 := Aside0.mk hc0
 have HR1 := Aside0.mk hr1
 have HC1 := Aside0.mk hc1
 clear hr0 hc0 hr1 hc1
 by_cases hfid : a2 = 81 ∨ a2 = 75 ∨ a2 = 76
 case neg => unfold span_zip.f at h; rw [if_neg hfid] at h; cases h
 have HF := Aside0.mk hfid
 have H : span_zip.l0 k l0 l1 a2 [] 1 = some r := by unfold span_zip.f at h; rwa [if_pos hfid] at h
 have H' := Aside0.mk H
 clear h H hfid
 go_enter Try.func74, Try.ntmps74
 go_wp2
 go_loopg [7, 10] k (fun kq v7 v10 w' => ∃ (out : List S38) (t : Int) (A : Option Addr) (cp : Nat) (p : List S38) (B : Option Addr) (cq : Nat) (q : List S38) (tp tq : Int), v10 = .int .i64 t ∧
  Aside0 (span_zip.l0 kq p q a2 out t = some r) ∧ Aside0 (kq ≤ k) ∧ Aside0 (Kd.R k38 38 w' w.heap.size (fun _ => True) v7 out) ∧
  Aside0 (Kd.C k38 w A p.length p) ∧ Aside0 (p.length ≤ cp) ∧ Aside0 (Kd.C k38 w B q.length q) ∧ Aside0 (q.length ≤ cq) ∧
  Aside0 (w'.heap[w.heap.size]? = some (.cells #[.slice A p.length cp, .int .i64 tp] 122 (0, 0))) ∧ Aside0 (w'.heap[w.heap.size + 1]? = some (.cells #[.slice B q.length cq, .int .i64 tq] 122 (0, 0))) ∧
  Aside0 (Below w.heap.size w w'))
 case atStart => exact ⟨[], 1, A0, c0, l0, A1, c1, l1, 0, 0, rfl, H', ⟨Nat.le_refl _⟩, ⟨Kd.R_nil _ _ _ _ _⟩, HR0, HC0, HR1, HC1, ⟨blk_alloc (heap_alloc_new w _) _⟩, ⟨by have h_ := heap_alloc_new (w.alloc (.cells #[.slice A0 l0.length c0, .int .i64 0] 122)) (.cells #[.slice A1 l1.length c1, .int .i64 0] 122); simpa using h_⟩, ⟨below_alloc (below_alloc (Below.refl _ _) _) _⟩⟩
 case round =>
  obtain ⟨out, t, A, cp, p, B, cq, q, tp, tq, rfl, HA, HK, HO, HRP, HCP, HRQ, HCQ, HP, HQ, HB⟩ := hrel
  cases gk with
  | zero => exact absurd HA.out (by simp [span_zip.l0])
  | succ k1 =>
   have H := HA.out
   clear HA
   simp only [span_zip.l0] at H
   by_cases hle : t ≤ 1099511627776
   ·
    rw [if_pos hle] at H
    replace H := Option.bind_eq_some_iff.mp H
    obtain ⟨o1, A20, H⟩ := H
    have A2 := Aside0.mk A20
    have H' := Aside0.mk H
    clear A20 H
    have q0 : wr.cell? ⟨w.heap.size, 0, none⟩ = some (.slice A p.length cp) := (blk_cell HP.out 0).trans rfl
    have q1 : wr.cell? ⟨w.heap.size, 1, none⟩ = some (.int .i64 tp) := (blk_cell HP.out 1).trans rfl
    have q2 : wr.cell? ⟨w.heap.size + 1, 1, none⟩ = some (.int .i64 tq) := (blk_cell HQ.out 1).trans rfl
    have f0 : wr.frozen? ⟨w.heap.size, 1, none⟩ = false := blk_frozen HP.out _
    have f1 : wr.frozen? ⟨w.heap.size + 1, 1, none⟩ = false := blk_frozen HQ.out _
    go_wp2_with fail
    refine (next_calls w.heap.size A cp p t w _ ?s1 (Nat.le_refl _) HRP.out HCP.out ?s2).mono ?_
    case s1 => exact below_set (below_set HB.out (Nat.le_refl _)) (by omega)
    case s2 => exact blk_far (blk_put (cs := #[.slice A p.length cp, .int .i64 tp]) HP.out 1 (.int .i64 t) rfl) (by simp) _
    rintro e w1 ⟨A', cp', rfl, hp1, hrp1, hcp1, hg1⟩
    have hqa := blk_put (cs := #[.slice B q.length cq, .int .i64 tq]) (blk_far (p := ⟨w.heap.size, 1, none⟩) HQ.out (by simp) (.int .i64 t)) 1 (.int .i64 t) rfl
    have hpa := blk_far (p := ⟨w.heap.size + 1, 1, none⟩) (blk_put (cs := #[.slice A p.length cp, .int .i64 tp]) HP.out 1 (.int .i64 t) rfl) (by simp) (.int .i64 t)
    have HQ1 := Aside0.mk (blk_grown hqa hg1 (by simp))
    have HO1 := Aside0.mk (zo_keep (Kd.R_set (Kd.R_set HO.out HP.out (by decide) 1 (.int .i64 t)) (blk_far (p := ⟨w.heap.size, 1, none⟩) HQ.out (by simp) (.int .i64 t)) (by decide) 1 (.int .i64 t)) hpa hg1)
    have hb1 := pw_below_grown (below_set (j := 1) (v := .int .i64 t) (below_set (j := 1) (v := .int .i64 t) HB.out (Nat.le_refl _)) (show w.heap.size ≤ w.heap.size + 1 by omega)) _ (below_set (j := 1) (v := .int .i64 t) (below_set (j := 1) (v := .int .i64 t) HB.out (Nat.le_refl _)) (show w.heap.size ≤ w.heap.size + 1 by omega)).size hg1 (fun k hk => by cases hk; exact Nat.le_refl _)
    have HB1 := Aside0.mk hb1
    have HP1 := Aside0.mk hp1
    have HRP1 := Aside0.mk hrp1
    have HCP1 := Aside0.mk hcp1
    clear hqa hpa hb1 hp1 hrp1 hcp1 hg1 q0 q1 q2 f0 f1
    go_wp2_with fail
    refine (next_calls (w.heap.size + 1) B cq q t w _ HB1.out (by omega) HRQ.out HCQ.out HQ1.out).mono ?_
    rintro e w2 ⟨B', cq', rfl, hq2, hrq2, hcq2, hg2⟩
    have HP2 := Aside0.mk (blk_grown HP1.out hg2 (by simp))
    have HO2 := Aside0.mk (zo_keep HO1.out HQ1.out hg2)
    have HB2 := Aside0.mk (pw_below_grown HB1.out _ HB1.out.size hg2 (fun k hk => by cases hk; omega))
    have HQ2 := Aside0.mk hq2
    have HRQ2 := Aside0.mk hrq2
    have HCQ2 := Aside0.mk hcq2
    clear hq2 hrq2 hcq2 hg2
    rcases HF.out with rfl | rfl | rfl | rfl
    all_goals
     go_wp2_with fail
     refine (one_calls _ (by decide) _ _ _).mono ?_
     rintro e w3 ⟨rfl, rfl⟩
     go_wp2_with fail
     refine (span_add.calls k1 (fun k_ => some k_ = (u7 : Value).ownBlock) u7 out _ _ _ o1 w _ HB2.out ?s3 A2.out).mono ?_
     case s3 => exact Kd.R_tight rfl HO2.out
     rintro e w4 ⟨v4, rfl, ho4, hb4, hk4⟩
     have HO4 := Aside0.mk (Kd.R_mono ho4 (fun _ _ => trivial))
     have HB4 := Aside0.mk hb4
     have HP4 := Aside0.mk (kept_cell hk4 HP2.out (Kd.R_ne HO2.out HP2.out (by decide)))
     have HQ4 := Aside0.mk (kept_cell hk4 HQ2.out (Kd.R_ne HO2.out HQ2.out (by decide)))
     clear ho4 hb4 hk4
     go_wp2
     go_roundg k1
     case measure => omega
     case rel => exact ⟨o1, _, A', cp', _, B', cq', _, t, t, rfl, H', ⟨by have := HK.out; omega⟩, HO4, HRP1, HCP1, HRQ2, HCQ2, HP4, HQ4, HB4⟩
   rw [if_neg hle] at H
   obtain rfl := Option.some.inj H
   go_wp2
   go_ret
   exact ⟨_, rfl, HO.out, HB.out⟩


end Go.Proofs.Ytffefaiaifhokaa.PT
