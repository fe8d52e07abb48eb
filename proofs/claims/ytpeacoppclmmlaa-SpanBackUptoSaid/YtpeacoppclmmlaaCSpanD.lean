/-
  PLAIN LAW: the reference's made (out of the ticks where something changes) is zip; Same; At; Horizon; live.
-/
import Derived.Test.YtpeacoppclmmlaaCSpanC
import Derived.Test.YtpeacoppclmmlaaCPSx7
import Derived.Test.YtpeacoppclmmlaaCPSx8
import Derived.Test.YtpeacoppclmmlaaCPSx4
set_option linter.unusedSimpArgs false
set_option linter.unusedVariables false
namespace Go.Proofs.Ytpeacoppclmmlaa.PS
open Go.RowKit Go.Proofs.YtpeacoppclmmlaaW.PrintWords Go.Proofs.YtpeacoppclmmlaaW.PrintMore

/-! ### the edges -/
/-! ### told -/
def toldS (m x y : Int) : Int := if m = 0 then (if y > x then y else x) else if m = 1 then (if y = 0 then 0 else x) else if m = 2 then (if y = 0 then x else 0) else (if y = 0 then 0 else if x = 0 then 1 else 0)
/-! ### made -/
/-! ### Same, At -/
deriving instance DecidableEq for S43
theorem Same_ev_l (l m : List Sp) (hlen : l.length = m.length) (hl : l.length ≤ 9223372036854775807) : ∀ (d i : Nat), i + d = l.length → Ev (fun k => grapevineref08_Same.l0 k l m (i : Int)) (decide (l.drop i = m.drop i)) := by
  intro d
  induction d with
  | zero =>
    intro i hi
    rw [List.drop_of_length_le (by omega), List.drop_of_length_le (by omega)]
    exact Ev.done (fun k => by simp only [grapevineref08_Same.l0]; rw [if_neg (by omega)]; rfl)
  | succ d ih =>
    intro i hi
    rw [drop_rd l i (by omega), drop_rd m i (by omega)]
    generalize hs : rd_T43 l (i : Int) = s
    generalize hu : rd_T43 m (i : Int) = u
    by_cases e : s = u
    · subst e
      refine Ev.step (f := fun k => grapevineref08_Same.l0 k l m ((i + 1 : Nat) : Int)) (fun k => ?_) (by have := ih (i + 1) (by omega); simpa using this)
      simp only [grapevineref08_Same.l0]
      rw [if_pos (by omega), if_pos (by omega), if_pos (by omega), hs, hu, if_neg (by simp), cast_succ_wrap (by omega : i < l.length) hl]
    · rw [decide_eq_false (by simp [e])]
      refine Ev.done (fun k => ?_)
      simp only [grapevineref08_Same.l0]
      rw [if_pos (by omega), if_pos (by omega), if_pos (by omega), hs, hu, if_pos]
      by_cases e0 : s.f0 = u.f0
      · by_cases e1 : s.f1 = u.f1
        · by_cases e2 : s.f2 = u.f2
          · exact absurd (by cases s; cases u; simp only at e0 e1 e2; subst e0; subst e1; subst e2; rfl) e
          · simp [e0, e1, e2]
        · simp [e0, e1]
      · simp [e0]
theorem Same_ev (l m : List Sp) (hl : l.length ≤ 9223372036854775807) : Ev (fun k => grapevineref08_Same.f k l m) (decide (l = m)) := by
  by_cases e : l.length = m.length
  · refine Ev.congr (f := fun k => grapevineref08_Same.l0 k l m ((0 : Nat) : Int)) (fun k => ?_) (Same_ev_l l m e hl l.length 0 (by omega))
    unfold grapevineref08_Same.f
    rw [if_pos (by omega)]; rfl
  · rw [decide_eq_false (fun h => e (by rw [h]))]
    refine Ev.congr (f := fun k => some false) (fun k => ?_) (Ev.now _)
    unfold grapevineref08_Same.f
    rw [if_neg (by omega)]
theorem Same_self (l : List Sp) (hl : l.length ≤ 9223372036854775807) : Ev (fun k => grapevineref08_Same.f k l l) true := by
  have := Same_ev l l hl
  rwa [decide_eq_true rfl] at this
theorem SAt_ev_l (l : List Sp) (t : Int) (hl : l.length ≤ 9223372036854775807) : ∀ (m i : Nat), i + m = l.length → Ev (fun k => span_At.l0 k t l (l.length : Int) (i : Int)) (atS (l.drop i) t) := by
  intro m
  induction m with
  | zero =>
    intro i hi
    rw [List.drop_of_length_le (by omega)]
    exact Ev.done (fun k => by simp only [span_At.l0]; rw [if_neg (by omega)]; rfl)
  | succ m ih =>
    intro i hi
    have hlt : i < l.length := by omega
    rw [drop_rd l i hlt]
    generalize hs : rd_T43 l (i : Int) = s
    by_cases h : s.f0 ≤ t ∧ t ≤ s.f1
    · refine Ev.done (fun k => ?_)
      simp only [span_At.l0]
      rw [if_pos (by omega), if_pos (by omega), if_pos (by omega), hs, if_pos (show t ≥ s.f0 from h.1), if_pos h.2, atS_cons, if_pos h]
    · refine Ev.step (f := fun k => span_At.l0 k t l (l.length : Int) ((i + 1 : Nat) : Int)) (fun k => ?_) (by rw [atS_cons, if_neg h]; exact ih (i + 1) (by omega))
      simp only [span_At.l0]
      rw [if_pos (by omega), if_pos (by omega), if_pos (by omega), hs, cast_succ_wrap hlt hl]
      by_cases h1 : s.f0 ≤ t
      · rw [if_pos (show t ≥ s.f0 from h1), if_neg (by omega)]
      · rw [if_neg (show ¬ t ≥ s.f0 by omega)]
theorem SAt_ev (l : List Sp) (t : Int) (hl : l.length ≤ 9223372036854775807) : Ev (fun k => span_At.f k l t) (atS l t) := SAt_ev_l l t hl l.length 0 (by omega)

/-! ### Horizon -/
theorem may_ev (l : List Sp) (a b : Int) (hl : l.length ≤ 9223372036854775807) : Ev (fun k => span_may.f k l a b) (decide (rightB 0 0 l = true ∧ 1 ≤ a ∧ a ≤ b ∧ b ≤ 1099511627776)) := by
  refine Ev.bind (Right_ev l hl) (Ev.congr (fun k => ?_) (Ev.now _))
  by_cases c : rightB 0 0 l = true
  · rw [if_pos c]
    by_cases c1 : a ≥ 1
    · rw [if_pos c1]
      by_cases c2 : a ≤ b
      · rw [if_pos c2]; simp [c, c2, show (1 : Int) ≤ a from c1]
      · rw [if_neg c2]; simp [c2]
    · rw [if_neg c1]; simp [show ¬ (1 : Int) ≤ a from c1]
  · rw [if_neg c]; simp [c]
/-! ### Join; live -/
/-- What Join comes to. -/
def Joined (a b : List Sp) (r : List Sp × Int) : Prop := (rightB 0 0 a = true ∧ rightB 0 0 b = true ∧ r.2 = 0 ∧ Zips (fun t => mx (atS a t) (atS b t)) r.1) ∨ (¬ (rightB 0 0 a = true ∧ rightB 0 0 b = true) ∧ r = ([], 2))
theorem Join_ev (a b : List Sp) (ha : a.length ≤ 9223372036854775807) (hb : b.length ≤ 9223372036854775807) : ∃ r, Ev (fun k => span_Join.f k a b) r ∧ Joined a b r := by
  by_cases ca : rightB 0 0 a = true
  · by_cases cb : rightB 0 0 b = true
    · obtain ⟨r, r1, r2⟩ := zip_ev a b 57 (.inl rfl) ca cb
      refine ⟨(r, 0), Ev.bind (Right_ev a ha) (Ev.congr (fun k => if_pos ca) (Ev.bind (Right_ev b hb) (Ev.congr (fun k => if_pos cb) (Ev.bind r1 (Ev.now _))))), .inl ⟨ca, cb, rfl, r2.1, fun t t1 t2 => r2.2 t t1 t2⟩⟩
    · exact ⟨([], 2), Ev.bind (Right_ev a ha) (Ev.congr (fun k => if_pos ca) (Ev.bind (Right_ev b hb) (Ev.congr (fun k => if_neg cb) (Ev.now _)))), .inr ⟨fun h => cb h.2, rfl⟩⟩
  · exact ⟨([], 2), Ev.bind (Right_ev a ha) (Ev.congr (fun k => if_neg ca) (Ev.now _)), .inr ⟨fun h => ca h.1, rfl⟩⟩
theorem live_rounds : grapevinelaw08_live.f 20 = some true := by decide +kernel
theorem live_ev : Ev (fun k => grapevinelaw08_live.f k) true := Ev.of grapevinelaw08_live.mono live_rounds
end Go.Proofs.Ytpeacoppclmmlaa.PS
