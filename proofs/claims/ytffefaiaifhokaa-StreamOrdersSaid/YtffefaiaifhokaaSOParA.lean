/-
  PLAIN LAW: span.Right, span.At and the reference's.
-/
import Derived.Test.YtffefaiaifhokaaSOSpanA
import Derived.Test.YtffefaiaifhokaaSOPTx8
import Derived.Test.YtffefaiaifhokaaSOPTx7
import Derived.Test.YtffefaiaifhokaaSOPTx3
import Derived.Test.YtffefaiaifhokaaSOPTx2
set_option linter.unusedSimpArgs false
set_option linter.unusedVariables false
namespace Go.Proofs.Ytffefaiaifhokaa.PT
open Go.RowKit Go.Proofs.YtffefaiaifhokaaW.PrintWords Go.Proofs.YtffefaiaifhokaaW.PrintMore

theorem Ev.done {α : Type} {g : Nat → Option α} {r : α} (h : ∀ k, g (k + 1) = some r) : Ev g r := Ev.step (f := fun _ => some r) h (Ev.now r)
theorem cast_succ_wrap {i n : Nat} (h : i < n) (hn : n ≤ 9223372036854775807) : wrap64 ((i : Int) + 1) = ((i + 1 : Nat) : Int) := by
  rw [wrap_ok (by omega) (by omega)]; omega

/-! ### Right -/
theorem Right_ev_l (l : List Sp) (hl : l.length ≤ 9223372036854775807) : ∀ (m i : Nat) (a b c : Int), i + m = l.length → 0 ≤ b → b ≤ 1099511627776 →
    Ev (fun k => span_Right.l0 k l (l.length : Int) (i : Int) a b c) (rightB b c (l.drop i)) := by
  intro m
  induction m with
  | zero =>
    intro i a b c hi hb hb'
    rw [List.drop_of_length_le (by omega)]
    refine Ev.done (fun k => ?_)
    simp only [span_Right.l0]
    rw [if_neg (by omega)]
    rfl
  | succ m ih =>
    intro i a b c hi hb hb'
    have hlt : i < l.length := by omega
    rw [drop_rd l i hlt]
    generalize hs : rd_T38 l (i : Int) = s
    have hstep : ∀ k, span_Right.l0 (k + 1) l (l.length : Int) (i : Int) a b c = if okS b c s then span_Right.l0 k l (l.length : Int) ((i + 1 : Nat) : Int) s.f0 s.f1 s.f2 else some false := by
      intro k
      simp only [span_Right.l0]
      rw [if_pos (by omega), if_pos (by omega), if_pos (by omega), hs, cast_succ_wrap hlt hl, wrap_ok (x := b + 1) (by omega) (by omega)]
      by_cases h1 : s.f2 < 1
      · rw [if_pos h1, if_neg (fun hh => by have hh := okS_iff.1 hh; omega)]
      rw [if_neg h1]
      by_cases h2 : s.f2 > 3
      · rw [if_pos h2, if_neg (fun hh => by have hh := okS_iff.1 hh; omega)]
      rw [if_neg h2]
      by_cases h3 : s.f0 < 1
      · rw [if_pos h3, if_neg (fun hh => by have hh := okS_iff.1 hh; omega)]
      rw [if_neg h3]
      by_cases h4 : s.f0 > s.f1
      · rw [if_pos h4, if_neg (fun hh => by have hh := okS_iff.1 hh; omega)]
      rw [if_neg h4]
      by_cases h5 : s.f1 > 1099511627776
      · rw [if_pos h5, if_neg (fun hh => by have hh := okS_iff.1 hh; omega)]
      rw [if_neg h5]
      by_cases h6 : s.f0 ≤ b
      · rw [if_pos h6, if_neg (fun hh => by have hh := okS_iff.1 hh; omega)]
      rw [if_neg h6]
      by_cases h7 : s.f0 = b + 1
      · rw [if_pos h7]
        by_cases h8 : s.f2 = c
        · rw [if_pos h8, if_neg (fun hh => by have hh := okS_iff.1 hh; omega)]
        · rw [if_neg h8, if_pos (okS_iff.2 (by omega))]
      · rw [if_neg h7, if_pos (okS_iff.2 (by omega))]
    by_cases hok : okS b c s
    · have e : rightB b c (s :: l.drop (i + 1)) = rightB s.f1 s.f2 (l.drop (i + 1)) := by simp [rightB, hok]
      rw [e]
      refine Ev.step (f := fun k => span_Right.l0 k l (l.length : Int) ((i + 1 : Nat) : Int) s.f0 s.f1 s.f2) (fun k => ?_) (ih (i + 1) _ _ _ (by omega) (by have := hok.1; omega) (by have := hok.1; omega))
      rw [hstep, if_pos hok]
    · have e : rightB b c (s :: l.drop (i + 1)) = false := by simp [rightB, hok]
      rw [e]
      exact Ev.done (fun k => by rw [hstep, if_neg hok])
theorem Right_ev (l : List Sp) (hl : l.length ≤ 9223372036854775807) : Ev (fun k => span_Right.f k l) (rightB 0 0 l) := by
  have := Right_ev_l l hl l.length 0 0 0 0 (by omega) (by omega) (by omega)
  exact this

theorem Ev.step2 {α : Type} {g f : Nat → Option α} {r : α} (h : ∀ k, g (k + 2) = f k) (k : Ev f r) : Ev g r := Ev.step (f := fun k => g (k + 1)) (fun _ => rfl) (Ev.step (f := f) h k)
theorem Ev.done2 {α : Type} {g : Nat → Option α} {r : α} (h : ∀ k, g (k + 2) = some r) : Ev g r := Ev.step2 (f := fun _ => some r) h (Ev.now r)
theorem pred_wrap {i : Nat} (h : 0 < i) (hn : i ≤ 9223372036854775807) : wrap64 ((i : Int) - 1) = ((i - 1 : Nat) : Int) := by
  rw [wrap_ok (by omega) (by omega)]; omega

/-! ### Right -/
theorem RRight_ev_l (l : List Sp) (hl : l.length ≤ 9223372036854775807) : ∀ (m i : Nat) (pe pi : Int), i + m = l.length → (i = 0 → pe = 0 ∧ pi = 0) → (0 < i → pe = (rd_T38 l ((i - 1 : Nat) : Int)).f1 ∧ pi = (rd_T38 l ((i - 1 : Nat) : Int)).f2) →
    Ev (fun k => grapevineref08_Right.l0 k l (i : Int)) (rightB pe pi (l.drop i)) := by
  intro m
  induction m with
  | zero =>
    intro i pe pi hi _ _
    rw [List.drop_of_length_le (by omega)]
    refine Ev.done (fun k => ?_)
    simp only [grapevineref08_Right.l0]
    rw [if_neg (by omega)]
    rfl
  | succ m ih =>
    intro i pe pi hi h0 hp
    have hlt : i < l.length := by omega
    rw [drop_rd l i hlt]
    generalize hs : rd_T38 l (i : Int) = s
    have hj : ∀ k, grapevineref08_Right.j1 (k + 1) l (i : Int) true = some false := fun k => by simp only [grapevineref08_Right.j1]; rw [if_pos trivial]
    have hstep : ∀ k, grapevineref08_Right.l0 (k + 2) l (i : Int) = if okS pe pi s then grapevineref08_Right.l0 k l ((i + 1 : Nat) : Int) else some false := by
      intro k
      rw [show k + 2 = (k + 1) + 1 from rfl]
      simp only [grapevineref08_Right.l0]
      rw [if_pos (by omega), if_pos (by omega), hs]
      by_cases h1 : s.f2 < 1
      · rw [if_pos h1, hj, if_neg (fun hh => by have hh := okS_iff.1 hh; omega)]
      rw [if_neg h1]
      by_cases h2 : s.f2 > 3
      · rw [if_pos h2, hj, if_neg (fun hh => by have hh := okS_iff.1 hh; omega)]
      rw [if_neg h2]
      by_cases h3 : s.f0 < 1
      · rw [if_pos h3, hj, if_neg (fun hh => by have hh := okS_iff.1 hh; omega)]
      rw [if_neg h3]
      by_cases h4 : s.f1 < s.f0
      · rw [if_pos h4, hj, if_neg (fun hh => by have hh := okS_iff.1 hh; omega)]
      rw [if_neg h4]
      by_cases h5 : s.f1 > 1099511627776
      · rw [decide_eq_true h5, hj, if_neg (fun hh => by have hh := okS_iff.1 hh; omega)]
      rw [decide_eq_false h5]
      simp only [grapevineref08_Right.j1]
      rw [if_neg (by simp), cast_succ_wrap hlt hl]
      by_cases hi0 : i = 0
      · obtain ⟨rfl, rfl⟩ := h0 hi0
        rw [if_neg (by omega), if_pos (okS_iff.2 (by omega))]
      · obtain ⟨e1, e2⟩ := hp (by omega)
        rw [if_pos (by omega), if_pos (by omega), if_pos (by omega), pred_wrap (by omega) (by omega), if_pos (by omega), if_pos (by omega), hs, ← e1, ← e2, wrap_ok (x := s.f0 - 1) (by omega) (by omega)]
        by_cases h6 : s.f0 ≤ pe
        · rw [if_pos h6, if_neg (fun hh => by have hh := okS_iff.1 hh; omega)]
        rw [if_neg h6]
        by_cases h7 : s.f0 - 1 = pe
        · rw [if_pos h7]
          by_cases h8 : s.f2 = pi
          · rw [if_pos h8, if_neg (fun hh => by have hh := okS_iff.1 hh; omega)]
          · rw [if_neg h8, if_pos (okS_iff.2 (by omega))]
        · rw [if_neg h7, if_pos (okS_iff.2 (by omega))]
    by_cases hok : okS pe pi s
    · have e : rightB pe pi (s :: l.drop (i + 1)) = rightB s.f1 s.f2 (l.drop (i + 1)) := by simp [rightB, hok]
      rw [e]
      refine Ev.step2 (f := fun k => grapevineref08_Right.l0 k l ((i + 1 : Nat) : Int)) (fun k => ?_) (ih (i + 1) _ _ (by omega) (fun h => by omega) (fun _ => by rw [show i + 1 - 1 = i by omega, hs]; exact ⟨rfl, rfl⟩))
      rw [hstep, if_pos hok]
    · have e : rightB pe pi (s :: l.drop (i + 1)) = false := by simp [rightB, hok]
      rw [e]
      exact Ev.done2 (fun k => by rw [hstep, if_neg hok])
theorem RRight_ev (l : List Sp) (hl : l.length ≤ 9223372036854775807) : Ev (fun k => grapevineref08_Right.f k l) (rightB 0 0 l) :=
  RRight_ev_l l hl l.length 0 0 0 (by omega) (fun _ => ⟨rfl, rfl⟩) (fun h => by omega)

/-! ### At -/
theorem RAt_ev_l (l : List Sp) (t : Int) (hl : l.length ≤ 9223372036854775807) : ∀ (m i : Nat), i + m = l.length → Ev (fun k => grapevineref08_At.l0 k l t (i : Int)) (atS (l.drop i) t) := by
  intro m
  induction m with
  | zero =>
    intro i hi
    rw [List.drop_of_length_le (by omega)]
    refine Ev.done (fun k => ?_)
    simp only [grapevineref08_At.l0]
    rw [if_neg (by omega)]
    rfl
  | succ m ih =>
    intro i hi
    have hlt : i < l.length := by omega
    rw [drop_rd l i hlt]
    generalize hs : rd_T38 l (i : Int) = s
    by_cases h : s.f0 ≤ t ∧ t ≤ s.f1
    · refine Ev.done (fun k => ?_)
      simp only [grapevineref08_At.l0]
      rw [if_pos (by omega), if_pos (by omega), hs, if_pos h.1, if_pos h.2, atS_cons, if_pos h]
    · refine Ev.step (f := fun k => grapevineref08_At.l0 k l t ((i + 1 : Nat) : Int)) (fun k => ?_) (by rw [atS_cons, if_neg h]; exact ih (i + 1) (by omega))
      simp only [grapevineref08_At.l0]
      rw [if_pos (by omega), if_pos (by omega), hs, cast_succ_wrap hlt hl]
      by_cases h1 : s.f0 ≤ t
      · rw [if_pos h1, if_neg (by omega)]
      · rw [if_neg h1]
theorem RAt_ev (l : List Sp) (t : Int) (hl : l.length ≤ 9223372036854775807) : Ev (fun k => grapevineref08_At.f k l t) (atS l t) := RAt_ev_l l t hl l.length 0 (by omega)

theorem SAt_ev_l (l : List Sp) (t : Int) (hl : l.length ≤ 9223372036854775807) : ∀ (m i : Nat), i + m = l.length → Ev (fun k => span_At.l0 k t l (l.length : Int) (i : Int)) (atS (l.drop i) t) := by
  intro m
  induction m with
  | zero =>
    intro i hi
    rw [List.drop_of_length_le (by omega)]
    exact Ev.done (fun k => by simp only [span_At.l0]; rw [if_neg (by omega)]; rfl)
  | succ m ih =>
    intro i hi
    have hlt : i < l.length := by omega
    rw [drop_rd l i hlt]
    generalize hs : rd_T38 l (i : Int) = s
    by_cases h : s.f0 ≤ t ∧ t ≤ s.f1
    · refine Ev.done (fun k => ?_)
      simp only [span_At.l0]
      rw [if_pos (by omega), if_pos (by omega), if_pos (by omega), hs, if_pos (show t ≥ s.f0 from h.1), if_pos h.2, atS_cons, if_pos h]
    · refine Ev.step (f := fun k => span_At.l0 k t l (l.length : Int) ((i + 1 : Nat) : Int)) (fun k => ?_) (by rw [atS_cons, if_neg h]; exact ih (i + 1) (by omega))
      simp only [span_At.l0]
      rw [if_pos (by omega), if_pos (by omega), if_pos (by omega), hs, cast_succ_wrap hlt hl]
      by_cases h1 : s.f0 ≤ t
      · rw [if_pos (show t ≥ s.f0 from h1), if_neg (by omega)]
      · rw [if_neg (show ¬ t ≥ s.f0 by omega)]
theorem SAt_ev (l : List Sp) (t : Int) (hl : l.length ≤ 9223372036854775807) : Ev (fun k => span_At.f k l t) (atS l t) := SAt_ev_l l t hl l.length 0 (by omega)
end Go.Proofs.Ytffefaiaifhokaa.PT
