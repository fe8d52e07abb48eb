/-
  PLAIN LAW: parcel.Check and the reference's Check: what is wrong with a parcel.
-/
import Derived.Test.YtffefaiaifhokaaSOParA
import Derived.Test.YtffefaiaifhokaaSOPTx7
import Derived.Test.YtffefaiaifhokaaSOPTx9
import Derived.Test.YtffefaiaifhokaaSOPTx3
import Derived.Test.YtffefaiaifhokaaSOPTx4
set_option linter.unusedSimpArgs false
set_option linter.unusedVariables false
namespace Go.Proofs.Ytffefaiaifhokaa.PT
open Go.RowKit Go.Proofs.YtffefaiaifhokaaW.PrintWords Go.Proofs.YtffefaiaifhokaaW.PrintMore

theorem Ev.shift {α : Type} (n : Nat) {f : Nat → Option α} {r : α} (h : Ev f r) : Ev (fun k => f (k + n)) r := h.elim fun K hK => ⟨K, fun k hk => hK _ (by omega)⟩
theorem Ev.unshift {α : Type} (n : Nat) {g : Nat → Option α} {r : α} (h : Ev (fun k => g (k + n)) r) : Ev g r := h.elim fun K hK => ⟨K + n, fun k hk => by
  have e : k - n + n = k := by omega
  have := hK (k - n) (by omega)
  simpa only [e] using this⟩
abbrev It := S42
def numsOK (kd pub sub n fr to_ : Int) : Prop := 0 ≤ pub ∧ pub ≤ 2 ∧ (if kd = 1 ∨ kd = 2 then 1 ≤ fr ∧ fr ≤ to_ ∧ to_ ≤ 1099511627776 else 1 ≤ sub ∧ sub ≤ 32 ∧ 1 ≤ n ∧ n ≤ 1073741824 ∧ (kd = 3 ∨ kd = 5 → 0 ≤ fr ∧ fr ≤ 1099511627776))
instance (kd pub sub n fr to_ : Int) : Decidable (numsOK kd pub sub n fr to_) := by unfold numsOK; infer_instance
def spanOK (fr to_ : Int) (s : Sp) : Prop := s.f2 ≠ 1 ∧ fr ≤ s.f0 ∧ s.f1 ≤ to_
instance (fr to_ : Int) (s : Sp) : Decidable (spanOK fr to_ s) := by unfold spanOK; infer_instance
def itemsE (sp : List Sp) (to_ : Int) : Int → List It → Int
  | _, [] => 0
  | a, x :: xs => if x.f0 ≤ a ∨ x.f0 > to_ ∨ atS sp x.f0 ≠ 0 then 14 else if (x.f2.length : Int) > 400 then 6 else itemsE sp to_ x.f0 xs
def chk (kd pub sub n fr to_ : Int) (sp : List Sp) (it : List It) : Int :=
  if kd < 1 ∨ kd > 6 then 12 else if ¬ numsOK kd pub sub n fr to_ then 2 else if kd ≠ 1 then 0 else if (sp.length : Int) > 32 ∨ (it.length : Int) > 8 then 6
  else if ¬ (rightB 0 0 sp = true) then 4 else if ¬ (∀ s ∈ sp, spanOK fr to_ s) then 4 else itemsE sp to_ (fr - 1) it
/-! ### the numbers -/
theorem Numbers_eq (k : Nat) (kd pub sub n fr to_ : Int) (sp : List Sp) (it : List It) : parcel_numbers.f (k + 2) kd pub sub n fr to_ sp it = some (decide (numsOK kd pub sub n fr to_)) := by
  have key : ∀ (b : Bool) (p : Prop) [Decidable p], (b = true ↔ p) → some b = some (decide p) := fun b p _ h => congrArg some (by
    by_cases hp : p
    · rw [decide_eq_true hp, h.2 hp]
    · rw [decide_eq_false hp]; exact Bool.eq_false_iff.2 (fun hb => hp (h.1 hb)))
  unfold numsOK
  simp only [parcel_numbers.f, parcel_numbers.j0, parcel_numbers.j1, decide_eq_true_eq, beq_iff_eq, if_true]
  repeat' split
  all_goals (refine key _ _ ?_; simp only [decide_eq_true_eq, Bool.false_eq_true, true_iff, false_iff]; omega)
/-! ### the reference's heads -/
theorem ranged_eq (a : Int) : grapevineref13_ranged.f a = some (decide (a = 1 ∨ a = 2)) := by
  unfold grapevineref13_ranged.f
  by_cases h : a = 1
  · simp [h]
  · by_cases h2 : a = 2 <;> simp [h, h2]
theorem named_eq (a : Int) : grapevineref13_named.f a = some (decide (3 ≤ a ∧ a ≤ 6)) := by
  unfold grapevineref13_named.f
  by_cases h3 : a = 3
  · simp [h3]
  by_cases h4 : a = 4
  · simp [h4]
  by_cases h5 : a = 5
  · simp [h5]
  by_cases h6 : a = 6
  · simp [h6]
  rw [if_neg h3, if_neg h4, if_neg h5, decide_eq_false (by omega)]
  simp [h6]
theorem from_eq (a : Int) : grapevineref13_from.f a = some (decide (a = 1 ∨ a = 2 ∨ a = 3 ∨ a = 5)) := by
  unfold grapevineref13_from.f
  rw [ranged_eq, Option.bind_some]
  by_cases h : a = 1 ∨ a = 2
  · rw [decide_eq_true h, if_pos rfl, decide_eq_true (by omega)]
  · rw [decide_eq_false h, if_neg (by simp)]
    by_cases h3 : a = 3
    · simp [h3]
    · rw [if_neg h3]
      by_cases h5 : a = 5
      · simp [h5]
      · rw [decide_eq_false (by omega)]; simp [h5]
section
variable (k : Nat) (kd pub sub n fr to_ : Int) (sp : List Sp) (it : List It)
theorem RC4 : grapevineref13_Check.j4 (k + 1) false kd pub sub n fr to_ sp it = if kd = 1 then grapevineref13_Check.j5 k (decide ((sp.length : Int) > 32 ∨ (it.length : Int) > 8)) kd pub sub n fr to_ sp it else some 0 := by
  simp only [grapevineref13_Check.j4]
  rw [if_neg (by simp)]
  by_cases h1 : (sp.length : Int) > 32
  · rw [if_pos h1, decide_eq_true (Or.inl h1)]
  · rw [if_neg h1, show decide ((sp.length : Int) > 32 ∨ (it.length : Int) > 8) = decide ((it.length : Int) > 8) from decide_eq_decide.2 (by omega)]
theorem RC4t : grapevineref13_Check.j4 (k + 1) true kd pub sub n fr to_ sp it = some 2 := by
  simp only [grapevineref13_Check.j4]
  rw [if_pos trivial]
theorem RC3 : grapevineref13_Check.j3 (k + 2) false kd pub sub n fr to_ sp it = if (kd = 3 ∨ kd = 5) ∧ (fr < 0 ∨ fr > 1099511627776) then some 2 else grapevineref13_Check.j4 (k + 1) false kd pub sub n fr to_ sp it := by
  simp only [grapevineref13_Check.j3, named_eq, from_eq, Option.bind_some]
  rw [if_neg (by simp)]
  by_cases h : 3 ≤ kd ∧ kd ≤ 6
  · rw [decide_eq_true h, if_pos rfl]
    by_cases h2 : kd = 1 ∨ kd = 2 ∨ kd = 3 ∨ kd = 5
    · rw [decide_eq_true h2, if_pos rfl]
      by_cases h3 : fr < 0
      · rw [if_pos h3, if_pos (by omega), RC4t]
      · rw [if_neg h3]
        by_cases h4 : fr > 1099511627776
        · rw [decide_eq_true h4, if_pos (by omega), RC4t]
        · rw [decide_eq_false h4, if_neg (by omega)]
    · rw [decide_eq_false h2, if_neg (by simp), if_neg (by omega)]
  · rw [decide_eq_false h, if_neg (by simp), if_neg (by omega)]
theorem RC3t : grapevineref13_Check.j3 (k + 1) true kd pub sub n fr to_ sp it = some 2 := by
  simp only [grapevineref13_Check.j3]
  rw [if_pos trivial]
theorem RC2 : grapevineref13_Check.j2 (k + 3) false kd pub sub n fr to_ sp it = if (kd = 1 ∨ kd = 2) ∧ (fr < 1 ∨ to_ < fr ∨ to_ > 1099511627776) then some 2 else grapevineref13_Check.j3 (k + 2) false kd pub sub n fr to_ sp it := by
  rw [show k + 3 = (k + 2) + 1 from rfl]
  simp only [grapevineref13_Check.j2, ranged_eq, Option.bind_some]
  rw [if_neg (by simp)]
  by_cases h : kd = 1 ∨ kd = 2
  · rw [decide_eq_true h, if_pos rfl]
    by_cases h3 : fr < 1
    · rw [if_pos h3, if_pos (by omega), RC3t]
    rw [if_neg h3]
    by_cases h4 : to_ < fr
    · rw [if_pos h4, if_pos (by omega), RC3t]
    rw [if_neg h4]
    by_cases h5 : to_ > 1099511627776
    · rw [decide_eq_true h5, if_pos (by omega), RC3t]
    · rw [decide_eq_false h5, if_neg (by omega)]
  · rw [decide_eq_false h, if_neg (by simp), if_neg (by omega)]
theorem RC2t : grapevineref13_Check.j2 (k + 1) true kd pub sub n fr to_ sp it = some 2 := by
  simp only [grapevineref13_Check.j2]
  rw [if_pos trivial]
theorem RC1 : grapevineref13_Check.j1 (k + 4) false kd pub sub n fr to_ sp it = if (3 ≤ kd ∧ kd ≤ 6) ∧ (sub < 1 ∨ sub > 32 ∨ n < 1 ∨ n > 1073741824) then some 2 else grapevineref13_Check.j2 (k + 3) false kd pub sub n fr to_ sp it := by
  rw [show k + 4 = (k + 3) + 1 from rfl]
  simp only [grapevineref13_Check.j1, named_eq, Option.bind_some]
  rw [if_neg (by simp)]
  by_cases h : 3 ≤ kd ∧ kd ≤ 6
  · rw [decide_eq_true h, if_pos rfl]
    by_cases h3 : sub < 1
    · rw [if_pos h3, if_pos (by omega), RC2t]
    rw [if_neg h3]
    by_cases h4 : sub > 32
    · rw [if_pos h4, if_pos (by omega), RC2t]
    rw [if_neg h4]
    by_cases h5 : n < 1
    · rw [if_pos h5, if_pos (by omega), RC2t]
    rw [if_neg h5]
    by_cases h6 : n > 1073741824
    · rw [decide_eq_true h6, if_pos (by omega), RC2t]
    · rw [decide_eq_false h6, if_neg (by omega)]
  · rw [decide_eq_false h, if_neg (by simp), if_neg (by omega)]
theorem RC1t : grapevineref13_Check.j1 (k + 1) true kd pub sub n fr to_ sp it = some 2 := by
  simp only [grapevineref13_Check.j1]
  rw [if_pos trivial]
theorem RC0 : grapevineref13_Check.j0 (k + 5) false kd pub sub n fr to_ sp it = if pub < 0 ∨ pub > 2 then some 2 else grapevineref13_Check.j1 (k + 4) false kd pub sub n fr to_ sp it := by
  rw [show k + 5 = (k + 4) + 1 from rfl]
  simp only [grapevineref13_Check.j0]
  rw [if_neg (by simp)]
  by_cases h3 : pub < 0
  · rw [if_pos h3, if_pos (by omega), RC1t]
  rw [if_neg h3]
  by_cases h4 : pub > 2
  · rw [decide_eq_true h4, if_pos (by omega), RC1t]
  · rw [decide_eq_false h4, if_neg (by omega)]
theorem RC0t : grapevineref13_Check.j0 (k + 1) true kd pub sub n fr to_ sp it = some 12 := by
  simp only [grapevineref13_Check.j0]
  rw [if_pos trivial]
theorem RHead_eq : grapevineref13_Check.f (k + 5) kd pub sub n fr to_ sp it =
    if kd < 1 ∨ kd > 6 then some 12 else if ¬ numsOK kd pub sub n fr to_ then some 2 else if kd ≠ 1 then some 0 else grapevineref13_Check.j5 k (decide ((sp.length : Int) > 32 ∨ (it.length : Int) > 8)) kd pub sub n fr to_ sp it := by
  have e : grapevineref13_Check.f (k + 5) kd pub sub n fr to_ sp it = if kd < 1 ∨ kd > 6 then some 12 else grapevineref13_Check.j0 (k + 5) false kd pub sub n fr to_ sp it := by
    unfold grapevineref13_Check.f
    rw [ranged_eq, Option.bind_some]
    by_cases h : kd = 1 ∨ kd = 2
    · rw [decide_eq_true h, if_pos rfl, if_neg (by omega)]
    · rw [decide_eq_false h, if_neg (by simp), named_eq, Option.bind_some]
      by_cases h2 : 3 ≤ kd ∧ kd ≤ 6
      · rw [decide_eq_true h2, if_neg (by omega)]; rfl
      · rw [decide_eq_false h2, if_pos (by omega)]; exact RC0t _ _ _ _ _ _ _ _ _
  rw [e]
  by_cases hk : kd < 1 ∨ kd > 6
  · rw [if_pos hk, if_pos hk]
  rw [if_neg hk, if_neg hk, RC0]
  by_cases h0 : pub < 0 ∨ pub > 2
  · rw [if_pos h0, if_pos (by unfold numsOK; omega)]
  rw [if_neg h0, RC1]
  by_cases h1 : (3 ≤ kd ∧ kd ≤ 6) ∧ (sub < 1 ∨ sub > 32 ∨ n < 1 ∨ n > 1073741824)
  · rw [if_pos h1, if_pos (by unfold numsOK; rw [if_neg (by omega)]; omega)]
  rw [if_neg h1, RC2]
  by_cases h2 : (kd = 1 ∨ kd = 2) ∧ (fr < 1 ∨ to_ < fr ∨ to_ > 1099511627776)
  · rw [if_pos h2, if_pos (by unfold numsOK; rw [if_pos h2.1]; omega)]
  rw [if_neg h2, RC3]
  by_cases h3 : (kd = 3 ∨ kd = 5) ∧ (fr < 0 ∨ fr > 1099511627776)
  · rw [if_pos h3, if_pos (by unfold numsOK; rw [if_neg (by omega)]; omega)]
  rw [if_neg h3, if_neg (show ¬ ¬ numsOK kd pub sub n fr to_ by unfold numsOK; split <;> omega), RC4]
  by_cases h4 : kd = 1
  · rw [if_pos h4, if_neg (show ¬ kd ≠ 1 by omega)]
  · rw [if_neg h4, if_pos h4]
end
/-! ### the lists -/
theorem rdi_at (l : List It) (i : Nat) (h : i < l.length) : rd_T42 l (i : Int) = l[i] := by
  unfold rd_T42
  rw [Int.toNat_natCast, List.getD_eq_getElem?_getD, List.getElem?_eq_getElem h, Option.getD_some]
theorem drop_rdi (l : List It) (i : Nat) (h : i < l.length) : l.drop i = rd_T42 l (i : Int) :: l.drop (i + 1) := by
  rw [rdi_at l i h, List.drop_eq_getElem_cons h]
theorem Items_ev (kd pub sub n fr to_ : Int) (sp : List Sp) (it : List It) (hs : sp.length ≤ 9223372036854775807) (hi : it.length ≤ 9223372036854775807) : ∀ (m i : Nat) (a : Int), i + m = it.length →
    Ev (fun k => parcel_Check.l1 k a it (it.length : Int) (i : Int) kd pub sub n fr to_ sp it) (itemsE sp to_ a (it.drop i)) := by
  intro m
  induction m with
  | zero =>
    intro i a h
    rw [List.drop_of_length_le (by omega)]
    refine Ev.done (fun k => ?_)
    simp only [parcel_Check.l1]
    rw [if_neg (by omega)]
    rfl
  | succ m ih =>
    intro i a h
    have hlt : i < it.length := by omega
    rw [drop_rdi it i hlt]
    generalize hx : rd_T42 it (i : Int) = x
    have q1 : (i : Int) < (it.length : Int) := by omega
    have q2 : (0 : Int) ≤ (i : Int) := by omega
    have J : ∀ k, parcel_Check.j4 (k + 1) it (it.length : Int) (i : Int) true kd pub sub n fr to_ sp it x.f0 x.f1 x.f2 = some 14 := fun k => by
      simp only [parcel_Check.j4]
      rw [if_pos trivial]
    simp only [itemsE]
    by_cases h1 : x.f0 ≤ a
    · rw [if_pos (Or.inl h1)]
      refine Ev.done2 (fun k => ?_)
      rw [show k + 2 = (k + 1) + 1 from rfl]
      simp only [parcel_Check.l1, if_pos q1, if_pos q2, hx, if_pos h1, J]
    by_cases h2 : x.f0 > to_
    · rw [if_pos (Or.inr (Or.inl h2))]
      refine Ev.done2 (fun k => ?_)
      rw [show k + 2 = (k + 1) + 1 from rfl]
      simp only [parcel_Check.l1, if_pos q1, if_pos q2, hx, if_neg h1, if_pos h2, J]
    refine Ev.step (f := fun k => (span_At.f k sp x.f0).bind fun t => parcel_Check.j4 k it (it.length : Int) (i : Int) (t != 0) kd pub sub n fr to_ sp it x.f0 x.f1 x.f2) (fun k => ?_) ?_
    · simp only [parcel_Check.l1, if_pos q1, if_pos q2, hx, if_neg h1, if_neg h2]
    refine Ev.bind (SAt_ev sp x.f0 hs) ?_
    by_cases h3 : atS sp x.f0 = 0
    · rw [if_neg (by omega), show (atS sp x.f0 != 0) = false by simp [h3]]
      by_cases h4 : (x.f2.length : Int) > 400
      · rw [if_pos h4]
        refine Ev.done (fun k => ?_)
        simp only [parcel_Check.j4]
        rw [if_neg (by simp), if_pos h4]
      · rw [if_neg h4]
        refine Ev.step (f := fun k => parcel_Check.l1 k x.f0 it (it.length : Int) ((i + 1 : Nat) : Int) kd pub sub n fr to_ sp it) (fun k => ?_) (ih (i + 1) x.f0 (by omega))
        simp only [parcel_Check.j4]
        rw [if_neg (by simp), if_neg h4, cast_succ_wrap hlt hi]
    · rw [if_pos (Or.inr (Or.inr h3)), show (atS sp x.f0 != 0) = true by simp [h3]]
      exact Ev.done (fun k => J k)
theorem RItems_ev (kd pub sub n fr to_ : Int) (sp : List Sp) (it : List It) (hs : sp.length ≤ 9223372036854775807) (hi : it.length ≤ 9223372036854775807) : ∀ (m i : Nat) (a : Int), i + m = it.length → (i = 0 → a = fr - 1) → (0 < i → fr ≤ a ∧ a = (rd_T42 it ((i - 1 : Nat) : Int)).f0) →
    Ev (fun k => grapevineref13_Check.l1 k (i : Int) kd pub sub n fr to_ sp it) (itemsE sp to_ a (it.drop i)) := by
  intro m
  induction m with
  | zero =>
    intro i a h _ _
    rw [List.drop_of_length_le (by omega)]
    refine Ev.done (fun k => ?_)
    simp only [grapevineref13_Check.l1]
    rw [if_neg (by omega)]
    rfl
  | succ m ih =>
    intro i a h g0 g1
    have hlt : i < it.length := by omega
    rw [drop_rdi it i hlt]
    generalize hx : rd_T42 it (i : Int) = x
    have q1 : (i : Int) < (it.length : Int) := by omega
    have q2 : (0 : Int) ≤ (i : Int) := by omega
    have J : ∀ k, grapevineref13_Check.j8 (k + 1) (i : Int) true kd pub sub n fr to_ sp it = some 14 := fun k => by
      simp only [grapevineref13_Check.j8]
      rw [if_pos trivial]
    simp only [itemsE]
    by_cases h1 : x.f0 < fr
    · rw [if_pos (Or.inl (by by_cases hz : i = 0
                             · have := g0 hz; omega
                             · have := g1 (by omega); omega))]
      refine Ev.done2 (fun k => ?_)
      rw [show k + 2 = (k + 1) + 1 from rfl]
      simp only [grapevineref13_Check.l1, if_pos q1, if_pos q2, hx, if_pos h1, J]
    by_cases h2 : x.f0 > to_
    · rw [if_pos (Or.inr (Or.inl h2))]
      refine Ev.done2 (fun k => ?_)
      rw [show k + 2 = (k + 1) + 1 from rfl]
      simp only [grapevineref13_Check.l1, if_pos q1, if_pos q2, hx, if_neg h1, if_pos h2, J]
    have tail : ¬ x.f0 ≤ a → Ev (fun k => (grapevineref08_At.f k sp x.f0).bind fun t => grapevineref13_Check.j8 k (i : Int) (t != 0) kd pub sub n fr to_ sp it)
        (if x.f0 ≤ a ∨ x.f0 > to_ ∨ atS sp x.f0 ≠ 0 then 14 else if (x.f2.length : Int) > 400 then 6 else itemsE sp to_ x.f0 (it.drop (i + 1))) := fun h0 => by
      refine Ev.bind (RAt_ev sp x.f0 hs) ?_
      by_cases h3 : atS sp x.f0 = 0
      · rw [if_neg (by omega), show (atS sp x.f0 != 0) = false by simp [h3]]
        by_cases h4 : (x.f2.length : Int) > 400
        · rw [if_pos h4]
          refine Ev.done (fun k => ?_)
          simp only [grapevineref13_Check.j8]
          rw [if_neg (by simp), if_pos q2, if_pos q1, hx, if_pos h4]
        · rw [if_neg h4]
          refine Ev.step (f := fun k => grapevineref13_Check.l1 k ((i + 1 : Nat) : Int) kd pub sub n fr to_ sp it) (fun k => ?_) (ih (i + 1) x.f0 (by omega) (fun h => by omega) (fun _ => ⟨by omega, by rw [Nat.add_sub_cancel, hx]⟩))
          simp only [grapevineref13_Check.j8]
          rw [if_neg (by simp), if_pos q2, if_pos q1, hx, if_neg h4, cast_succ_wrap hlt hi]
      · rw [if_pos (Or.inr (Or.inr h3)), show (atS sp x.f0 != 0) = true by simp [h3]]
        exact Ev.done (fun k => J k)
    by_cases hz : i = 0
    · have ea := g0 hz
      refine Ev.step (fun k => ?_) (tail (by omega))
      simp only [grapevineref13_Check.l1, if_pos q1, if_pos q2, hx, if_neg h1, if_neg h2]
      rw [if_neg (show ¬ (i : Int) > 0 by omega)]
    · obtain ⟨ga, ea⟩ := g1 (by omega)
      have r1 : (i : Int) > 0 := by omega
      have r2 : wrap64 ((i : Int) - 1) = ((i - 1 : Nat) : Int) := pred_wrap (by omega) (by omega)
      have r3 : (0 : Int) ≤ ((i - 1 : Nat) : Int) := by omega
      have r4 : ((i - 1 : Nat) : Int) < (it.length : Int) := by omega
      by_cases h5 : x.f0 ≤ a
      · rw [if_pos (Or.inl h5)]
        refine Ev.done2 (fun k => ?_)
        rw [show k + 2 = (k + 1) + 1 from rfl]
        simp only [grapevineref13_Check.l1, if_pos q1, if_pos q2, hx, if_neg h1, if_neg h2, if_pos r1, r2, if_pos r3, if_pos r4, ← ea, if_pos h5, J]
      · refine Ev.step (fun k => ?_) (tail h5)
        simp only [grapevineref13_Check.l1, if_pos q1, if_pos q2, hx, if_neg h1, if_neg h2, if_pos r1, r2, if_pos r3, if_pos r4, ← ea, if_neg h5]
/-! ### the spans -/
theorem Spans_ev (kd pub sub n fr to_ : Int) (sp : List Sp) (it : List It) (hs : sp.length ≤ 9223372036854775807) (hi : it.length ≤ 9223372036854775807) (hf : 1 ≤ fr) (hf2 : fr ≤ 1099511627776) : ∀ (m i : Nat), i + m = sp.length →
    Ev (fun k => parcel_Check.l0 k sp (sp.length : Int) (i : Int) kd pub sub n fr to_ sp it) (if ¬ (∀ s ∈ sp.drop i, spanOK fr to_ s) then 4 else itemsE sp to_ (fr - 1) it) := by
  intro m
  induction m with
  | zero =>
    intro i h
    rw [List.drop_of_length_le (by omega), if_neg (by simp)]
    refine Ev.step (f := fun k => parcel_Check.l1 k (fr - 1) it (it.length : Int) ((0 : Nat) : Int) kd pub sub n fr to_ sp it) (fun k => ?_) (Items_ev kd pub sub n fr to_ sp it hs hi it.length 0 (fr - 1) (by omega))
    simp only [parcel_Check.l0]
    rw [if_neg (by omega), wrap_ok (by omega) (by omega)]
    rfl
  | succ m ih =>
    intro i h
    have hlt : i < sp.length := by omega
    rw [drop_rd sp i hlt]
    generalize hx : rd_T38 sp (i : Int) = x
    have q1 : (i : Int) < (sp.length : Int) := by omega
    have q2 : (0 : Int) ≤ (i : Int) := by omega
    by_cases hok : spanOK fr to_ x
    · have e : (∀ s ∈ x :: sp.drop (i + 1), spanOK fr to_ s) ↔ (∀ s ∈ sp.drop (i + 1), spanOK fr to_ s) := by simp [hok]
      simp only [e]
      refine Ev.step (fun k => ?_) (ih (i + 1) (by omega))
      have ⟨o1, o2, o3⟩ := hok
      simp only [parcel_Check.l0, if_pos q1, if_pos q2, hx]
      rw [if_neg o1, if_neg (by omega), if_neg (by omega), cast_succ_wrap hlt hs]
    · rw [if_pos (by simp [hok])]
      refine Ev.done (fun k => ?_)
      simp only [parcel_Check.l0, if_pos q1, if_pos q2, hx]
      unfold spanOK at hok
      by_cases o1 : x.f2 = 1
      · rw [if_pos o1]
      rw [if_neg o1]
      by_cases o2 : x.f0 < fr
      · rw [if_pos o2]
      rw [if_neg o2, if_pos (by omega)]
theorem RSpans_ev (kd pub sub n fr to_ : Int) (sp : List Sp) (it : List It) (hs : sp.length ≤ 9223372036854775807) (hi : it.length ≤ 9223372036854775807) (hsp : ∀ s ∈ sp, 1 ≤ s.f2 ∧ s.f2 ≤ 3) : ∀ (m i : Nat) (b : Bool), i + m = sp.length →
    Ev (fun k => grapevineref13_Check.l0 k b (i : Int) kd pub sub n fr to_ sp it) (if ¬ (b = true ∧ ∀ s ∈ sp.drop i, spanOK fr to_ s) then 4 else itemsE sp to_ (fr - 1) it) := by
  intro m
  induction m with
  | zero =>
    intro i b h
    rw [List.drop_of_length_le (by omega)]
    cases b with
    | false =>
      rw [if_pos (by simp)]
      refine Ev.done (fun k => ?_)
      simp only [grapevineref13_Check.l0]
      rw [if_neg (by omega), if_neg (by simp)]
    | true =>
      rw [if_neg (by simp)]
      refine Ev.step (f := fun k => grapevineref13_Check.l1 k ((0 : Nat) : Int) kd pub sub n fr to_ sp it) (fun k => ?_) (RItems_ev kd pub sub n fr to_ sp it hs hi it.length 0 (fr - 1) (by omega) (fun _ => rfl) (fun h => by omega))
      simp only [grapevineref13_Check.l0]
      rw [if_neg (by omega), if_pos trivial]
      rfl
  | succ m ih =>
    intro i b h
    have hlt : i < sp.length := by omega
    have hm : rd_T38 sp (i : Int) ∈ sp := by rw [rd_at sp i hlt]; exact List.getElem_mem hlt
    rw [drop_rd sp i hlt]
    generalize hx : rd_T38 sp (i : Int) = x at hm
    have hr := hsp x hm
    have q1 : (i : Int) < (sp.length : Int) := by omega
    have q2 : (0 : Int) ≤ (i : Int) := by omega
    have e : (b = true ∧ ∀ s ∈ x :: sp.drop (i + 1), spanOK fr to_ s) ↔ ((b && decide (spanOK fr to_ x)) = true ∧ ∀ s ∈ sp.drop (i + 1), spanOK fr to_ s) := by
      simp [and_assoc]
    simp only [e]
    refine Ev.step (fun k => ?_) (ih (i + 1) (b && decide (spanOK fr to_ x)) (by omega))
    simp only [grapevineref13_Check.l0, if_pos q1, if_pos q2, hx, cast_succ_wrap hlt hs]
    cases b with
    | false => rw [if_neg (by simp), Bool.false_and]
    | true =>
      rw [if_pos rfl, Bool.true_and]
      unfold spanOK
      by_cases o2 : x.f0 ≥ fr
      · by_cases o1 : x.f2 = 2
        · rw [if_pos o1, if_pos o2]; congr 1; exact decide_eq_decide.2 (by omega)
        by_cases o3 : x.f2 = 3
        · rw [if_neg o1, if_pos o3, if_pos o2]; congr 1; exact decide_eq_decide.2 (by omega)
        · rw [if_neg o1, if_neg o3]; congr 1; exact (decide_eq_false (by omega)).symm
      · rw [if_neg o2, ite_self, ite_self]
        congr 1; exact (decide_eq_false (by omega)).symm
theorem RSpans4 (kd pub sub n fr to_ : Int) (sp : List Sp) (it : List It) (hs : sp.length ≤ 9223372036854775807) : ∀ (m i : Nat), i + m = sp.length → Ev (fun k => grapevineref13_Check.l0 k false (i : Int) kd pub sub n fr to_ sp it) 4 := by
  intro m
  induction m with
  | zero =>
    intro i h
    refine Ev.done (fun k => ?_)
    simp only [grapevineref13_Check.l0]
    rw [if_neg (by omega), if_neg (by simp)]
  | succ m ih =>
    intro i h
    have hlt : i < sp.length := by omega
    refine Ev.step (fun k => ?_) (ih (i + 1) (by omega))
    simp only [grapevineref13_Check.l0]
    rw [if_pos (by omega), if_pos (by omega), if_neg (by simp), cast_succ_wrap hlt hs]
theorem right_is {l : List Sp} : ∀ {pe pi : Int}, rightB pe pi l = true → ∀ s ∈ l, 1 ≤ s.f2 ∧ s.f2 ≤ 3 := by
  induction l with
  | nil => intro pe pi _ s hs; cases hs
  | cons x l ih =>
    intro pe pi h s hs
    obtain ⟨h1, h2⟩ := rightB_cons.1 h
    rcases List.mem_cons.1 hs with rfl | hs
    · have := h1.1; omega
    · exact ih h2 s hs
theorem Check_ev (kd pub sub n fr to_ : Int) (sp : List Sp) (it : List It) :
    Ev (fun k => parcel_Check.f k kd pub sub n fr to_ sp it) (chk kd pub sub n fr to_ sp it) := by
  unfold chk
  have J0 : ∀ k, parcel_Check.j0 (k + 1) true kd pub sub n fr to_ sp it = some 12 := fun k => by simp only [parcel_Check.j0]; rw [if_pos trivial]
  by_cases hk : kd < 1 ∨ kd > 6
  · rw [if_pos hk]
    refine Ev.done (fun k => ?_)
    unfold parcel_Check.f
    by_cases h1 : kd < 1
    · rw [if_pos h1, J0]
    · rw [if_neg h1, decide_eq_true (by omega), J0]
  rw [if_neg hk]
  have e0 : ∀ k, parcel_Check.f (k + 3) kd pub sub n fr to_ sp it = (if numsOK kd pub sub n fr to_ then (if kd = 1 then parcel_Check.j1 (k + 2) (decide ((sp.length : Int) > 32 ∨ (it.length : Int) > 8)) kd pub sub n fr to_ sp it else some 0) else some 2) := by
    intro k
    unfold parcel_Check.f
    rw [if_neg (by omega), decide_eq_false (by omega), show k + 3 = (k + 2) + 1 from rfl]
    simp only [parcel_Check.j0, Numbers_eq, Option.bind_some]
    rw [if_neg (by simp)]
    by_cases hn : numsOK kd pub sub n fr to_
    · rw [decide_eq_true hn, if_pos rfl, if_pos hn]
      by_cases h1 : (sp.length : Int) > 32
      · rw [if_pos h1, decide_eq_true (Or.inl h1)]
      · rw [if_neg h1, show decide ((sp.length : Int) > 32 ∨ (it.length : Int) > 8) = decide ((it.length : Int) > 8) from decide_eq_decide.2 (by omega)]
    · rw [decide_eq_false hn, if_neg (by simp), if_neg hn]
  by_cases hn : numsOK kd pub sub n fr to_
  · rw [if_neg (by simp [hn])]
    by_cases h1 : kd = 1
    · rw [if_neg (by simp [h1])]
      have hnum := hn
      unfold numsOK at hnum
      rw [if_pos (by omega)] at hnum
      refine Ev.unshift 3 (Ev.congr (f := fun k => parcel_Check.j1 (k + 2) (decide ((sp.length : Int) > 32 ∨ (it.length : Int) > 8)) kd pub sub n fr to_ sp it) (fun k => by rw [e0, if_pos hn, if_pos h1]) (Ev.shift 2 (f := fun k => parcel_Check.j1 k (decide ((sp.length : Int) > 32 ∨ (it.length : Int) > 8)) kd pub sub n fr to_ sp it) ?_))
      by_cases h2 : (sp.length : Int) > 32 ∨ (it.length : Int) > 8
      · rw [if_pos h2, decide_eq_true h2]
        refine Ev.done (fun k => ?_)
        simp only [parcel_Check.j1]
        rw [if_pos trivial]
      · rw [if_neg h2, decide_eq_false h2]
        refine Ev.step (f := fun k => (span_Right.f k sp).bind fun t130 => (if t130 = true then (parcel_Check.l0 k sp (sp.length : Int) 0 kd pub sub n fr to_ sp it) else (some 4))) (fun k => by
          simp only [parcel_Check.j1]
          rw [if_neg (by simp)]) (Ev.bind (Right_ev sp (by omega)) ?_)
        by_cases h3 : rightB 0 0 sp = true
        · rw [if_neg (by simp [h3])]
          refine Ev.congr (fun k => if_pos h3) (Spans_ev kd pub sub n fr to_ sp it (by omega) (by omega) (by omega) (by omega) sp.length 0 (by omega))
        · rw [if_pos h3]
          exact Ev.congr (fun k => if_neg h3) (Ev.now _)
    · rw [if_pos h1]
      exact Ev.unshift 3 (Ev.congr (f := fun _ => some 0) (fun k => by rw [e0, if_pos hn, if_neg h1]) (Ev.now _))
  · rw [if_pos hn]
    exact Ev.unshift 3 (Ev.congr (f := fun _ => some 2) (fun k => by rw [e0, if_neg hn]) (Ev.now _))
theorem RCheck_ev (kd pub sub n fr to_ : Int) (sp : List Sp) (it : List It) :
    Ev (fun k => grapevineref13_Check.f k kd pub sub n fr to_ sp it) (chk kd pub sub n fr to_ sp it) := by
  unfold chk
  refine Ev.unshift 5 ?_
  by_cases hk : kd < 1 ∨ kd > 6
  · rw [if_pos hk]
    exact Ev.congr (fun k => by rw [RHead_eq, if_pos hk]) (Ev.now _)
  rw [if_neg hk]
  by_cases hn : numsOK kd pub sub n fr to_
  case neg =>
    rw [if_pos hn]
    exact Ev.congr (fun k => by rw [RHead_eq, if_neg hk, if_pos hn]) (Ev.now _)
  rw [if_neg (by simp [hn])]
  by_cases h1 : kd ≠ 1
  · rw [if_pos h1]
    exact Ev.congr (fun k => by rw [RHead_eq, if_neg hk, if_neg (by simp [hn]), if_pos h1]) (Ev.now _)
  rw [if_neg h1]
  refine Ev.congr (fun k => by rw [RHead_eq, if_neg hk, if_neg (by simp [hn]), if_neg h1]) ?_
  by_cases h2 : (sp.length : Int) > 32 ∨ (it.length : Int) > 8
  · rw [if_pos h2, decide_eq_true h2]
    refine Ev.done (fun k => ?_)
    simp only [grapevineref13_Check.j5]
    rw [if_pos trivial]
  rw [if_neg h2, decide_eq_false h2]
  refine Ev.step (f := fun k => (grapevineref08_Right.f k sp).bind fun t => grapevineref13_Check.l0 k t 0 kd pub sub n fr to_ sp it) (fun k => by
    simp only [grapevineref13_Check.j5]
    rw [if_neg (by simp)]) (Ev.bind (RRight_ev sp (by omega)) ?_)
  by_cases h3 : rightB 0 0 sp = true
  · rw [if_neg (by simp [h3])]
    have h := RSpans_ev kd pub sub n fr to_ sp it (by omega) (by omega) (right_is h3) sp.length 0 true (by omega)
    simp only [true_and, List.drop_zero] at h
    rw [h3]
    exact h
  · rw [if_pos h3]
    have h3f : rightB 0 0 sp = false := by simpa using h3
    rw [h3f]
    exact RSpans4 kd pub sub n fr to_ sp it (by omega) sp.length 0 (by omega)
end Go.Proofs.Ytffefaiaifhokaa.PT
