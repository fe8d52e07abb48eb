import Derived.Test.YtoandmnefgimoaaDoorLBPLx0
import Derived.Test.YtoandmnefgimoaaDoorLBPLx4
import Derived.Test.YtoandmnefgimoaaDoorLBPLx29
import Derived.Test.YtoandmnefgimoaaDoorLBPLx3
import Derived.Test.YtoandmnefgimoaaDoorLBPLx5
import Derived.Test.YtoandmnefgimoaaDoorLBPLx10
import Derived.Test.YtoandmnefgimoaaDoorLBPLx30
import Derived.Test.YtoandmnefgimoaaDoorLBOctAll
import Derived.Test.YtoandmnefgimoaaDoorLBPLx6
import Derived.Test.YtoandmnefgimoaaDoorLBPLx31
import Derived.Test.YtoandmnefgimoaaDoorLBPLx7
import Derived.Test.YtoandmnefgimoaaDoorLBPLx32
import Derived.Test.YtoandmnefgimoaaDoorLBPLOpens
import Derived.Test.YtoandmnefgimoaaDoorLBPLx16
import Derived.Test.YtoandmnefgimoaaDoorLBPLx15
import Derived.Test.YtoandmnefgimoaaDoorLBPLx18
import Derived.Test.YtoandmnefgimoaaDoorLBPLx19
section
namespace Go.Proofs.YtoandmnefgimoaaDoor.PL
open Go.RowKit Go.Proofs.YtoandmnefgimoaaDoorW.PrintWords
namespace Par
abbrev Sp := S110
def okS (pe pi : Int) (s : Sp) : Prop := (1 ≤ s.f2 ∧ s.f2 ≤ 3 ∧ 1 ≤ s.f0 ∧ s.f0 ≤ s.f1 ∧ s.f1 ≤ 1099511627776) ∧ pe < s.f0 ∧ ¬ (s.f0 = pe + 1 ∧ s.f2 = pi)
instance (pe pi : Int) (s : Sp) : Decidable (okS pe pi s) := by unfold okS; infer_instance
theorem okS_iff {pe pi : Int} {s : Sp} : okS pe pi s ↔ ((1 ≤ s.f2 ∧ s.f2 ≤ 3 ∧ 1 ≤ s.f0 ∧ s.f0 ≤ s.f1 ∧ s.f1 ≤ 1099511627776) ∧ pe < s.f0 ∧ ¬ (s.f0 = pe + 1 ∧ s.f2 = pi)) := Iff.rfl
def rightB : Int → Int → List Sp → Bool
  | _, _, [] => true
  | pe, pi, s :: l => decide (okS pe pi s) && rightB s.f1 s.f2 l
def atS : List Sp → Int → Int
  | [], _ => 0
  | s :: l, t => if s.f0 ≤ t ∧ t ≤ s.f1 then s.f2 else atS l t
theorem rightB_cons {pe pi : Int} {s : Sp} {l : List Sp} : rightB pe pi (s :: l) = true ↔ okS pe pi s ∧ rightB s.f1 s.f2 l = true := by
  simp [rightB, Bool.and_eq_true]
theorem atS_cons (s : Sp) (l : List Sp) (t : Int) : atS (s :: l) t = if s.f0 ≤ t ∧ t ≤ s.f1 then s.f2 else atS l t := rfl
theorem rd_at (l : List Sp) (i : Nat) (h : i < l.length) : rd_T110 l (i : Int) = l[i] := by
  unfold rd_T110
  rw [Int.toNat_natCast, List.getD_eq_getElem?_getD, List.getElem?_eq_getElem h]
  rfl
theorem drop_rd (l : List Sp) (i : Nat) (h : i < l.length) : l.drop i = rd_T110 l (i : Int) :: l.drop (i + 1) := by
  rw [rd_at l i h]
  exact List.drop_eq_getElem_cons h
theorem wrap_ok {x : Int} (h : -9223372036854775808 ≤ x) (h' : x ≤ 9223372036854775807) : wrap64 x = x := by
  unfold wrap64; omega
end Par
end Go.Proofs.YtoandmnefgimoaaDoor.PL

end

section
set_option linter.unusedSimpArgs false
set_option linter.unusedVariables false
namespace Go.Proofs.YtoandmnefgimoaaDoor.PL
open Go.RowKit Go.Proofs.YtoandmnefgimoaaDoorW.PrintWords Go.Proofs.YtoandmnefgimoaaDoorW.PrintMore
namespace Par
theorem Ev.done {α : Type} {g : Nat → Option α} {r : α} (h : ∀ k, g (k + 1) = some r) : Ev g r := Ev.step (f := fun _ => some r) h (Ev.now r)
theorem cast_succ_wrap {i n : Nat} (h : i < n) (hn : n ≤ 9223372036854775807) : wrap64 ((i : Int) + 1) = ((i + 1 : Nat) : Int) := by
  rw [wrap_ok (by omega) (by omega)]; omega
theorem Right_ev_l (l : List Sp) (hl : l.length ≤ 9223372036854775807) : ∀ (m i : Nat) (a b c : Int), i + m = l.length → 0 ≤ b → b ≤ 1099511627776 →
    Ev (fun k => span_Right.l0 k l (l.length : Int) (i : Int) a b c) (rightB b c (l.drop i)) := by
  intro m
  induction m with
  | zero =>
    intro i a b c hi hb hb'
    rw [List.drop_of_length_le (by omega)]
    refine Ev.done (fun k => ?_)
    simp only [span_Right.l0]
    rw [if_neg (by omega)]
    rfl
  | succ m ih =>
    intro i a b c hi hb hb'
    have hlt : i < l.length := by omega
    rw [drop_rd l i hlt]
    generalize hs : rd_T110 l (i : Int) = s
    have hstep : ∀ k, span_Right.l0 (k + 1) l (l.length : Int) (i : Int) a b c = if okS b c s then span_Right.l0 k l (l.length : Int) ((i + 1 : Nat) : Int) s.f0 s.f1 s.f2 else some false := by
      intro k
      simp only [span_Right.l0]
      rw [if_pos (by omega), if_pos (by omega), if_pos (by omega), hs, cast_succ_wrap hlt hl, wrap_ok (x := b + 1) (by omega) (by omega)]
      by_cases h1 : s.f2 < 1
      · rw [if_pos h1, if_neg (fun hh => by have hh := okS_iff.1 hh; omega)]
      rw [if_neg h1]
      by_cases h2 : s.f2 > 3
      · rw [if_pos h2, if_neg (fun hh => by have hh := okS_iff.1 hh; omega)]
      rw [if_neg h2]
      by_cases h3 : s.f0 < 1
      · rw [if_pos h3, if_neg (fun hh => by have hh := okS_iff.1 hh; omega)]
      rw [if_neg h3]
      by_cases h4 : s.f0 > s.f1
      · rw [if_pos h4, if_neg (fun hh => by have hh := okS_iff.1 hh; omega)]
      rw [if_neg h4]
      by_cases h5 : s.f1 > 1099511627776
      · rw [if_pos h5, if_neg (fun hh => by have hh := okS_iff.1 hh; omega)]
      rw [if_neg h5]
      by_cases h6 : s.f0 ≤ b
      · rw [if_pos h6, if_neg (fun hh => by have hh := okS_iff.1 hh; omega)]
      rw [if_neg h6]
      by_cases h7 : s.f0 = b + 1
      · rw [if_pos h7]
        by_cases h8 : s.f2 = c
        · rw [if_pos h8, if_neg (fun hh => by have hh := okS_iff.1 hh; omega)]
        · rw [if_neg h8, if_pos (okS_iff.2 (by omega))]
      · rw [if_neg h7, if_pos (okS_iff.2 (by omega))]
    by_cases hok : okS b c s
    · have e : rightB b c (s :: l.drop (i + 1)) = rightB s.f1 s.f2 (l.drop (i + 1)) := by simp [rightB, hok]
      rw [e]
      refine Ev.step (f := fun k => span_Right.l0 k l (l.length : Int) ((i + 1 : Nat) : Int) s.f0 s.f1 s.f2) (fun k => ?_) (ih (i + 1) _ _ _ (by omega) (by have := hok.1; omega) (by have := hok.1; omega))
      rw [hstep, if_pos hok]
    · have e : rightB b c (s :: l.drop (i + 1)) = false := by simp [rightB, hok]
      rw [e]
      exact Ev.done (fun k => by rw [hstep, if_neg hok])
theorem Right_ev (l : List Sp) (hl : l.length ≤ 9223372036854775807) : Ev (fun k => span_Right.f k l) (rightB 0 0 l) := by
  have := Right_ev_l l hl l.length 0 0 0 0 (by omega) (by omega) (by omega)
  exact this
theorem Ev.step2 {α : Type} {g f : Nat → Option α} {r : α} (h : ∀ k, g (k + 2) = f k) (k : Ev f r) : Ev g r := Ev.step (f := fun k => g (k + 1)) (fun _ => rfl) (Ev.step (f := f) h k)
theorem Ev.done2 {α : Type} {g : Nat → Option α} {r : α} (h : ∀ k, g (k + 2) = some r) : Ev g r := Ev.step2 (f := fun _ => some r) h (Ev.now r)
theorem pred_wrap {i : Nat} (h : 0 < i) (hn : i ≤ 9223372036854775807) : wrap64 ((i : Int) - 1) = ((i - 1 : Nat) : Int) := by
  rw [wrap_ok (by omega) (by omega)]; omega
theorem RRight_ev_l (l : List Sp) (hl : l.length ≤ 9223372036854775807) : ∀ (m i : Nat) (pe pi : Int), i + m = l.length → (i = 0 → pe = 0 ∧ pi = 0) → (0 < i → pe = (rd_T110 l ((i - 1 : Nat) : Int)).f1 ∧ pi = (rd_T110 l ((i - 1 : Nat) : Int)).f2) →
    Ev (fun k => grapevineref08_Right.l0 k l (i : Int)) (rightB pe pi (l.drop i)) := by
  intro m
  induction m with
  | zero =>
    intro i pe pi hi _ _
    rw [List.drop_of_length_le (by omega)]
    refine Ev.done (fun k => ?_)
    simp only [grapevineref08_Right.l0]
    rw [if_neg (by omega)]
    rfl
  | succ m ih =>
    intro i pe pi hi h0 hp
    have hlt : i < l.length := by omega
    rw [drop_rd l i hlt]
    generalize hs : rd_T110 l (i : Int) = s
    have hj : ∀ k, grapevineref08_Right.j1 (k + 1) l (i : Int) true = some false := fun k => by simp only [grapevineref08_Right.j1]; rw [if_pos trivial]
    have hstep : ∀ k, grapevineref08_Right.l0 (k + 2) l (i : Int) = if okS pe pi s then grapevineref08_Right.l0 k l ((i + 1 : Nat) : Int) else some false := by
      intro k
      rw [show k + 2 = (k + 1) + 1 from rfl]
      simp only [grapevineref08_Right.l0]
      rw [if_pos (by omega), if_pos (by omega), hs]
      by_cases h1 : s.f2 < 1
      · rw [if_pos h1, hj, if_neg (fun hh => by have hh := okS_iff.1 hh; omega)]
      rw [if_neg h1]
      by_cases h2 : s.f2 > 3
      · rw [if_pos h2, hj, if_neg (fun hh => by have hh := okS_iff.1 hh; omega)]
      rw [if_neg h2]
      by_cases h3 : s.f0 < 1
      · rw [if_pos h3, hj, if_neg (fun hh => by have hh := okS_iff.1 hh; omega)]
      rw [if_neg h3]
      by_cases h4 : s.f1 < s.f0
      · rw [if_pos h4, hj, if_neg (fun hh => by have hh := okS_iff.1 hh; omega)]
      rw [if_neg h4]
      by_cases h5 : s.f1 > 1099511627776
      · rw [decide_eq_true h5, hj, if_neg (fun hh => by have hh := okS_iff.1 hh; omega)]
      rw [decide_eq_false h5]
      simp only [grapevineref08_Right.j1]
      rw [if_neg (by simp), cast_succ_wrap hlt hl]
      by_cases hi0 : i = 0
      · obtain ⟨rfl, rfl⟩ := h0 hi0
        rw [if_neg (by omega), if_pos (okS_iff.2 (by omega))]
      · obtain ⟨e1, e2⟩ := hp (by omega)
        rw [if_pos (by omega), if_pos (by omega), if_pos (by omega), pred_wrap (by omega) (by omega), if_pos (by omega), if_pos (by omega), hs, ← e1, ← e2, wrap_ok (x := s.f0 - 1) (by omega) (by omega)]
        by_cases h6 : s.f0 ≤ pe
        · rw [if_pos h6, if_neg (fun hh => by have hh := okS_iff.1 hh; omega)]
        rw [if_neg h6]
        by_cases h7 : s.f0 - 1 = pe
        · rw [if_pos h7]
          by_cases h8 : s.f2 = pi
          · rw [if_pos h8, if_neg (fun hh => by have hh := okS_iff.1 hh; omega)]
          · rw [if_neg h8, if_pos (okS_iff.2 (by omega))]
        · rw [if_neg h7, if_pos (okS_iff.2 (by omega))]
    by_cases hok : okS pe pi s
    · have e : rightB pe pi (s :: l.drop (i + 1)) = rightB s.f1 s.f2 (l.drop (i + 1)) := by simp [rightB, hok]
      rw [e]
      refine Ev.step2 (f := fun k => grapevineref08_Right.l0 k l ((i + 1 : Nat) : Int)) (fun k => ?_) (ih (i + 1) _ _ (by omega) (fun h => by omega) (fun _ => by rw [show i + 1 - 1 = i by omega, hs]; exact ⟨rfl, rfl⟩))
      rw [hstep, if_pos hok]
    · have e : rightB pe pi (s :: l.drop (i + 1)) = false := by simp [rightB, hok]
      rw [e]
      exact Ev.done2 (fun k => by rw [hstep, if_neg hok])
theorem RRight_ev (l : List Sp) (hl : l.length ≤ 9223372036854775807) : Ev (fun k => grapevineref08_Right.f k l) (rightB 0 0 l) :=
  RRight_ev_l l hl l.length 0 0 0 (by omega) (fun _ => ⟨rfl, rfl⟩) (fun h => by omega)
theorem RAt_ev_l (l : List Sp) (t : Int) (hl : l.length ≤ 9223372036854775807) : ∀ (m i : Nat), i + m = l.length → Ev (fun k => grapevineref08_At.l0 k l t (i : Int)) (atS (l.drop i) t) := by
  intro m
  induction m with
  | zero =>
    intro i hi
    rw [List.drop_of_length_le (by omega)]
    refine Ev.done (fun k => ?_)
    simp only [grapevineref08_At.l0]
    rw [if_neg (by omega)]
    rfl
  | succ m ih =>
    intro i hi
    have hlt : i < l.length := by omega
    rw [drop_rd l i hlt]
    generalize hs : rd_T110 l (i : Int) = s
    by_cases h : s.f0 ≤ t ∧ t ≤ s.f1
    · refine Ev.done (fun k => ?_)
      simp only [grapevineref08_At.l0]
      rw [if_pos (by omega), if_pos (by omega), hs, if_pos h.1, if_pos h.2, atS_cons, if_pos h]
    · refine Ev.step (f := fun k => grapevineref08_At.l0 k l t ((i + 1 : Nat) : Int)) (fun k => ?_) (by rw [atS_cons, if_neg h]; exact ih (i + 1) (by omega))
      simp only [grapevineref08_At.l0]
      rw [if_pos (by omega), if_pos (by omega), hs, cast_succ_wrap hlt hl]
      by_cases h1 : s.f0 ≤ t
      · rw [if_pos h1, if_neg (by omega)]
      · rw [if_neg h1]
theorem RAt_ev (l : List Sp) (t : Int) (hl : l.length ≤ 9223372036854775807) : Ev (fun k => grapevineref08_At.f k l t) (atS l t) := RAt_ev_l l t hl l.length 0 (by omega)
theorem SAt_ev_l (l : List Sp) (t : Int) (hl : l.length ≤ 9223372036854775807) : ∀ (m i : Nat), i + m = l.length → Ev (fun k => span_At.l0 k t l (l.length : Int) (i : Int)) (atS (l.drop i) t) := by
  intro m
  induction m with
  | zero =>
    intro i hi
    rw [List.drop_of_length_le (by omega)]
    exact Ev.done (fun k => by simp only [span_At.l0]; rw [if_neg (by omega)]; rfl)
  | succ m ih =>
    intro i hi
    have hlt : i < l.length := by omega
    rw [drop_rd l i hlt]
    generalize hs : rd_T110 l (i : Int) = s
    by_cases h : s.f0 ≤ t ∧ t ≤ s.f1
    · refine Ev.done (fun k => ?_)
      simp only [span_At.l0]
      rw [if_pos (by omega), if_pos (by omega), if_pos (by omega), hs, if_pos (show t ≥ s.f0 from h.1), if_pos h.2, atS_cons, if_pos h]
    · refine Ev.step (f := fun k => span_At.l0 k t l (l.length : Int) ((i + 1 : Nat) : Int)) (fun k => ?_) (by rw [atS_cons, if_neg h]; exact ih (i + 1) (by omega))
      simp only [span_At.l0]
      rw [if_pos (by omega), if_pos (by omega), if_pos (by omega), hs, cast_succ_wrap hlt hl]
      by_cases h1 : s.f0 ≤ t
      · rw [if_pos (show t ≥ s.f0 from h1), if_neg (by omega)]
      · rw [if_neg (show ¬ t ≥ s.f0 by omega)]
theorem SAt_ev (l : List Sp) (t : Int) (hl : l.length ≤ 9223372036854775807) : Ev (fun k => span_At.f k l t) (atS l t) := SAt_ev_l l t hl l.length 0 (by omega)
end Par
end Go.Proofs.YtoandmnefgimoaaDoor.PL

end

section
set_option linter.unusedSimpArgs false
set_option linter.unusedVariables false
namespace Go.Proofs.YtoandmnefgimoaaDoor.PL
open Go.RowKit Go.Proofs.YtoandmnefgimoaaDoorW.PrintWords Go.Proofs.YtoandmnefgimoaaDoorW.PrintMore
namespace Par
theorem Ev.shift {α : Type} (n : Nat) {f : Nat → Option α} {r : α} (h : Ev f r) : Ev (fun k => f (k + n)) r := h.elim fun K hK => ⟨K, fun k hk => hK _ (by omega)⟩
theorem Ev.unshift {α : Type} (n : Nat) {g : Nat → Option α} {r : α} (h : Ev (fun k => g (k + n)) r) : Ev g r := h.elim fun K hK => ⟨K + n, fun k hk => by
  have e : k - n + n = k := by omega
  have := hK (k - n) (by omega)
  simpa only [e] using this⟩
abbrev It := S77
def numsOK (kd pub sub n fr to_ : Int) : Prop := 0 ≤ pub ∧ pub ≤ 2 ∧ (if kd = 1 ∨ kd = 2 then 1 ≤ fr ∧ fr ≤ to_ ∧ to_ ≤ 1099511627776 else 1 ≤ sub ∧ sub ≤ 32 ∧ 1 ≤ n ∧ n ≤ 1073741824 ∧ (kd = 3 ∨ kd = 5 → 0 ≤ fr ∧ fr ≤ 1099511627776))
instance (kd pub sub n fr to_ : Int) : Decidable (numsOK kd pub sub n fr to_) := by unfold numsOK; infer_instance
def spanOK (fr to_ : Int) (s : Sp) : Prop := s.f2 ≠ 1 ∧ fr ≤ s.f0 ∧ s.f1 ≤ to_
instance (fr to_ : Int) (s : Sp) : Decidable (spanOK fr to_ s) := by unfold spanOK; infer_instance
def itemsE (sp : List Sp) (to_ : Int) : Int → List It → Int
  | _, [] => 0
  | a, x :: xs => if x.f0 ≤ a ∨ x.f0 > to_ ∨ atS sp x.f0 ≠ 0 then 14 else if (x.f2.length : Int) > 400 then 6 else itemsE sp to_ x.f0 xs
def chk (kd pub sub n fr to_ : Int) (sp : List Sp) (it : List It) : Int :=
  if kd < 1 ∨ kd > 6 then 12 else if ¬ numsOK kd pub sub n fr to_ then 2 else if kd ≠ 1 then 0 else if (sp.length : Int) > 32 ∨ (it.length : Int) > 8 then 6
  else if ¬ (rightB 0 0 sp = true) then 4 else if ¬ (∀ s ∈ sp, spanOK fr to_ s) then 4 else itemsE sp to_ (fr - 1) it
theorem Numbers_eq (k : Nat) (kd pub sub n fr to_ : Int) (sp : List Sp) (it : List It) : parcel_numbers.f (k + 2) kd pub sub n fr to_ sp it = some (decide (numsOK kd pub sub n fr to_)) := by
  have key : ∀ (b : Bool) (p : Prop) [Decidable p], (b = true ↔ p) → some b = some (decide p) := fun b p _ h => congrArg some (by
    by_cases hp : p
    · rw [decide_eq_true hp, h.2 hp]
    · rw [decide_eq_false hp]; exact Bool.eq_false_iff.2 (fun hb => hp (h.1 hb)))
  unfold numsOK
  simp only [parcel_numbers.f, parcel_numbers.j0, parcel_numbers.j1, decide_eq_true_eq, beq_iff_eq, if_true]
  repeat' split
  all_goals (refine key _ _ ?_; simp only [decide_eq_true_eq, Bool.false_eq_true, true_iff, false_iff]; omega)
theorem ranged_eq (a : Int) : grapevineref13_ranged.f a = some (decide (a = 1 ∨ a = 2)) := by
  unfold grapevineref13_ranged.f
  by_cases h : a = 1
  · simp [h]
  · by_cases h2 : a = 2 <;> simp [h, h2]
theorem named_eq (a : Int) : grapevineref13_named.f a = some (decide (3 ≤ a ∧ a ≤ 6)) := by
  unfold grapevineref13_named.f
  by_cases h3 : a = 3
  · simp [h3]
  by_cases h4 : a = 4
  · simp [h4]
  by_cases h5 : a = 5
  · simp [h5]
  by_cases h6 : a = 6
  · simp [h6]
  rw [if_neg h3, if_neg h4, if_neg h5, decide_eq_false (by omega)]
  simp [h6]
theorem from_eq (a : Int) : grapevineref13_from.f a = some (decide (a = 1 ∨ a = 2 ∨ a = 3 ∨ a = 5)) := by
  unfold grapevineref13_from.f
  rw [ranged_eq, Option.bind_some]
  by_cases h : a = 1 ∨ a = 2
  · rw [decide_eq_true h, if_pos rfl, decide_eq_true (by omega)]
  · rw [decide_eq_false h, if_neg (by simp)]
    by_cases h3 : a = 3
    · simp [h3]
    · rw [if_neg h3]
      by_cases h5 : a = 5
      · simp [h5]
      · rw [decide_eq_false (by omega)]; simp [h5]
section
variable (k : Nat) (kd pub sub n fr to_ : Int) (sp : List Sp) (it : List It)
theorem RC4 : grapevineref13_Check.j4 (k + 1) false kd pub sub n fr to_ sp it = if kd = 1 then grapevineref13_Check.j5 k (decide ((sp.length : Int) > 32 ∨ (it.length : Int) > 8)) kd pub sub n fr to_ sp it else some 0 := by
  simp only [grapevineref13_Check.j4]
  rw [if_neg (by simp)]
  by_cases h1 : (sp.length : Int) > 32
  · rw [if_pos h1, decide_eq_true (Or.inl h1)]
  · rw [if_neg h1, show decide ((sp.length : Int) > 32 ∨ (it.length : Int) > 8) = decide ((it.length : Int) > 8) from decide_eq_decide.2 (by omega)]
theorem RC4t : grapevineref13_Check.j4 (k + 1) true kd pub sub n fr to_ sp it = some 2 := by
  simp only [grapevineref13_Check.j4]
  rw [if_pos trivial]
theorem RC3 : grapevineref13_Check.j3 (k + 2) false kd pub sub n fr to_ sp it = if (kd = 3 ∨ kd = 5) ∧ (fr < 0 ∨ fr > 1099511627776) then some 2 else grapevineref13_Check.j4 (k + 1) false kd pub sub n fr to_ sp it := by
  simp only [grapevineref13_Check.j3, named_eq, from_eq, Option.bind_some]
  rw [if_neg (by simp)]
  by_cases h : 3 ≤ kd ∧ kd ≤ 6
  · rw [decide_eq_true h, if_pos rfl]
    by_cases h2 : kd = 1 ∨ kd = 2 ∨ kd = 3 ∨ kd = 5
    · rw [decide_eq_true h2, if_pos rfl]
      by_cases h3 : fr < 0
      · rw [if_pos h3, if_pos (by omega), RC4t]
      · rw [if_neg h3]
        by_cases h4 : fr > 1099511627776
        · rw [decide_eq_true h4, if_pos (by omega), RC4t]
        · rw [decide_eq_false h4, if_neg (by omega)]
    · rw [decide_eq_false h2, if_neg (by simp), if_neg (by omega)]
  · rw [decide_eq_false h, if_neg (by simp), if_neg (by omega)]
theorem RC3t : grapevineref13_Check.j3 (k + 1) true kd pub sub n fr to_ sp it = some 2 := by
  simp only [grapevineref13_Check.j3]
  rw [if_pos trivial]
theorem RC2 : grapevineref13_Check.j2 (k + 3) false kd pub sub n fr to_ sp it = if (kd = 1 ∨ kd = 2) ∧ (fr < 1 ∨ to_ < fr ∨ to_ > 1099511627776) then some 2 else grapevineref13_Check.j3 (k + 2) false kd pub sub n fr to_ sp it := by
  rw [show k + 3 = (k + 2) + 1 from rfl]
  simp only [grapevineref13_Check.j2, ranged_eq, Option.bind_some]
  rw [if_neg (by simp)]
  by_cases h : kd = 1 ∨ kd = 2
  · rw [decide_eq_true h, if_pos rfl]
    by_cases h3 : fr < 1
    · rw [if_pos h3, if_pos (by omega), RC3t]
    rw [if_neg h3]
    by_cases h4 : to_ < fr
    · rw [if_pos h4, if_pos (by omega), RC3t]
    rw [if_neg h4]
    by_cases h5 : to_ > 1099511627776
    · rw [decide_eq_true h5, if_pos (by omega), RC3t]
    · rw [decide_eq_false h5, if_neg (by omega)]
  · rw [decide_eq_false h, if_neg (by simp), if_neg (by omega)]
theorem RC2t : grapevineref13_Check.j2 (k + 1) true kd pub sub n fr to_ sp it = some 2 := by
  simp only [grapevineref13_Check.j2]
  rw [if_pos trivial]
theorem RC1 : grapevineref13_Check.j1 (k + 4) false kd pub sub n fr to_ sp it = if (3 ≤ kd ∧ kd ≤ 6) ∧ (sub < 1 ∨ sub > 32 ∨ n < 1 ∨ n > 1073741824) then some 2 else grapevineref13_Check.j2 (k + 3) false kd pub sub n fr to_ sp it := by
  rw [show k + 4 = (k + 3) + 1 from rfl]
  simp only [grapevineref13_Check.j1, named_eq, Option.bind_some]
  rw [if_neg (by simp)]
  by_cases h : 3 ≤ kd ∧ kd ≤ 6
  · rw [decide_eq_true h, if_pos rfl]
    by_cases h3 : sub < 1
    · rw [if_pos h3, if_pos (by omega), RC2t]
    rw [if_neg h3]
    by_cases h4 : sub > 32
    · rw [if_pos h4, if_pos (by omega), RC2t]
    rw [if_neg h4]
    by_cases h5 : n < 1
    · rw [if_pos h5, if_pos (by omega), RC2t]
    rw [if_neg h5]
    by_cases h6 : n > 1073741824
    · rw [decide_eq_true h6, if_pos (by omega), RC2t]
    · rw [decide_eq_false h6, if_neg (by omega)]
  · rw [decide_eq_false h, if_neg (by simp), if_neg (by omega)]
theorem RC1t : grapevineref13_Check.j1 (k + 1) true kd pub sub n fr to_ sp it = some 2 := by
  simp only [grapevineref13_Check.j1]
  rw [if_pos trivial]
theorem RC0 : grapevineref13_Check.j0 (k + 5) false kd pub sub n fr to_ sp it = if pub < 0 ∨ pub > 2 then some 2 else grapevineref13_Check.j1 (k + 4) false kd pub sub n fr to_ sp it := by
  rw [show k + 5 = (k + 4) + 1 from rfl]
  simp only [grapevineref13_Check.j0]
  rw [if_neg (by simp)]
  by_cases h3 : pub < 0
  · rw [if_pos h3, if_pos (by omega), RC1t]
  rw [if_neg h3]
  by_cases h4 : pub > 2
  · rw [decide_eq_true h4, if_pos (by omega), RC1t]
  · rw [decide_eq_false h4, if_neg (by omega)]
theorem RC0t : grapevineref13_Check.j0 (k + 1) true kd pub sub n fr to_ sp it = some 12 := by
  simp only [grapevineref13_Check.j0]
  rw [if_pos trivial]
theorem RHead_eq : grapevineref13_Check.f (k + 5) kd pub sub n fr to_ sp it =
    if kd < 1 ∨ kd > 6 then some 12 else if ¬ numsOK kd pub sub n fr to_ then some 2 else if kd ≠ 1 then some 0 else grapevineref13_Check.j5 k (decide ((sp.length : Int) > 32 ∨ (it.length : Int) > 8)) kd pub sub n fr to_ sp it := by
  have e : grapevineref13_Check.f (k + 5) kd pub sub n fr to_ sp it = if kd < 1 ∨ kd > 6 then some 12 else grapevineref13_Check.j0 (k + 5) false kd pub sub n fr to_ sp it := by
    unfold grapevineref13_Check.f
    rw [ranged_eq, Option.bind_some]
    by_cases h : kd = 1 ∨ kd = 2
    · rw [decide_eq_true h, if_pos rfl, if_neg (by omega)]
    · rw [decide_eq_false h, if_neg (by simp), named_eq, Option.bind_some]
      by_cases h2 : 3 ≤ kd ∧ kd ≤ 6
      · rw [decide_eq_true h2, if_neg (by omega)]; rfl
      · rw [decide_eq_false h2, if_pos (by omega)]; exact RC0t _ _ _ _ _ _ _ _ _
  rw [e]
  by_cases hk : kd < 1 ∨ kd > 6
  · rw [if_pos hk, if_pos hk]
  rw [if_neg hk, if_neg hk, RC0]
  by_cases h0 : pub < 0 ∨ pub > 2
  · rw [if_pos h0, if_pos (by unfold numsOK; omega)]
  rw [if_neg h0, RC1]
  by_cases h1 : (3 ≤ kd ∧ kd ≤ 6) ∧ (sub < 1 ∨ sub > 32 ∨ n < 1 ∨ n > 1073741824)
  · rw [if_pos h1, if_pos (by unfold numsOK; rw [if_neg (by omega)]; omega)]
  rw [if_neg h1, RC2]
  by_cases h2 : (kd = 1 ∨ kd = 2) ∧ (fr < 1 ∨ to_ < fr ∨ to_ > 1099511627776)
  · rw [if_pos h2, if_pos (by unfold numsOK; rw [if_pos h2.1]; omega)]
  rw [if_neg h2, RC3]
  by_cases h3 : (kd = 3 ∨ kd = 5) ∧ (fr < 0 ∨ fr > 1099511627776)
  · rw [if_pos h3, if_pos (by unfold numsOK; rw [if_neg (by omega)]; omega)]
  rw [if_neg h3, if_neg (show ¬ ¬ numsOK kd pub sub n fr to_ by unfold numsOK; split <;> omega), RC4]
  by_cases h4 : kd = 1
  · rw [if_pos h4, if_neg (show ¬ kd ≠ 1 by omega)]
  · rw [if_neg h4, if_pos h4]
end
theorem rdi_at (l : List It) (i : Nat) (h : i < l.length) : rd_T77 l (i : Int) = l[i] := by
  unfold rd_T77
  rw [Int.toNat_natCast, List.getD_eq_getElem?_getD, List.getElem?_eq_getElem h, Option.getD_some]
theorem drop_rdi (l : List It) (i : Nat) (h : i < l.length) : l.drop i = rd_T77 l (i : Int) :: l.drop (i + 1) := by
  rw [rdi_at l i h, List.drop_eq_getElem_cons h]
theorem Items_ev (kd pub sub n fr to_ : Int) (sp : List Sp) (it : List It) (hs : sp.length ≤ 9223372036854775807) (hi : it.length ≤ 9223372036854775807) : ∀ (m i : Nat) (a : Int), i + m = it.length →
    Ev (fun k => parcel_Check.l1 k a it (it.length : Int) (i : Int) kd pub sub n fr to_ sp it) (itemsE sp to_ a (it.drop i)) := by
  intro m
  induction m with
  | zero =>
    intro i a h
    rw [List.drop_of_length_le (by omega)]
    refine Ev.done (fun k => ?_)
    simp only [parcel_Check.l1]
    rw [if_neg (by omega)]
    rfl
  | succ m ih =>
    intro i a h
    have hlt : i < it.length := by omega
    rw [drop_rdi it i hlt]
    generalize hx : rd_T77 it (i : Int) = x
    have q1 : (i : Int) < (it.length : Int) := by omega
    have q2 : (0 : Int) ≤ (i : Int) := by omega
    have J : ∀ k, parcel_Check.j4 (k + 1) it (it.length : Int) (i : Int) true kd pub sub n fr to_ sp it x.f0 x.f1 x.f2 = some 14 := fun k => by
      simp only [parcel_Check.j4]
      rw [if_pos trivial]
    simp only [itemsE]
    by_cases h1 : x.f0 ≤ a
    · rw [if_pos (Or.inl h1)]
      refine Ev.done2 (fun k => ?_)
      rw [show k + 2 = (k + 1) + 1 from rfl]
      simp only [parcel_Check.l1, if_pos q1, if_pos q2, hx, if_pos h1, J]
    by_cases h2 : x.f0 > to_
    · rw [if_pos (Or.inr (Or.inl h2))]
      refine Ev.done2 (fun k => ?_)
      rw [show k + 2 = (k + 1) + 1 from rfl]
      simp only [parcel_Check.l1, if_pos q1, if_pos q2, hx, if_neg h1, if_pos h2, J]
    refine Ev.step (f := fun k => (span_At.f k sp x.f0).bind fun t => parcel_Check.j4 k it (it.length : Int) (i : Int) (t != 0) kd pub sub n fr to_ sp it x.f0 x.f1 x.f2) (fun k => ?_) ?_
    · simp only [parcel_Check.l1, if_pos q1, if_pos q2, hx, if_neg h1, if_neg h2]
    refine Ev.bind (SAt_ev sp x.f0 hs) ?_
    by_cases h3 : atS sp x.f0 = 0
    · rw [if_neg (by omega), show (atS sp x.f0 != 0) = false by simp [h3]]
      by_cases h4 : (x.f2.length : Int) > 400
      · rw [if_pos h4]
        refine Ev.done (fun k => ?_)
        simp only [parcel_Check.j4]
        rw [if_neg (by simp), if_pos h4]
      · rw [if_neg h4]
        refine Ev.step (f := fun k => parcel_Check.l1 k x.f0 it (it.length : Int) ((i + 1 : Nat) : Int) kd pub sub n fr to_ sp it) (fun k => ?_) (ih (i + 1) x.f0 (by omega))
        simp only [parcel_Check.j4]
        rw [if_neg (by simp), if_neg h4, cast_succ_wrap hlt hi]
    · rw [if_pos (Or.inr (Or.inr h3)), show (atS sp x.f0 != 0) = true by simp [h3]]
      exact Ev.done (fun k => J k)
theorem RItems_ev (kd pub sub n fr to_ : Int) (sp : List Sp) (it : List It) (hs : sp.length ≤ 9223372036854775807) (hi : it.length ≤ 9223372036854775807) : ∀ (m i : Nat) (a : Int), i + m = it.length → (i = 0 → a = fr - 1) → (0 < i → fr ≤ a ∧ a = (rd_T77 it ((i - 1 : Nat) : Int)).f0) →
    Ev (fun k => grapevineref13_Check.l1 k (i : Int) kd pub sub n fr to_ sp it) (itemsE sp to_ a (it.drop i)) := by
  intro m
  induction m with
  | zero =>
    intro i a h _ _
    rw [List.drop_of_length_le (by omega)]
    refine Ev.done (fun k => ?_)
    simp only [grapevineref13_Check.l1]
    rw [if_neg (by omega)]
    rfl
  | succ m ih =>
    intro i a h g0 g1
    have hlt : i < it.length := by omega
    rw [drop_rdi it i hlt]
    generalize hx : rd_T77 it (i : Int) = x
    have q1 : (i : Int) < (it.length : Int) := by omega
    have q2 : (0 : Int) ≤ (i : Int) := by omega
    have J : ∀ k, grapevineref13_Check.j8 (k + 1) (i : Int) true kd pub sub n fr to_ sp it = some 14 := fun k => by
      simp only [grapevineref13_Check.j8]
      rw [if_pos trivial]
    simp only [itemsE]
    by_cases h1 : x.f0 < fr
    · rw [if_pos (Or.inl (by by_cases hz : i = 0
                             · have := g0 hz; omega
                             · have := g1 (by omega); omega))]
      refine Ev.done2 (fun k => ?_)
      rw [show k + 2 = (k + 1) + 1 from rfl]
      simp only [grapevineref13_Check.l1, if_pos q1, if_pos q2, hx, if_pos h1, J]
    by_cases h2 : x.f0 > to_
    · rw [if_pos (Or.inr (Or.inl h2))]
      refine Ev.done2 (fun k => ?_)
      rw [show k + 2 = (k + 1) + 1 from rfl]
      simp only [grapevineref13_Check.l1, if_pos q1, if_pos q2, hx, if_neg h1, if_pos h2, J]
    have tail : ¬ x.f0 ≤ a → Ev (fun k => (grapevineref08_At.f k sp x.f0).bind fun t => grapevineref13_Check.j8 k (i : Int) (t != 0) kd pub sub n fr to_ sp it)
        (if x.f0 ≤ a ∨ x.f0 > to_ ∨ atS sp x.f0 ≠ 0 then 14 else if (x.f2.length : Int) > 400 then 6 else itemsE sp to_ x.f0 (it.drop (i + 1))) := fun h0 => by
      refine Ev.bind (RAt_ev sp x.f0 hs) ?_
      by_cases h3 : atS sp x.f0 = 0
      · rw [if_neg (by omega), show (atS sp x.f0 != 0) = false by simp [h3]]
        by_cases h4 : (x.f2.length : Int) > 400
        · rw [if_pos h4]
          refine Ev.done (fun k => ?_)
          simp only [grapevineref13_Check.j8]
          rw [if_neg (by simp), if_pos q2, if_pos q1, hx, if_pos h4]
        · rw [if_neg h4]
          refine Ev.step (f := fun k => grapevineref13_Check.l1 k ((i + 1 : Nat) : Int) kd pub sub n fr to_ sp it) (fun k => ?_) (ih (i + 1) x.f0 (by omega) (fun h => by omega) (fun _ => ⟨by omega, by rw [Nat.add_sub_cancel, hx]⟩))
          simp only [grapevineref13_Check.j8]
          rw [if_neg (by simp), if_pos q2, if_pos q1, hx, if_neg h4, cast_succ_wrap hlt hi]
      · rw [if_pos (Or.inr (Or.inr h3)), show (atS sp x.f0 != 0) = true by simp [h3]]
        exact Ev.done (fun k => J k)
    by_cases hz : i = 0
    · have ea := g0 hz
      refine Ev.step (fun k => ?_) (tail (by omega))
      simp only [grapevineref13_Check.l1, if_pos q1, if_pos q2, hx, if_neg h1, if_neg h2]
      rw [if_neg (show ¬ (i : Int) > 0 by omega)]
    · obtain ⟨ga, ea⟩ := g1 (by omega)
      have r1 : (i : Int) > 0 := by omega
      have r2 : wrap64 ((i : Int) - 1) = ((i - 1 : Nat) : Int) := pred_wrap (by omega) (by omega)
      have r3 : (0 : Int) ≤ ((i - 1 : Nat) : Int) := by omega
      have r4 : ((i - 1 : Nat) : Int) < (it.length : Int) := by omega
      by_cases h5 : x.f0 ≤ a
      · rw [if_pos (Or.inl h5)]
        refine Ev.done2 (fun k => ?_)
        rw [show k + 2 = (k + 1) + 1 from rfl]
        simp only [grapevineref13_Check.l1, if_pos q1, if_pos q2, hx, if_neg h1, if_neg h2, if_pos r1, r2, if_pos r3, if_pos r4, ← ea, if_pos h5, J]
      · refine Ev.step (fun k => ?_) (tail h5)
        simp only [grapevineref13_Check.l1, if_pos q1, if_pos q2, hx, if_neg h1, if_neg h2, if_pos r1, r2, if_pos r3, if_pos r4, ← ea, if_neg h5]
theorem Spans_ev (kd pub sub n fr to_ : Int) (sp : List Sp) (it : List It) (hs : sp.length ≤ 9223372036854775807) (hi : it.length ≤ 9223372036854775807) (hf : 1 ≤ fr) (hf2 : fr ≤ 1099511627776) : ∀ (m i : Nat), i + m = sp.length →
    Ev (fun k => parcel_Check.l0 k sp (sp.length : Int) (i : Int) kd pub sub n fr to_ sp it) (if ¬ (∀ s ∈ sp.drop i, spanOK fr to_ s) then 4 else itemsE sp to_ (fr - 1) it) := by
  intro m
  induction m with
  | zero =>
    intro i h
    rw [List.drop_of_length_le (by omega), if_neg (by simp)]
    refine Ev.step (f := fun k => parcel_Check.l1 k (fr - 1) it (it.length : Int) ((0 : Nat) : Int) kd pub sub n fr to_ sp it) (fun k => ?_) (Items_ev kd pub sub n fr to_ sp it hs hi it.length 0 (fr - 1) (by omega))
    simp only [parcel_Check.l0]
    rw [if_neg (by omega), wrap_ok (by omega) (by omega)]
    rfl
  | succ m ih =>
    intro i h
    have hlt : i < sp.length := by omega
    rw [drop_rd sp i hlt]
    generalize hx : rd_T110 sp (i : Int) = x
    have q1 : (i : Int) < (sp.length : Int) := by omega
    have q2 : (0 : Int) ≤ (i : Int) := by omega
    by_cases hok : spanOK fr to_ x
    · have e : (∀ s ∈ x :: sp.drop (i + 1), spanOK fr to_ s) ↔ (∀ s ∈ sp.drop (i + 1), spanOK fr to_ s) := by simp [hok]
      simp only [e]
      refine Ev.step (fun k => ?_) (ih (i + 1) (by omega))
      have ⟨o1, o2, o3⟩ := hok
      simp only [parcel_Check.l0, if_pos q1, if_pos q2, hx]
      rw [if_neg o1, if_neg (by omega), if_neg (by omega), cast_succ_wrap hlt hs]
    · rw [if_pos (by simp [hok])]
      refine Ev.done (fun k => ?_)
      simp only [parcel_Check.l0, if_pos q1, if_pos q2, hx]
      unfold spanOK at hok
      by_cases o1 : x.f2 = 1
      · rw [if_pos o1]
      rw [if_neg o1]
      by_cases o2 : x.f0 < fr
      · rw [if_pos o2]
      rw [if_neg o2, if_pos (by omega)]
theorem RSpans_ev (kd pub sub n fr to_ : Int) (sp : List Sp) (it : List It) (hs : sp.length ≤ 9223372036854775807) (hi : it.length ≤ 9223372036854775807) (hsp : ∀ s ∈ sp, 1 ≤ s.f2 ∧ s.f2 ≤ 3) : ∀ (m i : Nat) (b : Bool), i + m = sp.length →
    Ev (fun k => grapevineref13_Check.l0 k b (i : Int) kd pub sub n fr to_ sp it) (if ¬ (b = true ∧ ∀ s ∈ sp.drop i, spanOK fr to_ s) then 4 else itemsE sp to_ (fr - 1) it) := by
  intro m
  induction m with
  | zero =>
    intro i b h
    rw [List.drop_of_length_le (by omega)]
    cases b with
    | false =>
      rw [if_pos (by simp)]
      refine Ev.done (fun k => ?_)
      simp only [grapevineref13_Check.l0]
      rw [if_neg (by omega), if_neg (by simp)]
    | true =>
      rw [if_neg (by simp)]
      refine Ev.step (f := fun k => grapevineref13_Check.l1 k ((0 : Nat) : Int) kd pub sub n fr to_ sp it) (fun k => ?_) (RItems_ev kd pub sub n fr to_ sp it hs hi it.length 0 (fr - 1) (by omega) (fun _ => rfl) (fun h => by omega))
      simp only [grapevineref13_Check.l0]
      rw [if_neg (by omega), if_pos trivial]
      rfl
  | succ m ih =>
    intro i b h
    have hlt : i < sp.length := by omega
    have hm : rd_T110 sp (i : Int) ∈ sp := by rw [rd_at sp i hlt]; exact List.getElem_mem hlt
    rw [drop_rd sp i hlt]
    generalize hx : rd_T110 sp (i : Int) = x at hm
    have hr := hsp x hm
    have q1 : (i : Int) < (sp.length : Int) := by omega
    have q2 : (0 : Int) ≤ (i : Int) := by omega
    have e : (b = true ∧ ∀ s ∈ x :: sp.drop (i + 1), spanOK fr to_ s) ↔ ((b && decide (spanOK fr to_ x)) = true ∧ ∀ s ∈ sp.drop (i + 1), spanOK fr to_ s) := by
      simp [and_assoc]
    simp only [e]
    refine Ev.step (fun k => ?_) (ih (i + 1) (b && decide (spanOK fr to_ x)) (by omega))
    simp only [grapevineref13_Check.l0, if_pos q1, if_pos q2, hx, cast_succ_wrap hlt hs]
    cases b with
    | false => rw [if_neg (by simp), Bool.false_and]
    | true =>
      rw [if_pos rfl, Bool.true_and]
      unfold spanOK
      by_cases o2 : x.f0 ≥ fr
      · by_cases o1 : x.f2 = 2
        · rw [if_pos o1, if_pos o2]; congr 1; exact decide_eq_decide.2 (by omega)
        by_cases o3 : x.f2 = 3
        · rw [if_neg o1, if_pos o3, if_pos o2]; congr 1; exact decide_eq_decide.2 (by omega)
        · rw [if_neg o1, if_neg o3]; congr 1; exact (decide_eq_false (by omega)).symm
      · rw [if_neg o2, ite_self, ite_self]
        congr 1; exact (decide_eq_false (by omega)).symm
theorem RSpans4 (kd pub sub n fr to_ : Int) (sp : List Sp) (it : List It) (hs : sp.length ≤ 9223372036854775807) : ∀ (m i : Nat), i + m = sp.length → Ev (fun k => grapevineref13_Check.l0 k false (i : Int) kd pub sub n fr to_ sp it) 4 := by
  intro m
  induction m with
  | zero =>
    intro i h
    refine Ev.done (fun k => ?_)
    simp only [grapevineref13_Check.l0]
    rw [if_neg (by omega), if_neg (by simp)]
  | succ m ih =>
    intro i h
    have hlt : i < sp.length := by omega
    refine Ev.step (fun k => ?_) (ih (i + 1) (by omega))
    simp only [grapevineref13_Check.l0]
    rw [if_pos (by omega), if_pos (by omega), if_neg (by simp), cast_succ_wrap hlt hs]
theorem right_is {l : List Sp} : ∀ {pe pi : Int}, rightB pe pi l = true → ∀ s ∈ l, 1 ≤ s.f2 ∧ s.f2 ≤ 3 := by
  induction l with
  | nil => intro pe pi _ s hs; cases hs
  | cons x l ih =>
    intro pe pi h s hs
    obtain ⟨h1, h2⟩ := rightB_cons.1 h
    rcases List.mem_cons.1 hs with rfl | hs
    · have := h1.1; omega
    · exact ih h2 s hs
theorem Check_ev (kd pub sub n fr to_ : Int) (sp : List Sp) (it : List It) :
    Ev (fun k => parcel_Check.f k kd pub sub n fr to_ sp it) (chk kd pub sub n fr to_ sp it) := by
  unfold chk
  have J0 : ∀ k, parcel_Check.j0 (k + 1) true kd pub sub n fr to_ sp it = some 12 := fun k => by simp only [parcel_Check.j0]; rw [if_pos trivial]
  by_cases hk : kd < 1 ∨ kd > 6
  · rw [if_pos hk]
    refine Ev.done (fun k => ?_)
    unfold parcel_Check.f
    by_cases h1 : kd < 1
    · rw [if_pos h1, J0]
    · rw [if_neg h1, decide_eq_true (by omega), J0]
  rw [if_neg hk]
  have e0 : ∀ k, parcel_Check.f (k + 3) kd pub sub n fr to_ sp it = (if numsOK kd pub sub n fr to_ then (if kd = 1 then parcel_Check.j1 (k + 2) (decide ((sp.length : Int) > 32 ∨ (it.length : Int) > 8)) kd pub sub n fr to_ sp it else some 0) else some 2) := by
    intro k
    unfold parcel_Check.f
    rw [if_neg (by omega), decide_eq_false (by omega), show k + 3 = (k + 2) + 1 from rfl]
    simp only [parcel_Check.j0, Numbers_eq, Option.bind_some]
    rw [if_neg (by simp)]
    by_cases hn : numsOK kd pub sub n fr to_
    · rw [decide_eq_true hn, if_pos rfl, if_pos hn]
      by_cases h1 : (sp.length : Int) > 32
      · rw [if_pos h1, decide_eq_true (Or.inl h1)]
      · rw [if_neg h1, show decide ((sp.length : Int) > 32 ∨ (it.length : Int) > 8) = decide ((it.length : Int) > 8) from decide_eq_decide.2 (by omega)]
    · rw [decide_eq_false hn, if_neg (by simp), if_neg hn]
  by_cases hn : numsOK kd pub sub n fr to_
  · rw [if_neg (by simp [hn])]
    by_cases h1 : kd = 1
    · rw [if_neg (by simp [h1])]
      have hnum := hn
      unfold numsOK at hnum
      rw [if_pos (by omega)] at hnum
      refine Ev.unshift 3 (Ev.congr (f := fun k => parcel_Check.j1 (k + 2) (decide ((sp.length : Int) > 32 ∨ (it.length : Int) > 8)) kd pub sub n fr to_ sp it) (fun k => by rw [e0, if_pos hn, if_pos h1]) (Ev.shift 2 (f := fun k => parcel_Check.j1 k (decide ((sp.length : Int) > 32 ∨ (it.length : Int) > 8)) kd pub sub n fr to_ sp it) ?_))
      by_cases h2 : (sp.length : Int) > 32 ∨ (it.length : Int) > 8
      · rw [if_pos h2, decide_eq_true h2]
        refine Ev.done (fun k => ?_)
        simp only [parcel_Check.j1]
        rw [if_pos trivial]
      · rw [if_neg h2, decide_eq_false h2]
        refine Ev.step (f := fun k => (span_Right.f k sp).bind fun t130 => (if t130 = true then (parcel_Check.l0 k sp (sp.length : Int) 0 kd pub sub n fr to_ sp it) else (some 4))) (fun k => by
          simp only [parcel_Check.j1]
          rw [if_neg (by simp)]) (Ev.bind (Right_ev sp (by omega)) ?_)
        by_cases h3 : rightB 0 0 sp = true
        · rw [if_neg (by simp [h3])]
          refine Ev.congr (fun k => if_pos h3) (Spans_ev kd pub sub n fr to_ sp it (by omega) (by omega) (by omega) (by omega) sp.length 0 (by omega))
        · rw [if_pos h3]
          exact Ev.congr (fun k => if_neg h3) (Ev.now _)
    · rw [if_pos h1]
      exact Ev.unshift 3 (Ev.congr (f := fun _ => some 0) (fun k => by rw [e0, if_pos hn, if_neg h1]) (Ev.now _))
  · rw [if_pos hn]
    exact Ev.unshift 3 (Ev.congr (f := fun _ => some 2) (fun k => by rw [e0, if_neg hn]) (Ev.now _))
theorem RCheck_ev (kd pub sub n fr to_ : Int) (sp : List Sp) (it : List It) :
    Ev (fun k => grapevineref13_Check.f k kd pub sub n fr to_ sp it) (chk kd pub sub n fr to_ sp it) := by
  unfold chk
  refine Ev.unshift 5 ?_
  by_cases hk : kd < 1 ∨ kd > 6
  · rw [if_pos hk]
    exact Ev.congr (fun k => by rw [RHead_eq, if_pos hk]) (Ev.now _)
  rw [if_neg hk]
  by_cases hn : numsOK kd pub sub n fr to_
  case neg =>
    rw [if_pos hn]
    exact Ev.congr (fun k => by rw [RHead_eq, if_neg hk, if_pos hn]) (Ev.now _)
  rw [if_neg (by simp [hn])]
  by_cases h1 : kd ≠ 1
  · rw [if_pos h1]
    exact Ev.congr (fun k => by rw [RHead_eq, if_neg hk, if_neg (by simp [hn]), if_pos h1]) (Ev.now _)
  rw [if_neg h1]
  refine Ev.congr (fun k => by rw [RHead_eq, if_neg hk, if_neg (by simp [hn]), if_neg h1]) ?_
  by_cases h2 : (sp.length : Int) > 32 ∨ (it.length : Int) > 8
  · rw [if_pos h2, decide_eq_true h2]
    refine Ev.done (fun k => ?_)
    simp only [grapevineref13_Check.j5]
    rw [if_pos trivial]
  rw [if_neg h2, decide_eq_false h2]
  refine Ev.step (f := fun k => (grapevineref08_Right.f k sp).bind fun t => grapevineref13_Check.l0 k t 0 kd pub sub n fr to_ sp it) (fun k => by
    simp only [grapevineref13_Check.j5]
    rw [if_neg (by simp)]) (Ev.bind (RRight_ev sp (by omega)) ?_)
  by_cases h3 : rightB 0 0 sp = true
  · rw [if_neg (by simp [h3])]
    have h := RSpans_ev kd pub sub n fr to_ sp it (by omega) (by omega) (right_is h3) sp.length 0 true (by omega)
    simp only [true_and, List.drop_zero] at h
    rw [h3]
    exact h
  · rw [if_pos h3]
    have h3f : rightB 0 0 sp = false := by simpa using h3
    rw [h3f]
    exact RSpans4 kd pub sub n fr to_ sp it (by omega) sp.length 0 (by omega)
end Par
end Go.Proofs.YtoandmnefgimoaaDoor.PL

end

section
set_option linter.unusedSimpArgs false
set_option linter.unusedVariables false
namespace Go.Proofs.YtoandmnefgimoaaDoor.PL
open Go.RowKit Go.Proofs.YtoandmnefgimoaaDoorW.PrintWords Go.Proofs.YtoandmnefgimoaaDoorW.PrintMore
namespace Par
open Oct (uint uintN)
theorem uint_length (x : Int) : (uint x).length ≤ 10 ∧ 0 < (uint x).length := by
  have := Oct.uintN_length 9 x
  unfold uint
  omega
def putL : Int → List Sp → List Int
  | _, [] => []
  | pe, s :: l => uint (s.f0 - pe - 1) ++ uint (s.f1 - s.f0) ++ [s.f2 % 256] ++ putL s.f1 l
theorem putL_length (l : List Sp) : ∀ pe, (putL pe l).length ≤ 21 * l.length := by
  induction l with
  | nil => intro pe; simp [putL]
  | cons s l ih =>
    intro pe
    have h1 := (uint_length (s.f0 - pe - 1)).1
    have h2 := (uint_length (s.f1 - s.f0)).1
    have h3 := ih s.f1
    simp only [putL, List.length_append, List.length_cons, List.length_nil]
    omega
theorem Put_ev_l {l : List Sp} (hl : l.length ≤ 256) : ∀ (m i : Nat) (out : List Int) (pe pi : Int), i + m = l.length → rightB pe pi (l.drop i) = true → 0 ≤ pe → pe ≤ 1099511627776 → (i = 0 → pe = 0) → (0 < i → pe = (rd_T110 l ((i - 1 : Nat) : Int)).f1) → out.length + 21 * m < 140737488355328 →
    Ev (fun k => span_Put.l0 k out pe l (l.length : Int) (i : Int)) (out ++ putL pe (l.drop i), 0) ∧ Ev (fun k => grapevineref08_Put.l0 k l out (i : Int)) (out ++ putL pe (l.drop i), 0) := by
  intro m
  induction m with
  | zero =>
    intro i out pe pi hi h hp hp' h0 h1 ho
    rw [List.drop_of_length_le (by omega)]
    simp only [putL, List.append_nil]
    constructor
    · refine Ev.done (fun k => ?_)
      simp only [span_Put.l0]
      rw [if_neg (by omega)]
    · refine Ev.done (fun k => ?_)
      simp only [grapevineref08_Put.l0]
      rw [if_neg (by omega)]
  | succ m ih =>
    intro i out pe pi hi h hp hp' h0 h1 ho
    have hlt : i < l.length := by omega
    rw [drop_rd l i hlt] at h ⊢
    generalize hs : rd_T110 l (i : Int) = s at h
    obtain ⟨⟨g1, g2, g3⟩, hr⟩ := rightB_cons.1 h
    have u1 := (uint_length (s.f0 - pe - 1)).1
    have u2 := (uint_length (s.f1 - s.f0)).1
    have hprev : 0 < i + 1 → s.f1 = (rd_T110 l ((i + 1 - 1 : Nat) : Int)).f1 := fun _ => by rw [Nat.add_sub_cancel, hs]
    have hroom : (out ++ uint (s.f0 - pe - 1) ++ uint (s.f1 - s.f0) ++ [s.f2 % 256]).length + 21 * m < 140737488355328 := by
      rw [List.length_append, List.length_append, List.length_append, List.length_singleton]
      omega
    obtain ⟨i1, i2⟩ := ih (i + 1) (out ++ uint (s.f0 - pe - 1) ++ uint (s.f1 - s.f0) ++ [s.f2 % 256]) s.f1 s.f2 (by omega) hr (by omega) (by omega) (fun h => by cases h) hprev hroom
    have ep : out ++ putL pe (s :: l.drop (i + 1)) = (out ++ uint (s.f0 - pe - 1) ++ uint (s.f1 - s.f0) ++ [s.f2 % 256]) ++ putL s.f1 (l.drop (i + 1)) := by simp [putL]
    rw [ep]
    have E1 := Oct.Uint_ev (s.f0 - pe - 1) (by omega) (by omega)
    have E2 := Oct.Uint_ev (s.f1 - s.f0) (by omega) (by omega)
    have p1 : out.length + (uint (s.f0 - pe - 1)).length < 140737488355328 := by omega
    have p2 : (out ++ uint (s.f0 - pe - 1)).length + (uint (s.f1 - s.f0)).length < 140737488355328 := by rw [List.length_append]; omega
    have p3 : (out ++ uint (s.f0 - pe - 1) ++ uint (s.f1 - s.f0)).length < 140737488355328 := by rw [List.length_append, List.length_append]; omega
    have q1 : (i : Int) < (l.length : Int) := by omega
    have q2 : (0 : Int) ≤ (i : Int) := by omega
    have qn : ¬ (i : Int) > 0 → pe = 0 := fun h => h0 (by omega)
    have qp : (i : Int) > 0 → pe = (rd_T110 l ((i - 1 : Nat) : Int)).f1 ∧ wrap64 ((i : Int) - 1) = ((i - 1 : Nat) : Int) ∧ (0 : Int) ≤ ((i - 1 : Nat) : Int) ∧ ((i - 1 : Nat) : Int) < (l.length : Int) := fun h => ⟨h1 (by omega), pred_wrap (by omega) (by omega), by omega, by omega⟩
    have w0 : pe = 0 → IntKind.u64.wrap (wrap64 ((wrap64 (s.f0)) - 1)) = s.f0 - pe - 1 := fun h => by
      rw [wrap_ok (x := s.f0) (by omega) (by omega), wrap_ok (by omega) (by omega), Oct.wrapu_ok (by omega) (by omega), h]; omega
    have w1 : IntKind.u64.wrap (wrap64 ((wrap64 (s.f0 - pe)) - 1)) = s.f0 - pe - 1 := by
      rw [wrap_ok (x := s.f0 - pe) (by omega) (by omega), wrap_ok (by omega) (by omega), Oct.wrapu_ok (by omega) (by omega)]
    have w2 : IntKind.u64.wrap (wrap64 (s.f1 - s.f0)) = s.f1 - s.f0 := by
      rw [wrap_ok (by omega) (by omega), Oct.wrapu_ok (by omega) (by omega)]
    have hw := cast_succ_wrap hlt (show l.length ≤ 9223372036854775807 from Nat.le_trans hl (by decide))
    constructor
    · apply Oct.Ev.succ
      simp only [span_Put.l0, if_pos q1, if_pos q2, hs, w1, w2, hw]
      refine Ev.bind E1.1 ?_
      simp only [if_pos p1, Option.bind_some]
      refine Ev.bind E2.1 ?_
      simp only [if_pos p2, Option.bind_some, if_pos p3]
      exact i1
    · apply Oct.Ev.succ
      simp only [grapevineref08_Put.l0, if_pos q1]
      by_cases c : (i : Int) > 0
      · obtain ⟨r1, r2, r3, r4⟩ := qp c
        simp only [if_pos c, r2, if_pos r3, if_pos r4, if_pos q2, hs, ← r1, w1, w2, hw]
        refine Ev.bind E1.2 ?_
        simp only [if_pos p1, Option.bind_some]
        refine Ev.bind E2.2 ?_
        simp only [if_pos p2, Option.bind_some, if_pos p3]
        exact i2
      · simp only [if_neg c, if_pos q2, hs, w0 (qn c), w2, hw]
        refine Ev.bind E1.2 ?_
        simp only [if_pos p1, Option.bind_some]
        refine Ev.bind E2.2 ?_
        simp only [if_pos p2, Option.bind_some, if_pos p3]
        exact i2
def putR (l : List Sp) : List Int × Int := if rightB 0 0 l = true then (if (l.length : Int) > 256 then ([], 6) else (uint (l.length : Int) ++ putL 0 l, 0)) else ([], 2)
theorem Put_ev (l : List Sp) (hl : l.length ≤ 9223372036854775807) : Ev (fun k => span_Put.f k l) (putR l) ∧ Ev (fun k => grapevineref08_Put.f k l) (putR l) := by
  unfold putR
  by_cases c : rightB 0 0 l = true
  · by_cases c2 : (l.length : Int) > 256
    · rw [if_pos c, if_pos c2]
      exact ⟨Ev.bind (Right_ev l hl) (Ev.congr (fun k => by rw [if_pos c, if_pos c2]) (Ev.now _)), Ev.bind (RRight_ev l hl) (Ev.congr (fun k => by rw [if_pos c, if_pos c2]) (Ev.now _))⟩
    · rw [if_pos c, if_neg c2]
      have hu := (uint_length (l.length : Int)).1
      obtain ⟨i1, i2⟩ := Put_ev_l (l := l) (by omega) l.length 0 (uint (l.length : Int)) 0 0 (by omega) c (by omega) (by omega) (fun _ => rfl) (fun h => by omega) (by omega)
      have E := Oct.Uint_ev (l.length : Int) (by omega) (by omega)
      have w : IntKind.u64.wrap (l.length : Int) = (l.length : Int) := Oct.wrapu_ok (by omega) (by omega)
      constructor
      · refine Ev.bind (Right_ev l hl) ?_
        simp only [if_pos c, if_neg c2, w]
        exact Ev.bind E.1 i1
      · refine Ev.bind (RRight_ev l hl) ?_
        simp only [if_pos c, if_neg c2, w]
        exact Ev.bind E.2 i2
  · rw [if_neg c]
    exact ⟨Ev.bind (Right_ev l hl) (Ev.congr (fun k => by rw [if_neg c]) (Ev.now _)), Ev.bind (RRight_ev l hl) (Ev.congr (fun k => by rw [if_neg c]) (Ev.now _))⟩
end Par
end Go.Proofs.YtoandmnefgimoaaDoor.PL

end

section
set_option linter.unusedSimpArgs false
set_option linter.unusedVariables false
namespace Go.Proofs.YtoandmnefgimoaaDoor.PL
open Go.RowKit Go.Proofs.YtoandmnefgimoaaDoorW.PrintWords Go.Proofs.YtoandmnefgimoaaDoorW.PrintMore
namespace Par
open Oct (uint uintN)
def numB (n : Int) : List Int := uint (n % 18446744073709551616)
theorem numB_length (n : Int) : (numB n).length ≤ 10 := (uint_length _).1
def itemB (x : It) : List Int := numB x.f0 ++ numB (wrap64 x.f1) ++ numB (x.f2.length : Int) ++ x.f2
def itemsB : List It → List Int
  | [] => []
  | x :: l => itemB x ++ itemsB l
def tailB (kd : Int) (sp : List Sp) (it : List It) : List Int := if kd = 1 then (putR sp).1 ++ numB (it.length : Int) ++ itemsB it else []
def putB (kd pub sub n fr to_ : Int) (sp : List Sp) (it : List It) : List Int :=
  [kd % 256] ++ numB pub ++ (if 3 ≤ kd ∧ kd ≤ 6 then numB sub ++ numB n else []) ++ (if kd = 1 ∨ kd = 2 ∨ kd = 3 ∨ kd = 5 then numB fr else []) ++ (if kd = 1 ∨ kd = 2 then numB to_ else []) ++ tailB kd sp it
def putP (kd pub sub n fr to_ : Int) (sp : List Sp) (it : List It) : List Int × Int :=
  if chk kd pub sub n fr to_ sp it = 0 then (putB kd pub sub n fr to_ sp it, 0) else ([], chk kd pub sub n fr to_ sp it)
theorem Num_ev (out : List Int) (n : Int) (h : out.length < 140737488355000) : Ev (fun k => parcel_Put.num k out n) (out ++ numB n) := by
  unfold parcel_Put.num
  refine Ev.bind (Oct.Uint_ev _ (by omega) (by omega)).1 ?_
  have := numB_length n
  unfold numB at this
  exact Ev.congr (fun k => if_pos (by omega)) (Ev.now _)
theorem RNum_ev (n : Int) : Ev (fun k => grapevineref13_num.f k n) (numB n) := by
  unfold grapevineref13_num.f
  have e : IntKind.u64.wrap n = n % 18446744073709551616 := by
    simp only [IntKind.wrap, IntKind.bits, IntKind.signed]
    simp
  rw [e]
  exact Ev.bind (Oct.Uint_ev _ (by omega) (by omega)).2 (Ev.now _)
def small (it : List It) : Prop := ∀ x ∈ it, x.f2.length ≤ 400
theorem Items2_ev : ∀ (it : List It) (out : List Int), small it → out.length + 430 * it.length < 140737488354000 → Ev (fun k => parcel_Put.items k out it) (out ++ itemsB it)
  | [], out, _, _ => by
    simp only [parcel_Put.items, itemsB, List.append_nil]
    exact Ev.now _
  | x :: l, out, hs, ho => by
    have hx : x.f2.length ≤ 400 := hs x (List.mem_cons_self ..)
    have h1 := numB_length x.f0
    have h2 := numB_length (wrap64 x.f1)
    have h3 := numB_length (x.f2.length : Int)
    rw [List.length_cons] at ho
    simp only [parcel_Put.items]
    refine Ev.bind (Num_ev _ _ (by omega)) (Ev.bind (Num_ev _ _ (by rw [List.length_append]; omega)) (Ev.bind (Num_ev _ _ (by rw [List.length_append, List.length_append]; omega)) ?_))
    have e : out ++ itemsB (x :: l) = (out ++ numB x.f0 ++ numB (wrap64 x.f1) ++ numB (x.f2.length : Int) ++ x.f2) ++ itemsB l := by simp [itemsB, itemB]
    rw [e]
    refine Ev.congr (fun k => if_pos (by simp only [List.length_append]; omega)) (Items2_ev l _ (fun y hy => hs y (List.mem_cons_of_mem _ hy)) (by simp only [List.length_append]; omega))
theorem RItems2_ev (kd pub sub n fr to_ : Int) (sp : List Sp) (it : List It) (hs : small it) (hl : it.length ≤ 8) : ∀ (m i : Nat) (out : List Int), i + m = it.length → out.length + 430 * m < 140737488354000 →
    Ev (fun k => grapevineref13_Put.l0 k out (i : Int) kd pub sub n fr to_ sp it) (out ++ itemsB (it.drop i), 0) := by
  intro m
  induction m with
  | zero =>
    intro i out h ho
    rw [List.drop_of_length_le (by omega)]
    simp only [itemsB, List.append_nil]
    refine Ev.done (fun k => ?_)
    simp only [grapevineref13_Put.l0]
    rw [if_neg (by omega)]
  | succ m ih =>
    intro i out h ho
    have hlt : i < it.length := by omega
    have hm : rd_T77 it (i : Int) ∈ it := by rw [rdi_at it i hlt]; exact List.getElem_mem hlt
    rw [drop_rdi it i hlt]
    generalize hx : rd_T77 it (i : Int) = x at hm
    have hx4 := hs x hm
    have h1 := numB_length x.f0
    have h2 := numB_length (wrap64 x.f1)
    have h3 := numB_length (x.f2.length : Int)
    have q1 : (i : Int) < (it.length : Int) := by omega
    have q2 : (0 : Int) ≤ (i : Int) := by omega
    have e : out ++ itemsB (x :: it.drop (i + 1)) = (out ++ numB x.f0 ++ numB (wrap64 x.f1) ++ numB (x.f2.length : Int) ++ x.f2) ++ itemsB (it.drop (i + 1)) := by simp [itemsB, itemB]
    have p1 : out.length + (numB x.f0).length < 140737488355328 := by omega
    have p2 : (out ++ numB x.f0).length + (numB (wrap64 x.f1)).length < 140737488355328 := by rw [List.length_append]; omega
    have p3 : (out ++ numB x.f0 ++ numB (wrap64 x.f1)).length + (numB (x.f2.length : Int)).length < 140737488355328 := by rw [List.length_append, List.length_append]; omega
    have p4 : (out ++ numB x.f0 ++ numB (wrap64 x.f1) ++ numB (x.f2.length : Int)).length + x.f2.length < 140737488355328 := by rw [List.length_append, List.length_append, List.length_append]; omega
    rw [e]
    apply Oct.Ev.succ
    simp only [grapevineref13_Put.l0, if_pos q1, if_pos q2, hx, cast_succ_wrap hlt (show it.length ≤ 9223372036854775807 by omega)]
    refine Ev.bind (RNum_ev _) ?_
    simp only [if_pos p1, Option.bind_some]
    refine Ev.bind (RNum_ev _) ?_
    simp only [if_pos p2, Option.bind_some]
    refine Ev.bind (RNum_ev _) ?_
    simp only [if_pos p3, Option.bind_some, if_pos p4]
    exact ih (i + 1) _ (by omega) (by simp only [List.length_append]; omega)
theorem itemsE_small {sp : List Sp} {to_ : Int} : ∀ {it : List It} {a : Int}, itemsE sp to_ a it = 0 → small it
  | [], _, _ => fun _ h => by cases h
  | x :: l, a, h => by
    simp only [itemsE] at h
    by_cases h1 : x.f0 ≤ a ∨ x.f0 > to_ ∨ atS sp x.f0 ≠ 0
    · rw [if_pos h1] at h; exact absurd h (by decide)
    rw [if_neg h1] at h
    by_cases h2 : (x.f2.length : Int) > 400
    · rw [if_pos h2] at h; exact absurd h (by decide)
    rw [if_neg h2] at h
    intro y hy
    rcases List.mem_cons.1 hy with rfl | hy
    · omega
    · exact itemsE_small h y hy
theorem chk_zero {kd pub sub n fr to_ : Int} {sp : List Sp} {it : List It} (h : chk kd pub sub n fr to_ sp it = 0) : 1 ≤ kd ∧ kd ≤ 6 ∧ numsOK kd pub sub n fr to_ ∧ (kd = 1 → sp.length ≤ 32 ∧ it.length ≤ 8 ∧ rightB 0 0 sp = true ∧ (∀ s ∈ sp, spanOK fr to_ s) ∧ itemsE sp to_ (fr - 1) it = 0) := by
  unfold chk at h
  by_cases h1 : kd < 1 ∨ kd > 6
  · rw [if_pos h1] at h; exact absurd h (by decide)
  rw [if_neg h1] at h
  by_cases h2 : ¬ numsOK kd pub sub n fr to_
  · rw [if_pos h2] at h; exact absurd h (by decide)
  rw [if_neg h2] at h
  refine ⟨by omega, by omega, Classical.byContradiction h2, fun hk => ?_⟩
  rw [if_neg (by omega)] at h
  by_cases h3 : (sp.length : Int) > 32 ∨ (it.length : Int) > 8
  · rw [if_pos h3] at h; exact absurd h (by decide)
  rw [if_neg h3] at h
  by_cases h4 : ¬ (rightB 0 0 sp = true)
  · rw [if_pos h4] at h; exact absurd h (by decide)
  rw [if_neg h4] at h
  by_cases h5 : ¬ (∀ s ∈ sp, spanOK fr to_ s)
  · rw [if_pos h5] at h; exact absurd h (by decide)
  rw [if_neg h5] at h
  exact ⟨by omega, by omega, Classical.byContradiction h4, Classical.byContradiction h5, h⟩
theorem putR_length {sp : List Sp} (h : sp.length ≤ 32) : (putR sp).1.length ≤ 700 := by
  unfold putR
  split
  · split
    · simp
    · have := (uint_length (sp.length : Int)).1
      have := putL_length sp 0
      simp only [List.length_append]
      omega
  · simp
theorem Tail_ev {kd pub sub n fr to_ : Int} {sp : List Sp} {it : List It} (h : chk kd pub sub n fr to_ sp it = 0) (o : List Int) (ho : o.length ≤ 100) :
    Ev (fun k => if kd = 1 then (span_Put.f k sp).bind fun s => if o.length + s.1.length < 140737488355328 then (parcel_Put.num k (o ++ s.1) (it.length : Int)).bind fun o2 => (parcel_Put.items k o2 it).bind fun o3 => some (o3, (0 : Int)) else none else some (o, 0)) (o ++ tailB kd sp it, 0) := by
  unfold tailB
  by_cases hk : kd = 1
  · obtain ⟨h1, h2, h3, h4, h5⟩ := (chk_zero h).2.2.2 hk
    have hp := putR_length h1
    have hn := numB_length (it.length : Int)
    refine Ev.congr (fun k => if_pos hk) ?_
    rw [if_pos hk]
    refine Ev.bind (Put_ev sp (by omega)).1 (Ev.congr (fun k => if_pos (by omega)) ?_)
    have e : o ++ ((putR sp).1 ++ numB (it.length : Int) ++ itemsB it) = (o ++ (putR sp).1 ++ numB (it.length : Int)) ++ itemsB it := by simp
    rw [e]
    exact Ev.bind (Num_ev _ _ (by rw [List.length_append]; omega)) (Ev.bind (Items2_ev it _ (itemsE_small h5) (by simp only [List.length_append]; omega)) (Ev.now _))
  · rw [if_neg hk, List.append_nil]
    exact Ev.congr (fun k => if_neg hk) (Ev.now _)
theorem Nums_ev : ∀ (ns o : List Int), o.length + 10 * ns.length ≤ 100 → Ev (fun k => parcel_Put.nums k o ns) (o ++ ns.flatMap numB)
  | [], o, _ => by
    simp only [parcel_Put.nums, List.flatMap_nil, List.append_nil]
    exact Ev.now _
  | n :: ns, o, h => by
    have := numB_length n
    rw [List.length_cons] at h
    simp only [parcel_Put.nums, List.flatMap_cons]
    rw [← List.append_assoc]
    exact Ev.bind (Num_ev _ _ (by omega)) (Nums_ev ns _ (by rw [List.length_append]; omega))
theorem PPut_ev (kd pub sub n fr to_ : Int) (sp : List Sp) (it : List It) : Ev (fun k => parcel_Put.f k kd pub sub n fr to_ sp it) (putP kd pub sub n fr to_ sp it) := by
  unfold putP parcel_Put.f
  refine Ev.bind (Check_ev kd pub sub n fr to_ sp it) ?_
  by_cases h : chk kd pub sub n fr to_ sp it = 0
  case neg =>
    rw [if_neg h]
    exact Ev.congr (fun k => if_neg h) (Ev.now _)
  rw [if_pos h]
  obtain ⟨h1, h2, h3, h4⟩ := chk_zero h
  refine Ev.congr (fun k => (if_pos h).trans (if_pos ⟨h1, h2⟩)) ?_
  have e : putB kd pub sub n fr to_ sp it = ([kd % 256] ++ ((flds kd).map (fld6 kd pub sub n fr to_)).flatMap numB) ++ tailB kd sp it := by
    unfold putB
    congr 1
    rcases (show kd = 1 ∨ kd = 2 ∨ kd = 3 ∨ kd = 4 ∨ kd = 5 ∨ kd = 6 by omega) with rfl | rfl | rfl | rfl | rfl | rfl <;> simp [flds, fld6]
  rw [e]
  have hl : (flds kd).length ≤ 4 := flds_len kd
  refine Ev.bind (Nums_ev _ _ (by rw [List.length_map, List.length_singleton]; omega)) (Tail_ev h _ ?_)
  have : ∀ l : List Int, (l.flatMap numB).length ≤ 10 * l.length := fun l => by
    induction l with
    | nil => simp
    | cons x l ih => have := numB_length x; simp only [List.flatMap_cons, List.length_append, List.length_cons]; omega
  have := this ((flds kd).map (fld6 kd pub sub n fr to_))
  rw [List.length_map] at this
  rw [List.length_append, List.length_singleton]
  omega
theorem RTail_ev {kd pub sub n fr to_ : Int} {sp : List Sp} {it : List It} (h : chk kd pub sub n fr to_ sp it = 0) (o : List Int) (ho : o.length ≤ 100) : Ev (fun k => grapevineref13_Put.j2 k o kd pub sub n fr to_ sp it) (o ++ tailB kd sp it, 0) := by
  unfold tailB
  apply Oct.Ev.succ
  simp only [grapevineref13_Put.j2]
  by_cases hk : kd = 1
  · obtain ⟨h1, h2, h3, h4, h5⟩ := (chk_zero h).2.2.2 hk
    have hp := putR_length h1
    have hn := numB_length (it.length : Int)
    simp only [if_pos hk]
    refine Ev.bind (Put_ev sp (by omega)).2 ?_
    have p1 : o.length + (putR sp).1.length < 140737488355328 := by omega
    have p2 : (o ++ (putR sp).1).length + (numB (it.length : Int)).length < 140737488355328 := by rw [List.length_append]; omega
    simp only [if_pos p1, Option.bind_some]
    refine Ev.bind (RNum_ev _) ?_
    simp only [if_pos p2]
    have e : o ++ ((putR sp).1 ++ numB (it.length : Int) ++ itemsB it) = (o ++ (putR sp).1 ++ numB (it.length : Int)) ++ itemsB it := by simp
    rw [e]
    exact RItems2_ev kd pub sub n fr to_ sp it (itemsE_small h5) h2 it.length 0 _ (by omega) (by simp only [List.length_append]; omega)
  · rw [if_neg hk, List.append_nil]
    exact Ev.congr (fun k => if_neg hk) (Ev.now _)
theorem RPPut_ev (kd pub sub n fr to_ : Int) (sp : List Sp) (it : List It) : Ev (fun k => grapevineref13_Put.f k kd pub sub n fr to_ sp it) (putP kd pub sub n fr to_ sp it) := by
  unfold putP grapevineref13_Put.f
  refine Ev.bind (RCheck_ev kd pub sub n fr to_ sp it) ?_
  by_cases h : chk kd pub sub n fr to_ sp it = 0
  case neg =>
    rw [if_neg h]
    exact Ev.congr (fun k => if_neg h) (Ev.now _)
  rw [if_pos h]
  obtain ⟨h1, h2, h3, h4⟩ := chk_zero h
  simp only [if_pos h, Option.bind_some, named_eq]
  unfold putB
  have b1 := numB_length pub
  have b2 := numB_length sub
  have b3 := numB_length n
  have b4 := numB_length fr
  have b5 := numB_length to_
  refine Ev.bind (RNum_ev _) ?_
  have p1 : [kd % 256].length + (numB pub).length < 140737488355328 := by rw [List.length_singleton]; omega
  simp only [if_pos p1, Option.bind_some]
  have J1 : ∀ o : List Int, o.length ≤ 80 → Ev (fun k => grapevineref13_Put.j1 k o kd pub sub n fr to_ sp it) (o ++ (if kd = 1 ∨ kd = 2 then numB to_ else []) ++ tailB kd sp it, 0) := fun o ho => by
    apply Oct.Ev.succ
    simp only [grapevineref13_Put.j1, ranged_eq, Option.bind_some]
    by_cases c : kd = 1 ∨ kd = 2
    · simp only [decide_eq_true c, if_true, if_pos c]
      refine Ev.bind (RNum_ev _) (Ev.congr (fun k => if_pos (by omega)) ?_)
      exact RTail_ev h _ (by rw [List.length_append]; omega)
    · simp only [decide_eq_false c, if_neg c, List.append_nil, Bool.false_eq_true, if_false]
      exact RTail_ev h _ (by omega)
  have J0 : ∀ o : List Int, o.length ≤ 60 → Ev (fun k => grapevineref13_Put.j0 k o kd pub sub n fr to_ sp it) (o ++ (if kd = 1 ∨ kd = 2 ∨ kd = 3 ∨ kd = 5 then numB fr else []) ++ (if kd = 1 ∨ kd = 2 then numB to_ else []) ++ tailB kd sp it, 0) := fun o ho => by
    apply Oct.Ev.succ
    simp only [grapevineref13_Put.j0, from_eq, Option.bind_some]
    by_cases c : kd = 1 ∨ kd = 2 ∨ kd = 3 ∨ kd = 5
    · simp only [decide_eq_true c, if_true, if_pos c]
      refine Ev.bind (RNum_ev _) (Ev.congr (fun k => if_pos (by omega)) ?_)
      exact J1 _ (by rw [List.length_append]; omega)
    · simp only [decide_eq_false c, if_neg c, List.append_nil, Bool.false_eq_true, if_false]
      exact J1 _ (by omega)
  have p0 : ([kd % 256] ++ numB pub).length ≤ 20 := by rw [List.length_append, List.length_singleton]; omega
  by_cases c : 3 ≤ kd ∧ kd ≤ 6
  · simp only [decide_eq_true c, if_true, if_pos c]
    refine Ev.bind (RNum_ev _) ?_
    have p2 : ([kd % 256] ++ numB pub).length + (numB sub).length < 140737488355328 := by omega
    simp only [if_pos p2, Option.bind_some]
    have p3 : ([kd % 256] ++ numB pub ++ numB sub).length + (numB n).length < 140737488355328 := by rw [List.length_append]; omega
    refine Ev.bind (RNum_ev _) (Ev.congr (fun k => if_pos p3) ?_)
    rw [← List.append_assoc ([kd % 256] ++ numB pub)]
    exact J0 _ (by rw [List.length_append, List.length_append]; omega)
  · simp only [decide_eq_false c, if_neg c, List.append_nil, Bool.false_eq_true, if_false]
    exact J0 _ (by omega)
end Par
end Go.Proofs.YtoandmnefgimoaaDoor.PL

end

section
set_option linter.unusedSimpArgs false
set_option linter.unusedVariables false
namespace Go.Proofs.YtoandmnefgimoaaDoor.PL
open Go.RowKit Go.Proofs.YtoandmnefgimoaaDoorW.PrintWords Go.Proofs.YtoandmnefgimoaaDoorW.PrintMore Go.Proofs.YtoandmnefgimoaaDoor.Open
namespace Par
open Oct (uint uintN tk takeU Bytes)
theorem tk_ok : ∀ {r : List Int} {n : Int} {i : Nat} {p : Int}, Bytes r → 0 ≤ n → n < 128 ^ i → i ≤ 9 →
    ((tk r n i p).2.2 = 0 → 0 ≤ (tk r n i p).1 ∧ (tk r n i p).1 < 18446744073709551616 ∧ p < (tk r n i p).2.1 ∧ (tk r n i p).2.1 ≤ p + r.length) ∧ ((tk r n i p).2.2 ≠ 0 → tk r n i p = (0, 0, (tk r n i p).2.2)) := by
  intro r
  induction r with
  | nil => intro n i p _ _ _ _; exact ⟨fun h => by simp [tk] at h, fun _ => rfl⟩
  | cons x r ih =>
    intro n i p hb h0 h1 hi
    have hx := hb x (by simp)
    have hb' : Bytes r := fun y hy => hb y (by simp [hy])
    simp only [tk]
    by_cases c9 : i = 9 ∧ x > 1
    · rw [if_pos c9]; exact ⟨fun h => by simp at h, fun _ => rfl⟩
    rw [if_neg c9]
    have h9 : i = 9 → x ≤ 1 := fun h => by
      by_cases hh : x > 1
      · exact absurd ⟨h, hh⟩ c9
      · omega
    obtain ⟨f1, f2, f3⟩ := Oct.fits h0 h1 hi hx h9
    by_cases c : x ≥ 128
    · rw [if_pos c]
      have hi8 : i ≤ 8 := by
        rcases Nat.lt_or_ge i 9 with h | h
        · omega
        · have := h9 (by omega); omega
      obtain ⟨i1, i2⟩ := ih (p := p + 1) hb' (by omega) (f3 hi8) (show i + 1 ≤ 9 by omega)
      refine ⟨fun h => ?_, i2⟩
      obtain ⟨j1, j2, j3, j4⟩ := i1 h
      refine ⟨j1, j2, by omega, ?_⟩
      rw [List.length_cons]
      omega
    · rw [if_neg c]
      by_cases cz : x = 0 ∧ i > 0
      · rw [if_pos cz]; exact ⟨fun h => by simp at h, fun _ => rfl⟩
      · rw [if_neg cz]
        refine ⟨fun _ => ⟨by show 0 ≤ n + x % 128 * 128 ^ i; omega, f1, by show p < p + 1; omega, ?_⟩, fun h => absurd rfl h⟩
        show p + 1 ≤ p + ((x :: r).length : Int)
        rw [List.length_cons]
        omega
theorem takeU_ok {b : List Int} (hb : Bytes b) (t : Int) :
    ((takeU b t).2.2 = 0 → 0 ≤ t ∧ 0 ≤ (takeU b t).1 ∧ (takeU b t).1 < 18446744073709551616 ∧ t < (takeU b t).2.1 ∧ (takeU b t).2.1 ≤ b.length) ∧ ((takeU b t).2.2 ≠ 0 → takeU b t = (0, 0, (takeU b t).2.2)) := by
  unfold takeU
  by_cases c : t < 0 ∨ t > b.length
  · rw [if_pos c]; exact ⟨fun h => by simp at h, fun _ => rfl⟩
  · rw [if_neg c]
    obtain ⟨h1, h2⟩ := tk_ok (p := t) (i := 0) (Oct.bytes_drop hb t.toNat) (Int.le_refl 0) (by decide) (by omega)
    refine ⟨fun h => ?_, h2⟩
    obtain ⟨j1, j2, j3, j4⟩ := h1 h
    rw [List.length_drop] at j4
    exact ⟨by omega, j1, j2, j3, by omega⟩
def takeS : Nat → List Int → Int → List Sp → Int → Int → List Sp × Int × Int
  | 0, _, pos, out, _, _ => (out, pos, 0)
  | m + 1, b, pos, out, pe, pi =>
    if (takeU b pos).2.2 = 0 then
      (if (takeU b (takeU b pos).2.1).2.2 = 0 then
        (if (takeU b (takeU b pos).2.1).2.1 ≥ b.length then ([], 0, 3) else
          if pe + (takeU b pos).1 + (takeU b (takeU b pos).2.1).1 + 1 > 1099511627776 then ([], 0, 4) else
          if rd b (takeU b (takeU b pos).2.1).2.1 < 1 ∨ rd b (takeU b (takeU b pos).2.1).2.1 > 3 then ([], 0, 4) else
          if (takeU b pos).1 = 0 ∧ rd b (takeU b (takeU b pos).2.1).2.1 = pi then ([], 0, 4) else
          takeS m b ((takeU b (takeU b pos).2.1).2.1 + 1) (out ++ [⟨pe + 1 + (takeU b pos).1, pe + 1 + (takeU b pos).1 + (takeU b (takeU b pos).2.1).1, rd b (takeU b (takeU b pos).2.1).2.1⟩]) (pe + 1 + (takeU b pos).1 + (takeU b (takeU b pos).2.1).1) (rd b (takeU b (takeU b pos).2.1).2.1))
      else ([], 0, (takeU b (takeU b pos).2.1).2.2))
    else ([], 0, (takeU b pos).2.2)
theorem Take_span_l {b : List Int} (hb : Bytes b) (hlen : b.length ≤ 9223372036854775000) (c : Int) (hc : c ≤ 256) : ∀ (m i : Nat) (pos : Int) (out : List Sp) (pf pe pi : Int), (i : Int) + m = c → out.length = i → 0 ≤ pe → pe ≤ 1099511627776 →
    Ev (fun k => span_Take.l0 k b pos out c (i : Int) pf pe pi) (takeS m b pos out pe pi) := by
  intro m
  induction m with
  | zero =>
    intro i pos out pf pe pi hi ho hp hp'
    refine Ev.done (fun k => ?_)
    simp only [span_Take.l0]
    rw [if_neg (by omega)]
    rfl
  | succ m ih =>
    intro i pos out pf pe pi hi ho hp hp'
    obtain ⟨A1, A2⟩ := takeU_ok hb pos
    have EA := (Oct.TakeUint_ev hb hlen pos).1
    apply Oct.Ev.succ
    simp only [span_Take.l0, if_pos (show (i : Int) < c by omega)]
    refine Ev.bind EA ?_
    simp only [takeS]
    generalize takeU b pos = a at A1 A2
    obtain ⟨v, p, e⟩ := a
    simp only at A1 A2 ⊢
    have err : ∀ (x8 e : Int) (x12 x13 : Int), e ≠ 0 → Ev (fun k => span_Take.j1 k b x8 e out x12 x13 c (i : Int) pf pe pi) ([], 0, e) := by
      intro x8 e x12 x13 he
      refine Ev.done (fun k => ?_)
      simp only [span_Take.j1]
      rw [if_neg he]
    by_cases c1 : e = 0
    case neg =>
      simp only [if_neg c1]
      exact err _ _ _ _ c1
    simp only [if_pos c1]
    obtain ⟨a1, a2, a3, a4, a5⟩ := A1 c1
    obtain ⟨B1, B2⟩ := takeU_ok hb p
    have EB := (Oct.TakeUint_ev hb hlen p).1
    refine Ev.bind EB ?_
    generalize takeU b p = a at B1 B2
    obtain ⟨w, q, f⟩ := a
    simp only at B1 B2 ⊢
    by_cases c2 : f = 0
    case neg =>
      simp only [if_neg c2]
      exact err _ _ _ _ c2
    subst c2
    simp only [if_true]
    obtain ⟨b1, b2, b3, b4, b5⟩ := B1 rfl
    by_cases c3 : q ≥ b.length
    · rw [if_pos c3]
      refine Ev.done (fun k => ?_)
      simp only [span_Take.j1]
      rw [if_pos trivial, if_pos c3]
    rw [if_neg c3]
    have hx := Oct.rd_bytes hb q.toNat (by omega)
    rw [show ((q.toNat : Nat) : Int) = q from by omega] at hx
    generalize hxx : rd b q = x at hx
    have q0 : 0 ≤ q := by omega
    have q1 : q < b.length := by omega
    have hroom : out.length < 5864062014805 := by omega
    have hi1 : ((i + 1 : Nat) : Int) + m = c := by omega
    have ho1 : ∀ s : Sp, (out ++ [s]).length = i + 1 := fun s => by rw [List.length_append, List.length_singleton, ho]
    have key : Ev (fun k => span_Take.j1 k b q 0 out v w c (i : Int) pf pe pi) (if pe + v + w + 1 > 1099511627776 then ([], 0, 4) else if x < 1 ∨ x > 3 then ([], 0, 4) else if v = 0 ∧ x = pi then ([], 0, 4) else takeS m b (q + 1) (out ++ [⟨pe + 1 + v, pe + 1 + v + w, x⟩]) (pe + 1 + v + w) x) := by
      have n1 : v ≥ 1099511627776 - pe → pe + v + w + 1 > 1099511627776 := fun h => by omega
      have n2 : w ≥ 1099511627776 - pe - v → pe + v + w + 1 > 1099511627776 := fun h => by omega
      have n3 : ¬ v ≥ 1099511627776 - pe → ¬ w ≥ 1099511627776 - pe - v → ¬ pe + v + w + 1 > 1099511627776 ∧ 0 ≤ pe + 1 + v + w ∧ pe + 1 + v + w ≤ 1099511627776 := fun h h' => by omega
      have n4 : x < 1 → (x < 1 ∨ x > 3) := fun h => .inl h
      have n5 : x > 3 → (x < 1 ∨ x > 3) := fun h => .inr h
      have n6 : ¬ x < 1 → ¬ x > 3 → ¬ (x < 1 ∨ x > 3) := fun h h' hh => hh.elim h h'
      have r1 : IntKind.u64.wrap (wrap64 (1099511627776 - pe)) = 1099511627776 - pe := by
        rw [wrap_ok (by omega) (by omega), Oct.wrapu_ok (by omega) (by omega)]
      have r2 : ¬ v ≥ 1099511627776 - pe → IntKind.u64.wrap (1099511627776 - pe - v) = 1099511627776 - pe - v := fun h => Oct.wrapu_ok (by omega) (by omega)
      have r3 : wrap64 x = x := wrap_ok (by omega) (by omega)
      have r4 : ¬ v ≥ 1099511627776 - pe → wrap64 (wrap64 (pe + 1) + wrap64 v) = pe + 1 + v := fun h => by
        rw [wrap_ok (x := pe + 1) (by omega) (by omega), wrap_ok (x := v) (by omega) (by omega), wrap_ok (by omega) (by omega)]
      have r5 : ¬ v ≥ 1099511627776 - pe → ¬ w ≥ 1099511627776 - pe - v → wrap64 (pe + 1 + v + wrap64 w) = pe + 1 + v + w := fun h h' => by
        rw [wrap_ok (x := w) (by omega) (by omega), wrap_ok (by omega) (by omega)]
      have r6 : wrap64 (q + 1) = q + 1 := wrap_ok (by omega) (by omega)
      have r7 : wrap64 ((i : Int) + 1) = ((i + 1 : Nat) : Int) := by rw [wrap_ok (by omega) (by omega)]; omega
      by_cases d1 : v ≥ 1099511627776 - pe
      · rw [if_pos (n1 d1)]
        refine Ev.done (fun k => ?_)
        simp only [span_Take.j1]
        rw [if_pos trivial, if_neg c3, if_pos q0, if_pos q1, r1, if_pos d1]
      by_cases d2 : w ≥ 1099511627776 - pe - v
      · rw [if_pos (n2 d2)]
        refine Ev.done (fun k => ?_)
        simp only [span_Take.j1]
        rw [if_pos trivial, if_neg c3, if_pos q0, if_pos q1, r1, if_neg d1, r2 d1, if_pos d2]
      obtain ⟨n7, n8, n9⟩ := n3 d1 d2
      rw [if_neg n7]
      by_cases d3 : x < 1
      · rw [if_pos (n4 d3)]
        refine Ev.done (fun k => ?_)
        simp only [span_Take.j1]
        rw [if_pos trivial, if_neg c3, if_pos q0, if_pos q1, r1, if_neg d1, r2 d1, if_neg d2, hxx, r3, if_pos d3]
      by_cases d4 : x > 3
      · rw [if_pos (n5 d4)]
        refine Ev.done (fun k => ?_)
        simp only [span_Take.j1]
        rw [if_pos trivial, if_neg c3, if_pos q0, if_pos q1, r1, if_neg d1, r2 d1, if_neg d2, hxx, r3, if_neg d3, if_pos d4]
      rw [if_neg (n6 d3 d4)]
      have hrec := ih (i + 1) (q + 1) (out ++ [⟨pe + 1 + v, pe + 1 + v + w, x⟩]) (pe + 1 + v) (pe + 1 + v + w) x hi1 (ho1 _) n8 n9
      by_cases d5 : v = 0
      · by_cases d6 : x = pi
        · rw [if_pos ⟨d5, d6⟩]
          refine Ev.done (fun k => ?_)
          simp only [span_Take.j1]
          rw [if_pos trivial, if_neg c3, if_pos q0, if_pos q1, r1, if_neg d1, r2 d1, if_neg d2, hxx, r3, if_neg d3, if_neg d4, if_pos d5, if_pos d6]
        · rw [if_neg (fun h => d6 h.2)]
          refine Ev.step (fun k => ?_) hrec
          simp only [span_Take.j1]
          rw [if_pos trivial, if_neg c3, if_pos q0, if_pos q1, r1, if_neg d1, r2 d1, if_neg d2, hxx, r3, if_neg d3, if_neg d4, if_pos d5, if_neg d6, if_pos hroom, r4 d1, r5 d1 d2, r6, r7]
      · rw [if_neg (fun h => d5 h.1)]
        refine Ev.step (fun k => ?_) hrec
        simp only [span_Take.j1]
        rw [if_pos trivial, if_neg c3, if_pos q0, if_pos q1, r1, if_neg d1, r2 d1, if_neg d2, hxx, r3, if_neg d3, if_neg d4, if_neg d5, if_pos hroom, r4 d1, r5 d1 d2, r6, r7]
    exact key
def takeR (b : List Int) (t : Int) : List Sp × Int × Int := if (takeU b t).2.2 = 0 then (if (takeU b t).1 > 256 then ([], 0, 6) else takeS (takeU b t).1.toNat b (takeU b t).2.1 [] 0 0) else ([], 0, (takeU b t).2.2)
theorem Take_ev {b : List Int} (hb : Bytes b) (hlen : b.length ≤ 9223372036854775000) (t : Int) : Ev (fun k => span_Take.f k b t) (takeR b t) ∧ True := by
  have hspan : ∀ c p : Int, 0 ≤ c → c ≤ 256 → Ev (fun k => span_Take.l0 k b p ([] : List S110) (wrap64 c) 0 0 0 0) (takeS c.toNat b p [] 0 0) := fun c p h h' => by
    rw [wrap_ok (by omega) (by omega)]
    exact Take_span_l hb hlen c h' c.toNat 0 p [] 0 0 0 (by omega) rfl (by omega) (by omega)
  obtain ⟨A1, A2⟩ := takeU_ok hb t
  obtain ⟨E1, E2⟩ := Oct.TakeUint_ev hb hlen t
  unfold takeR
  constructor
  · refine Ev.bind E1 ?_
    generalize takeU b t = a at A1 A2
    obtain ⟨v, p, e⟩ := a
    simp only at A1 A2 ⊢
    by_cases c1 : e = 0
    · simp only [if_pos c1]
      by_cases c2 : v > 256
      · simp only [if_pos c2]; exact Ev.now _
      · simp only [if_neg c2]; exact hspan v p (A1 c1).2.1 (by omega)
    · simp only [if_neg c1]; exact Ev.now _
  · trivial
end Par
end Go.Proofs.YtoandmnefgimoaaDoor.PL

end

section
set_option linter.unusedSimpArgs false
set_option linter.unusedVariables false
namespace Go.Proofs.YtoandmnefgimoaaDoor.PL
open Go.RowKit Go.Proofs.YtoandmnefgimoaaDoorW.PrintWords Go.Proofs.YtoandmnefgimoaaDoorW.PrintMore Go.Proofs.YtoandmnefgimoaaDoor.Open
namespace Par
open Oct (uint uintN tk takeU Bytes)
abbrev PRes := Int × Int × Int × Int × Int × Int × List Sp × List It × Int
def zerosE (e : Int) : PRes := (0, 0, 0, 0, 0, 0, [], [], e)
def upS (b : List Int) (t most : Int) : Int × Int × Int := if (takeU b t).2.2 = 0 then (if (takeU b t).1 > most then (0, 0, 6) else ((takeU b t).1, (takeU b t).2.1, 0)) else (0, 0, (takeU b t).2.2)
section
variable {b : List Int} (hb : Bytes b) (hlen : b.length ≤ 9223372036854775000)
include hb
theorem upS_ok (t most : Int) (h : (upS b t most).2.2 = 0) : 0 ≤ t ∧ 0 ≤ (upS b t most).1 ∧ (upS b t most).1 ≤ most ∧ t < (upS b t most).2.1 ∧ (upS b t most).2.1 ≤ b.length := by
  have hk := (takeU_ok hb t).1
  unfold upS at h ⊢
  by_cases h0 : (takeU b t).2.2 = 0
  · rw [if_pos h0] at h ⊢
    by_cases h1 : (takeU b t).1 > most
    · rw [if_pos h1] at h; exact absurd h (by simp)
    · rw [if_neg h1]
      have := hk h0
      exact ⟨this.1, this.2.1, by show (takeU b t).1 ≤ most; omega, this.2.2.2.1, this.2.2.2.2⟩
  · rw [if_neg h0] at h; exact absurd h h0
include hlen
theorem PNum_ev (t most : Int) (hm : most ≤ 9223372036854775807) : ∃ x : Int × Int × Int, Ev (fun k => parcel_taker_num.f k b t 0 most) x ∧ x.2.2 = (upS b t most).2.2 ∧ ((upS b t most).2.2 = 0 → x = upS b t most) ∧ ((upS b t most).2.2 ≠ 0 → x.1 = 0) := by
  unfold parcel_taker_num.f upS
  have hk := (takeU_ok hb t).1
  have E := (Oct.TakeUint_ev hb hlen t).1
  generalize takeU b t = a at hk E
  obtain ⟨v, p, e⟩ := a
  dsimp only at hk ⊢
  by_cases h0 : e = 0
  · have hv := hk h0
    by_cases h1 : v > most
    · refine ⟨(0, p, 6), Ev.congr (fun k => if_pos rfl) (Ev.bind E (Ev.congr (fun k => (if_pos h0).trans (if_pos h1)) (Ev.now _))), ?_, ?_, fun _ => rfl⟩
      · rw [if_pos h0, if_pos h1]
      · intro h; rw [if_pos h0, if_pos h1] at h; exact absurd h (by decide)
    · refine ⟨(v, p, 0), Ev.congr (fun k => if_pos rfl) (Ev.bind E (Ev.congr (fun k => ?_) (Ev.now _))), ?_, ?_, ?_⟩
      · rw [if_pos h0, if_neg h1, wrap_ok (by omega) (by omega)]
      · rw [if_pos h0, if_neg h1]
      · intro _; rw [if_pos h0, if_neg h1]
      · intro h; rw [if_pos h0, if_neg h1] at h; exact absurd rfl h
  · refine ⟨(0, p, e), Ev.congr (fun k => if_pos rfl) (Ev.bind E (Ev.congr (fun k => if_neg h0) (Ev.now _))), ?_, ?_, fun _ => rfl⟩
    · rw [if_neg h0]
    · intro h; rw [if_neg h0] at h; exact absurd h h0
end
theorem PNum_err (b : List Int) (t e most : Int) (he : e ≠ 0) : ∀ k, parcel_taker_num.f k b t e most = some (0, t, e) := fun k => by
  unfold parcel_taker_num.f
  exact if_neg he
def itS (b : List Int) (t : Int) : Int × Int × List Int × Int × Int :=
  if (upS b t 1099511627776).2.2 = 0 then
    (if (upS b (upS b t 1099511627776).2.1 4294967295).2.2 = 0 then
      (if (upS b (upS b (upS b t 1099511627776).2.1 4294967295).2.1 400).2.2 = 0 then
        (if (b.length : Int) - (upS b (upS b (upS b t 1099511627776).2.1 4294967295).2.1 400).2.1 < (upS b (upS b (upS b t 1099511627776).2.1 4294967295).2.1 400).1 then (0, 0, [], 0, 3)
         else ((upS b t 1099511627776).1, (upS b (upS b t 1099511627776).2.1 4294967295).1, (b.take ((upS b (upS b (upS b t 1099511627776).2.1 4294967295).2.1 400).2.1 + (upS b (upS b (upS b t 1099511627776).2.1 4294967295).2.1 400).1).toNat).drop (upS b (upS b (upS b t 1099511627776).2.1 4294967295).2.1 400).2.1.toNat, (upS b (upS b (upS b t 1099511627776).2.1 4294967295).2.1 400).2.1 + (upS b (upS b (upS b t 1099511627776).2.1 4294967295).2.1 400).1, 0))
      else (0, 0, [], 0, (upS b (upS b (upS b t 1099511627776).2.1 4294967295).2.1 400).2.2))
    else (0, 0, [], 0, (upS b (upS b t 1099511627776).2.1 4294967295).2.2))
  else (0, 0, [], 0, (upS b t 1099511627776).2.2)
section
variable {b : List Int} (hb : Bytes b) (hlen : b.length ≤ 9223372036854775000)
include hb
theorem itS_ok (t : Int) (h : (itS b t).2.2.2.2 = 0) : 0 ≤ t ∧ t < (itS b t).2.2.2.1 ∧ (itS b t).2.2.2.1 ≤ b.length ∧ (itS b t).2.2.1.length ≤ 400 := by
  unfold itS at h ⊢
  by_cases h1 : (upS b t 1099511627776).2.2 = 0
  · have o1 := upS_ok hb _ _ h1
    rw [if_pos h1] at h ⊢
    generalize upS b t 1099511627776 = a at h o1 ⊢
    by_cases h2 : (upS b a.2.1 4294967295).2.2 = 0
    · have o2 := upS_ok hb _ _ h2
      rw [if_pos h2] at h ⊢
      generalize upS b a.2.1 4294967295 = c at h o2 ⊢
      by_cases h3 : (upS b c.2.1 400).2.2 = 0
      · have o3 := upS_ok hb _ _ h3
        rw [if_pos h3] at h ⊢
        generalize upS b c.2.1 400 = d at h o3 ⊢
        by_cases h4 : (b.length : Int) - d.2.1 < d.1
        · rw [if_pos h4] at h; exact absurd h (by simp)
        · rw [if_neg h4]
          refine ⟨o1.1, by show t < d.2.1 + d.1; omega, by show d.2.1 + d.1 ≤ (b.length : Int); omega, ?_⟩
          show ((b.take (d.2.1 + d.1).toNat).drop d.2.1.toNat).length ≤ 400
          rw [List.length_drop, List.length_take]
          omega
      · rw [if_neg h3] at h; exact absurd h h3
    · rw [if_neg h2] at h; exact absurd h h2
  · rw [if_neg h1] at h; exact absurd h h1
include hlen
theorem PItem_ev (t : Int) : ∃ x, Ev (fun k => parcel_taker_item.f k b t 0) x ∧ x.2.2.2.2 = (itS b t).2.2.2.2 ∧ ((itS b t).2.2.2.2 = 0 → x = itS b t) := by
  unfold parcel_taker_item.f itS
  obtain ⟨a, E1, a1, a2, _⟩ := PNum_ev hb hlen t 1099511627776 (by decide)
  by_cases h1 : (upS b t 1099511627776).2.2 = 0
  case neg =>
    rw [if_neg h1]
    refine ⟨_, Ev.bind E1 (Ev.bind (Ev.congr (PNum_err b a.2.1 a.2.2 4294967295 (by rw [a1]; exact h1)) (Ev.now _)) (Ev.bind (Ev.congr (PNum_err b _ _ 400 (by show a.2.2 ≠ 0; rw [a1]; exact h1)) (Ev.now _)) (Ev.congr (fun k => if_neg (show ¬ a.2.2 = 0 by rw [a1]; exact h1)) (Ev.now _)))), a1, fun h => absurd h h1⟩
  rw [if_pos h1]
  have o1 := upS_ok hb _ _ h1
  obtain rfl := a2 h1
  generalize upS b t 1099511627776 = a at *
  obtain ⟨c, E2, c1, c2, _⟩ := PNum_ev hb hlen a.2.1 4294967295 (by decide)
  by_cases h2 : (upS b a.2.1 4294967295).2.2 = 0
  case neg =>
    rw [if_neg h2]
    refine ⟨_, Ev.bind E1 (Ev.bind (Ev.congr (fun k => by rw [h1]) E2) (Ev.bind (Ev.congr (PNum_err b _ _ 400 (by rw [c1]; exact h2)) (Ev.now _)) (Ev.congr (fun k => if_neg (show ¬ c.2.2 = 0 by rw [c1]; exact h2)) (Ev.now _)))), c1, fun h => absurd h h2⟩
  rw [if_pos h2]
  have o2 := upS_ok hb _ _ h2
  obtain rfl := c2 h2
  generalize upS b a.2.1 4294967295 = c at *
  obtain ⟨d, E3, d1, d2, _⟩ := PNum_ev hb hlen c.2.1 400 (by decide)
  by_cases h3 : (upS b c.2.1 400).2.2 = 0
  case neg =>
    rw [if_neg h3]
    refine ⟨_, Ev.bind E1 (Ev.bind (Ev.congr (fun k => by rw [h1]) E2) (Ev.bind (Ev.congr (fun k => by rw [h2]) E3) (Ev.congr (fun k => if_neg (show ¬ d.2.2 = 0 by rw [d1]; exact h3)) (Ev.now _)))), d1, fun h => absurd h h3⟩
  rw [if_pos h3]
  have o3 := upS_ok hb _ _ h3
  obtain rfl := d2 h3
  generalize upS b c.2.1 400 = d at *
  have e1 : wrap64 ((b.length : Int) - d.2.1) = (b.length : Int) - d.2.1 := wrap_ok (by omega) (by omega)
  by_cases h4 : (b.length : Int) - d.2.1 < d.1
  · rw [if_pos h4]
    refine ⟨_, Ev.bind E1 (Ev.bind (Ev.congr (fun k => by rw [h1]) E2) (Ev.bind (Ev.congr (fun k => by rw [h2]) E3) (Ev.congr (fun k => (if_pos h3).trans (if_pos (show d.1 > wrap64 ((b.length : Int) - d.2.1) by rw [e1]; omega))) (Ev.now _)))), rfl, fun h => absurd h (by simp)⟩
  · rw [if_neg h4]
    have e2 : wrap64 (d.2.1 + d.1) = d.2.1 + d.1 := wrap_ok (by omega) (by omega)
    have e3 : c.1 % 4294967296 = c.1 := by omega
    have e4 : ((b.take (d.2.1 + d.1).toNat).drop d.2.1.toNat).length < 140737488355328 := by rw [List.length_drop, List.length_take]; omega
    refine ⟨_, Ev.bind E1 (Ev.bind (Ev.congr (fun k => by rw [h1]) E2) (Ev.bind (Ev.congr (fun k => by rw [h2]) E3) (Ev.congr (fun k => ?_) (Ev.now (a.1, c.1, (b.take (d.2.1 + d.1).toNat).drop d.2.1.toNat, d.2.1 + d.1, 0))))), rfl, fun _ => rfl⟩
    rw [if_pos h3, if_neg (by rw [e1]; omega), if_pos (by omega), e2, if_pos (by omega), if_pos (by omega)]
    unfold slices_Clone_byte_byte.f
    rw [if_pos e4, Option.bind_some, e3]
end
theorem PItem_err (b : List Int) (t e : Int) (he : e ≠ 0) : ∀ k, parcel_taker_item.f k b t e = some (0, 0, [], t, e) := fun k => by
  unfold parcel_taker_item.f
  rw [PNum_err b t e _ he, Option.bind_some, PNum_err b t e _ he, Option.bind_some, PNum_err b t e _ he, Option.bind_some]
  simp only
  rw [if_neg he]
  rfl
def itsS (b : List Int) : Nat → Int → List It → List It × Int × Int
  | 0, t, acc => (acc, t, 0)
  | n + 1, t, acc => if (itS b t).2.2.2.2 = 0 then itsS b n (itS b t).2.2.2.1 (acc ++ [⟨(itS b t).1, (itS b t).2.1, (itS b t).2.2.1⟩]) else ([], 0, (itS b t).2.2.2.2)
theorem PIts_err (b : List Int) (t e : Int) (he : e ≠ 0) : ∀ (n : Nat) (acc : List It), acc.length + n < 3518437208883 → ∃ x : List It × Int × Int, Ev (fun k => parcel_Take.its k b n acc t e) x ∧ x.2.2 = e
  | 0, acc, _ => ⟨(acc, t, e), Ev.congr (fun k => rfl) (Ev.now _), rfl⟩
  | n + 1, acc, h => by
    obtain ⟨x, E, hx⟩ := PIts_err b t e he n (acc ++ [⟨0, 0, []⟩]) (by rw [List.length_append, List.length_singleton]; omega)
    refine ⟨x, Ev.congr (fun k => ?_) E, hx⟩
    simp only [parcel_Take.its]
    rw [PItem_err b t e he, Option.bind_some, if_pos (by omega)]
section
variable {b : List Int} (hb : Bytes b) (hlen : b.length ≤ 9223372036854775000)
include hb
theorem itsS_ok : ∀ (n : Nat) (t : Int) (acc : List It), 0 ≤ t → t ≤ b.length → small acc → (itsS b n t acc).2.2 = 0 → 0 ≤ (itsS b n t acc).2.1 ∧ (itsS b n t acc).2.1 ≤ b.length ∧ (itsS b n t acc).1.length = acc.length + n ∧ small (itsS b n t acc).1
  | 0, t, acc, h0, h1, h2, _ => ⟨h0, h1, rfl, h2⟩
  | n + 1, t, acc, h0, h1, h2, h => by
    simp only [itsS] at h ⊢
    by_cases hi : (itS b t).2.2.2.2 = 0
    · rw [if_pos hi] at h ⊢
      have o := itS_ok hb t hi
      obtain ⟨a1, a2, a3, a4⟩ := itsS_ok n _ _ (by omega) o.2.2.1 (fun x hx => by
        rcases List.mem_append.1 hx with hx | hx
        · exact h2 x hx
        · rw [List.mem_singleton] at hx; subst hx; exact o.2.2.2) h
      refine ⟨a1, a2, ?_, a4⟩
      rw [a3, List.length_append, List.length_singleton]
      omega
    · rw [if_neg hi] at h; exact absurd h hi
include hlen
theorem PIts_ev : ∀ (n : Nat) (t : Int) (acc : List It), acc.length + n < 3518437208883 → ∃ x, Ev (fun k => parcel_Take.its k b n acc t 0) x ∧ x.2.2 = (itsS b n t acc).2.2 ∧ ((itsS b n t acc).2.2 = 0 → x = itsS b n t acc)
  | 0, t, acc, _ => ⟨(acc, t, 0), Ev.congr (fun k => rfl) (Ev.now _), rfl, fun _ => rfl⟩
  | n + 1, t, acc, h => by
    obtain ⟨y, E, y1, y2⟩ := PItem_ev hb hlen t
    simp only [itsS]
    by_cases hi : (itS b t).2.2.2.2 = 0
    · rw [if_pos hi]
      obtain rfl := y2 hi
      obtain ⟨x, Ex, x1, x2⟩ := PIts_ev n (itS b t).2.2.2.1 (acc ++ [⟨(itS b t).1, (itS b t).2.1, (itS b t).2.2.1⟩]) (by rw [List.length_append, List.length_singleton]; omega)
      refine ⟨x, ?_, x1, x2⟩
      simp only [parcel_Take.its]
      refine Ev.bind E (Ev.congr (fun k => ?_) Ex)
      rw [if_pos (by omega), hi]
    · rw [if_neg hi]
      obtain ⟨x, Ex, x1⟩ := PIts_err b y.2.2.2.1 y.2.2.2.2 (by rw [y1]; exact hi) n (acc ++ [⟨y.1, y.2.1, y.2.2.1⟩]) (by rw [List.length_append, List.length_singleton]; omega)
      refine ⟨x, ?_, x1.trans y1, fun h => absurd h hi⟩
      simp only [parcel_Take.its]
      exact Ev.bind E (Ev.congr (fun k => if_pos (by omega)) Ex)
end
def numsS (b : List Int) : Nat → Int → List Int × Int × Int
  | 0, t => ([], t, 0)
  | n + 1, t => if (upS b t 1099511627776).2.2 = 0 then (if (numsS b n (upS b t 1099511627776).2.1).2.2 = 0 then ((upS b t 1099511627776).1 :: (numsS b n (upS b t 1099511627776).2.1).1, (numsS b n (upS b t 1099511627776).2.1).2.1, 0) else ([], 0, (numsS b n (upS b t 1099511627776).2.1).2.2)) else ([], 0, (upS b t 1099511627776).2.2)
abbrev F5 := Int × Int × Int × Int × Int
def asg : List Nat → List Int → F5 → F5
  | j :: js, v :: vs, p => asg js vs (if j = 1 then v else p.1, if j = 2 then v else p.2.1, if j = 3 then v else p.2.2.1, if j = 4 then v else p.2.2.2.1, if j = 5 then v else p.2.2.2.2)
  | _, _, p => p
theorem PFl_err (b : List Int) (t e : Int) (he : e ≠ 0) : ∀ (js : List Nat) (p1 p2 p3 p4 p5 : Int), ∃ x : Int × Int × Int × Int × Int × Int × Int, (∀ k, parcel_Take.fl k b js p1 p2 p3 p4 p5 t e = some x) ∧ x.2.2.2.2.2.2 = e
  | [], p1, p2, p3, p4, p5 => ⟨(p1, p2, p3, p4, p5, t, e), fun k => rfl, rfl⟩
  | j :: js, p1, p2, p3, p4, p5 => by
    obtain ⟨x, E, hx⟩ := PFl_err b t e he js (if j = 1 then 0 else p1) (if j = 2 then 0 else p2) (if j = 3 then 0 else p3) (if j = 4 then 0 else p4) (if j = 5 then 0 else p5)
    refine ⟨x, fun k => ?_, hx⟩
    simp only [parcel_Take.fl]
    rw [PNum_err b t e _ he, Option.bind_some]
    exact E k
section
variable {b : List Int} (hb : Bytes b) (hlen : b.length ≤ 9223372036854775000)
include hb
theorem numsS_ok : ∀ (n : Nat) (t : Int), 0 ≤ t → t ≤ b.length → (numsS b n t).2.2 = 0 → 0 ≤ (numsS b n t).2.1 ∧ (numsS b n t).2.1 ≤ b.length ∧ (numsS b n t).1.length = n ∧ (∀ v ∈ (numsS b n t).1, 0 ≤ v ∧ v ≤ 1099511627776)
  | 0, t, h0, h1, _ => ⟨h0, h1, rfl, fun v hv => by cases hv⟩
  | n + 1, t, h0, h1, h => by
    simp only [numsS] at h ⊢
    by_cases hu : (upS b t 1099511627776).2.2 = 0
    · have o := upS_ok hb _ _ hu
      rw [if_pos hu] at h ⊢
      by_cases hn : (numsS b n (upS b t 1099511627776).2.1).2.2 = 0
      · rw [if_pos hn]
        obtain ⟨a1, a2, a3, a4⟩ := numsS_ok n _ (by omega) o.2.2.2.2 hn
        refine ⟨a1, a2, by show (_ :: _).length = n + 1; rw [List.length_cons, a3], fun v hv => ?_⟩
        rcases List.mem_cons.1 hv with rfl | hv
        · exact ⟨o.2.1, o.2.2.1⟩
        · exact a4 v hv
      · rw [if_neg hn] at h; exact absurd h hn
    · rw [if_neg hu] at h; exact absurd h hu
include hlen
theorem PFl_ev : ∀ (js : List Nat) (t p1 p2 p3 p4 p5 : Int), ∃ x : Int × Int × Int × Int × Int × Int × Int, Ev (fun k => parcel_Take.fl k b js p1 p2 p3 p4 p5 t 0) x ∧ x.2.2.2.2.2.2 = (numsS b js.length t).2.2 ∧
      ((numsS b js.length t).2.2 = 0 → x.2.2.2.2.2.1 = (numsS b js.length t).2.1 ∧ (x.1, x.2.1, x.2.2.1, x.2.2.2.1, x.2.2.2.2.1) = asg js (numsS b js.length t).1 (p1, p2, p3, p4, p5))
  | [], t, p1, p2, p3, p4, p5 => ⟨(p1, p2, p3, p4, p5, t, 0), Ev.congr (fun k => rfl) (Ev.now _), rfl, fun _ => ⟨rfl, rfl⟩⟩
  | j :: js, t, p1, p2, p3, p4, p5 => by
    obtain ⟨a, E, a1, a2, _⟩ := PNum_ev hb hlen t 1099511627776 (by decide)
    simp only [List.length_cons, numsS]
    by_cases hu : (upS b t 1099511627776).2.2 = 0
    · rw [if_pos hu]
      obtain rfl := a2 hu
      generalize upS b t 1099511627776 = a at *
      obtain ⟨x, Ex, x1, x2⟩ := PFl_ev js a.2.1 (if j = 1 then a.1 else p1) (if j = 2 then a.1 else p2) (if j = 3 then a.1 else p3) (if j = 4 then a.1 else p4) (if j = 5 then a.1 else p5)
      refine ⟨x, ?_, ?_, ?_⟩
      · simp only [parcel_Take.fl]
        exact Ev.bind E (Ev.congr (fun k => by rw [hu]) Ex)
      · by_cases hn : (numsS b js.length a.2.1).2.2 = 0
        · rw [if_pos hn, x1, hn]
        · rw [if_neg hn, x1]
      · by_cases hn : (numsS b js.length a.2.1).2.2 = 0
        · intro _
          obtain ⟨y1, y2⟩ := x2 hn
          rw [if_pos hn]
          exact ⟨y1, y2⟩
        · intro h; rw [if_neg hn] at h; exact absurd h hn
    · rw [if_neg hu]
      obtain ⟨x, Ex, x1⟩ := PFl_err b a.2.1 a.2.2 (by rw [a1]; exact hu) js (if j = 1 then a.1 else p1) (if j = 2 then a.1 else p2) (if j = 3 then a.1 else p3) (if j = 4 then a.1 else p4) (if j = 5 then a.1 else p5)
      refine ⟨x, ?_, x1.trans a1, fun h => absurd h hu⟩
      simp only [parcel_Take.fl]
      exact Ev.bind E (Ev.congr Ex (Ev.now _))
end
end Par
end Go.Proofs.YtoandmnefgimoaaDoor.PL

end

section
set_option linter.unusedSimpArgs false
set_option linter.unusedVariables false
set_option linter.unusedSectionVars false
namespace Go.Proofs.YtoandmnefgimoaaDoor.PL
open Go.RowKit Go.Proofs.YtoandmnefgimoaaDoorW.PrintWords Go.Proofs.YtoandmnefgimoaaDoorW.PrintMore Go.Proofs.YtoandmnefgimoaaDoor.Open
namespace Par
open Oct (uint uintN tk takeU Bytes)
def midS (b : List Int) (kd t : Int) : List Sp × List It × Int × Int :=
  if kd = 1 then
    (if (takeR b t).2.2 = 0 then
      (if (upS b (takeR b t).2.1 8).2.2 = 0 then
        (if (itsS b (upS b (takeR b t).2.1 8).1.toNat (upS b (takeR b t).2.1 8).2.1 []).2.2 = 0 then ((takeR b t).1, (itsS b (upS b (takeR b t).2.1 8).1.toNat (upS b (takeR b t).2.1 8).2.1 []).1, (itsS b (upS b (takeR b t).2.1 8).1.toNat (upS b (takeR b t).2.1 8).2.1 []).2.1, 0)
         else ([], [], 0, (itsS b (upS b (takeR b t).2.1 8).1.toNat (upS b (takeR b t).2.1 8).2.1 []).2.2))
      else ([], [], 0, (upS b (takeR b t).2.1 8).2.2))
    else ([], [], 0, (takeR b t).2.2))
  else ([], [], t, 0)
def finS (b : List Int) (kd : Int) (p : F5) (t : Int) (sp : List Sp) (it : List It) : PRes :=
  if t = (b.length : Int) then (if chk kd p.1 p.2.1 p.2.2.1 p.2.2.2.1 p.2.2.2.2 sp it = 0 then (kd, p.1, p.2.1, p.2.2.1, p.2.2.2.1, p.2.2.2.2, sp, it, 0) else zerosE (chk kd p.1 p.2.1 p.2.2.1 p.2.2.2.1 p.2.2.2.2 sp it)) else zerosE 4
def restS (b : List Int) (kd : Int) (p : F5) (t : Int) : PRes := if (midS b kd t).2.2.2 = 0 then finS b kd p (midS b kd t).2.2.1 (midS b kd t).1 (midS b kd t).2.1 else zerosE (midS b kd t).2.2.2
def takeP (b : List Int) : PRes :=
  if (b.length : Int) = 0 then zerosE 3 else if wrap64 (rd b 0) < 1 ∨ wrap64 (rd b 0) > 6 then zerosE 12
  else if (numsS b (flds (wrap64 (rd b 0))).length 1).2.2 = 0 then restS b (wrap64 (rd b 0)) (asg (flds (wrap64 (rd b 0))) (numsS b (flds (wrap64 (rd b 0))).length 1).1 (0, 0, 0, 0, 0)) (numsS b (flds (wrap64 (rd b 0))).length 1).2.1
  else zerosE (numsS b (flds (wrap64 (rd b 0))).length 1).2.2
section
variable {b : List Int} (hb : Bytes b) (hlen : b.length ≤ 9223372036854775000)
include hb
theorem midS_ok (kd t : Int) (h0 : 0 ≤ t) (h1 : t ≤ b.length) (h : (midS b kd t).2.2.2 = 0) : 0 ≤ (midS b kd t).2.2.1 ∧ (midS b kd t).2.2.1 ≤ b.length := by
  unfold midS at h ⊢
  by_cases c : kd = 1
  case neg => rw [if_neg c]; exact ⟨h0, h1⟩
  rw [if_pos c] at h ⊢
  by_cases c1 : (takeR b t).2.2 = 0
  case neg => rw [if_neg c1] at h; exact absurd h c1
  rw [if_pos c1] at h ⊢
  by_cases c2 : (upS b (takeR b t).2.1 8).2.2 = 0
  case neg => rw [if_neg c2] at h; exact absurd h c2
  have o := upS_ok hb _ _ c2
  rw [if_pos c2] at h ⊢
  by_cases c3 : (itsS b (upS b (takeR b t).2.1 8).1.toNat (upS b (takeR b t).2.1 8).2.1 []).2.2 = 0
  case neg => rw [if_neg c3] at h; exact absurd h c3
  rw [if_pos c3]
  have := itsS_ok hb _ _ [] (by omega) o.2.2.2.2 (fun x hx => by cases hx) c3
  exact ⟨this.1, this.2.1⟩
include hlen
theorem PMid_err (kd t e : Int) (he : e ≠ 0) : ∃ x, Ev (fun k => parcel_Take.mid k b kd t e) x ∧ x.2.2.2 = e := by
  unfold parcel_Take.mid
  by_cases c : kd = 1
  · obtain ⟨x, E, hx⟩ := PIts_err b t e he (0 : Int).toNat [] (by decide)
    refine ⟨_, Ev.congr (fun k => if_pos c) (Ev.bind (Ev.congr (fun k => ?_) (Ev.now ([], t, e))) (Ev.bind (Ev.congr (PNum_err b t e 8 he) (Ev.now _)) (Ev.bind E (Ev.now _)))), hx⟩
    unfold parcel_Take.sps
    rw [if_neg he]
  · exact ⟨_, Ev.congr (fun k => if_neg c) (Ev.now _), rfl⟩
theorem PMid_ev (kd t : Int) : ∃ x, Ev (fun k => parcel_Take.mid k b kd t 0) x ∧ x.2.2.2 = (midS b kd t).2.2.2 ∧ ((midS b kd t).2.2.2 = 0 → x = midS b kd t) := by
  unfold parcel_Take.mid midS
  by_cases c : kd = 1
  case neg => simp only [if_neg c]; exact ⟨_, Ev.now _, rfl, fun _ => rfl⟩
  simp only [if_pos c]
  have ES : Ev (fun k => parcel_Take.sps k b t 0) (takeR b t) := by
    unfold parcel_Take.sps
    exact Ev.congr (fun k => if_pos rfl) (Take_ev hb hlen t).1
  generalize takeR b t = s at ES ⊢
  by_cases c1 : s.2.2 = 0
  case neg =>
    rw [if_neg c1]
    obtain ⟨x, E, hx⟩ := PIts_err b s.2.1 s.2.2 c1 (0 : Int).toNat [] (by decide)
    exact ⟨_, Ev.bind ES (Ev.bind (Ev.congr (PNum_err b s.2.1 s.2.2 8 c1) (Ev.now _)) (Ev.bind E (Ev.now _))), hx, fun h => absurd h c1⟩
  rw [if_pos c1]
  obtain ⟨a, E1, a1, a2, a3⟩ := PNum_ev hb hlen s.2.1 8 (by decide)
  by_cases c2 : (upS b s.2.1 8).2.2 = 0
  case neg =>
    rw [if_neg c2]
    obtain ⟨x, E, hx⟩ := PIts_err b a.2.1 a.2.2 (by rw [a1]; exact c2) a.1.toNat [] (by rw [a3 c2]; decide)
    exact ⟨_, Ev.bind ES (Ev.bind (Ev.congr (fun k => by rw [c1]) E1) (Ev.bind E (Ev.now _))), hx.trans a1, fun h => absurd h c2⟩
  rw [if_pos c2]
  obtain rfl := a2 c2
  have o := upS_ok hb _ _ c2
  generalize upS b s.2.1 8 = a at *
  obtain ⟨x, E, x1, x2⟩ := PIts_ev hb hlen a.1.toNat a.2.1 [] (by rw [List.length_nil]; omega)
  refine ⟨_, Ev.bind ES (Ev.bind (Ev.congr (fun k => by rw [c1]) E1) (Ev.bind (Ev.congr (fun k => by rw [c2]) E) (Ev.now _))), ?_, ?_⟩
  · by_cases c3 : (itsS b a.1.toNat a.2.1 []).2.2 = 0
    · rw [if_pos c3]; exact x1.trans c3
    · rw [if_neg c3]; exact x1
  · by_cases c3 : (itsS b a.1.toNat a.2.1 []).2.2 = 0
    · rw [if_pos c3]; intro _; rw [x2 c3, c3]
    · rw [if_neg c3]; intro h; exact absurd h c3
theorem PFin_err (kd p1 p2 p3 p4 p5 t e : Int) (sp : List Sp) (it : List It) (he : e ≠ 0) : ∀ k, parcel_Take.fin k b kd p1 p2 p3 p4 p5 t e sp it = some (zerosE e) := fun k => by
  unfold parcel_Take.fin zerosE
  exact if_neg he
theorem PFin_ev (kd : Int) (p : F5) (t : Int) (sp : List Sp) (it : List It) (ht : t ≤ b.length) : Ev (fun k => parcel_Take.fin k b kd p.1 p.2.1 p.2.2.1 p.2.2.2.1 p.2.2.2.2 t 0 sp it) (finS b kd p t sp it) := by
  unfold parcel_Take.fin finS
  refine Ev.congr (fun k => if_pos rfl) ?_
  by_cases c : t < (b.length : Int)
  · rw [if_neg (by omega)]
    exact Ev.congr (fun k => if_pos c) (Ev.now _)
  · rw [if_pos (by omega)]
    refine Ev.congr (fun k => if_neg c) (Ev.bind (Check_ev _ _ _ _ _ _ _ _) ?_)
    by_cases c2 : chk kd p.1 p.2.1 p.2.2.1 p.2.2.2.1 p.2.2.2.2 sp it = 0
    · simp only [if_pos c2]; exact Ev.now _
    · simp only [if_neg c2]; exact Ev.now _
theorem PTake_ev : Ev (fun k => parcel_Take.f k b) (takeP b) := by
  unfold parcel_Take.f takeP
  by_cases c0 : (b.length : Int) = 0
  · simp only [if_pos c0]; exact Ev.now _
  simp only [if_neg c0]
  generalize wrap64 (rd b 0) = kd
  by_cases c1 : kd < 1
  · rw [if_pos (Or.inl c1)]; exact Ev.congr (fun k => if_pos c1) (Ev.now _)
  by_cases c2 : kd > 6
  · rw [if_pos (Or.inr c2)]; exact Ev.congr (fun k => (if_neg c1).trans (if_pos c2)) (Ev.now _)
  rw [if_neg (by omega)]
  refine Ev.congr (fun k => (if_neg c1).trans (if_neg c2)) ?_
  obtain ⟨x, E, x1, x2⟩ := PFl_ev hb hlen (flds kd) 1 0 0 0 0 0
  refine Ev.bind E ?_
  by_cases c3 : (numsS b (flds kd).length 1).2.2 = 0
  case neg =>
    rw [if_neg c3]
    obtain ⟨y, E2, y1⟩ := PMid_err hb hlen kd x.2.2.2.2.2.1 x.2.2.2.2.2.2 (by rw [x1]; exact c3)
    refine Ev.bind E2 (Ev.congr (PFin_err hb hlen kd _ _ _ _ _ y.2.2.1 y.2.2.2 y.1 y.2.1 (by rw [y1, x1]; exact c3)) ?_)
    rw [y1, x1]; exact Ev.now _
  rw [if_pos c3]
  obtain ⟨z1, z2⟩ := x2 c3
  have o := numsS_ok hb (flds kd).length 1 (by omega) (by omega) c3
  rw [c3] at x1
  obtain ⟨v1, v2, v3, v4, v5, va, ve⟩ := x
  dsimp only at x1 z1 z2 ⊢
  subst x1
  subst z1
  rw [← z2]
  unfold restS
  obtain ⟨y, E2, y1, y2⟩ := PMid_ev hb hlen kd (numsS b (flds kd).length 1).2.1
  refine Ev.bind E2 ?_
  by_cases c4 : (midS b kd (numsS b (flds kd).length 1).2.1).2.2.2 = 0
  · rw [if_pos c4]
    obtain rfl := y2 c4
    have om := midS_ok hb kd _ o.1 o.2.1 c4
    generalize midS b kd (numsS b (flds kd).length 1).2.1 = y at c4 om ⊢
    rw [c4]
    exact PFin_ev hb hlen kd (v1, v2, v3, v4, v5) y.2.2.1 y.1 y.2.1 om.2
  · rw [if_neg c4]
    refine Ev.congr (PFin_err hb hlen kd _ _ _ _ _ y.2.2.1 y.2.2.2 y.1 y.2.1 (by rw [y1]; exact c4)) ?_
    rw [y1]; exact Ev.now _
end
end Par
end Go.Proofs.YtoandmnefgimoaaDoor.PL

end

section
set_option linter.unusedSimpArgs false
set_option linter.unusedVariables false
set_option linter.unusedSectionVars false
namespace Go.Proofs.YtoandmnefgimoaaDoor.PL
open Go.RowKit Go.Proofs.YtoandmnefgimoaaDoorW.PrintWords Go.Proofs.YtoandmnefgimoaaDoorW.PrintMore Go.Proofs.YtoandmnefgimoaaDoor.Open
namespace Par
open Oct (uint uintN tk takeU Bytes)
theorem uintN_len : ∀ (n j : Nat) (x : Int), x < 128 ^ (j + 1) → (uintN n x).length ≤ j + 1
  | 0, j, x, _ => by simp [uintN]
  | n + 1, 0, x, h => by
    simp only [uintN]
    rw [if_neg (by simp at h; omega)]
    simp
  | n + 1, j + 1, x, h => by
    simp only [uintN]
    split
    · have hp : (128 : Int) ^ (j + 1 + 1) = 128 ^ (j + 1) * 128 := Int.pow_succ ..
      have := uintN_len n j (x / 128) (by rw [hp] at h; omega)
      simp only [List.length_cons]
      omega
    · simp
theorem numB_eq {n : Int} (h0 : 0 ≤ n) (h1 : n < 18446744073709551616) : numB n = uint n := by
  unfold numB
  rw [Int.emod_eq_of_lt h0 h1]
theorem numB_len {n : Int} (j : Nat) (h0 : 0 ≤ n) (h1 : n < 128 ^ (j + 1)) (h2 : n < 18446744073709551616) : (numB n).length ≤ j + 1 := by
  rw [numB_eq h0 h2]
  exact uintN_len 9 j n h1
theorem uintNb : ∀ (n : Nat) (x : Int), 0 ≤ x → Bytes (uintN n x) := by
  intro n
  induction n with
  | zero => intro x h z hz; simp only [uintN, List.mem_singleton] at hz; omega
  | succ n ih =>
    intro x h z hz
    simp only [uintN] at hz
    split at hz
    · rcases List.mem_cons.1 hz with rfl | hz
      · omega
      · exact ih (x / 128) (by omega) z hz
    · rw [List.mem_singleton] at hz; omega
theorem bytes_app {a b : List Int} (ha : Bytes a) (hb : Bytes b) : Bytes (a ++ b) := fun z hz => by
  rcases List.mem_append.1 hz with h | h
  · exact ha z h
  · exact hb z h
theorem numBb (n : Int) : Bytes (numB n) := uintNb 9 _ (by omega)
theorem putLb (l : List Sp) : ∀ pe pi, rightB pe pi l = true → Bytes (putL pe l) := by
  induction l with
  | nil => intro pe pi _ z hz; simp [putL] at hz
  | cons s l ih =>
    intro pe pi h z hz
    obtain ⟨⟨g1, g2, g3⟩, hr⟩ := rightB_cons.1 h
    simp only [putL, List.mem_append, List.mem_singleton] at hz
    rcases hz with ((hz | hz) | hz) | hz
    · exact uintNb 9 _ (by omega) z hz
    · exact uintNb 9 _ (by omega) z hz
    · omega
    · exact ih _ _ hr z hz
theorem putL_len (l : List Sp) : ∀ pe pi, rightB pe pi l = true → 0 ≤ pe → (putL pe l).length ≤ 13 * l.length := by
  induction l with
  | nil => intro pe pi _ _; simp [putL]
  | cons s l ih =>
    intro pe pi h hp
    obtain ⟨⟨g1, g2, g3⟩, hr⟩ := rightB_cons.1 h
    have p6 : (128 : Int) ^ (5 + 1) = 4398046511104 := by decide
    have h1 : (uint (s.f0 - pe - 1)).length ≤ 6 := uintN_len 9 5 _ (by omega)
    have h2 : (uint (s.f1 - s.f0)).length ≤ 6 := uintN_len 9 5 _ (by omega)
    have h3 := ih s.f1 s.f2 hr (by omega)
    simp only [putL, List.length_append, List.length_cons, List.length_nil]
    omega
def okI (x : It) : Prop := 0 ≤ x.f0 ∧ x.f0 ≤ 1099511627776 ∧ 0 ≤ x.f1 ∧ x.f1 ≤ 4294967295 ∧ x.f2.length ≤ 400 ∧ Bytes x.f2
theorem itemBb {x : It} (h : okI x) : Bytes (itemB x) := bytes_app (bytes_app (bytes_app (numBb _) (numBb _)) (numBb _)) h.2.2.2.2.2
theorem itemB_len {x : It} (h : okI x) : (itemB x).length ≤ 413 := by
  obtain ⟨h1, h2, h3, h4, h5, _⟩ := h
  have p6 : (128 : Int) ^ (5 + 1) = 4398046511104 := by decide
  have p5 : (128 : Int) ^ (4 + 1) = 34359738368 := by decide
  have p2 : (128 : Int) ^ (1 + 1) = 16384 := by decide
  have a1 := numB_len (n := x.f0) 5 h1 (by omega) (by omega)
  have a2 := numB_len (n := wrap64 x.f1) 4 (by rw [wrap_ok (by omega) (by omega)]; exact h3) (by rw [wrap_ok (by omega) (by omega)]; omega) (by rw [wrap_ok (by omega) (by omega)]; omega)
  have a3 := numB_len (n := (x.f2.length : Int)) 1 (by omega) (by omega) (by omega)
  simp only [itemB, List.length_append]
  omega
theorem itemsBb : ∀ {l : List It}, (∀ x ∈ l, okI x) → Bytes (itemsB l)
  | [], _ => fun z hz => by simp [itemsB] at hz
  | x :: l, h => bytes_app (itemBb (h x (List.mem_cons_self ..))) (itemsBb (fun y hy => h y (List.mem_cons_of_mem _ hy)))
theorem itemsB_len : ∀ {l : List It}, (∀ x ∈ l, okI x) → (itemsB l).length ≤ 413 * l.length
  | [], _ => by simp [itemsB]
  | x :: l, h => by
    have h1 := itemB_len (h x (List.mem_cons_self ..))
    have h2 := itemsB_len (fun y hy => h y (List.mem_cons_of_mem _ hy))
    simp only [itemsB, List.length_append, List.length_cons]
    omega
section
variable {b : List Int} (hb : Bytes b)
include hb
end
theorem itemsE_bounds {sp : List Sp} {to_ : Int} : ∀ {it : List It} {a : Int}, itemsE sp to_ a it = 0 → ∀ x ∈ it, a < x.f0 ∧ x.f0 ≤ to_ ∧ x.f2.length ≤ 400
  | y :: l, a, h, x, hx => by
    simp only [itemsE] at h
    by_cases h1 : y.f0 ≤ a ∨ y.f0 > to_ ∨ atS sp y.f0 ≠ 0
    · rw [if_pos h1] at h; exact absurd h (by decide)
    rw [if_neg h1] at h
    by_cases h2 : (y.f2.length : Int) > 400
    · rw [if_pos h2] at h; exact absurd h (by decide)
    rw [if_neg h2] at h
    rcases List.mem_cons.1 hx with rfl | hx
    · omega
    · have := itemsE_bounds h x hx
      omega
def okP (it : List It) : Prop := ∀ x ∈ it, 0 ≤ x.f1 ∧ x.f1 ≤ 4294967295 ∧ Bytes x.f2
section
variable {kd pub sub n fr to_ : Int} {sp : List Sp} {it : List It}
theorem okI_of (hc : chk kd pub sub n fr to_ sp it = 0) (hk : kd = 1) (hp : okP it) : ∀ x ∈ it, okI x := fun x hx => by
  obtain ⟨_, _, hn, h4⟩ := chk_zero hc
  have h5 := (h4 hk).2.2.2.2
  unfold numsOK at hn
  rw [if_pos (by omega)] at hn
  have h6 := itemsE_bounds h5 x hx
  have h7 := hp x hx
  exact ⟨by omega, by omega, h7.1, h7.2.1, h6.2.2, h7.2.2⟩
theorem putB_eq (h1 : 1 ≤ kd) (h2 : kd ≤ 6) : putB kd pub sub n fr to_ sp it = [kd] ++ (((flds kd).map (fld6 kd pub sub n fr to_)).flatMap numB ++ tailB kd sp it) := by
  unfold putB
  rw [← List.append_assoc]
  congr 1
  rcases (show kd = 1 ∨ kd = 2 ∨ kd = 3 ∨ kd = 4 ∨ kd = 5 ∨ kd = 6 by omega) with rfl | rfl | rfl | rfl | rfl | rfl <;> simp [flds, fld6]
theorem tailBb (hc : chk kd pub sub n fr to_ sp it = 0) (hp : okP it) : Bytes (tailB kd sp it) := by
  unfold tailB
  by_cases hk : kd = 1
  · rw [if_pos hk]
    obtain ⟨_, _, _, h4⟩ := chk_zero hc
    obtain ⟨h5, h6, h7, _, _⟩ := h4 hk
    refine bytes_app (bytes_app ?_ (numBb _)) (itemsBb (okI_of hc hk hp))
    unfold putR
    rw [if_pos h7, if_neg (by omega)]
    exact bytes_app (uintNb 9 _ (by omega)) (putLb sp 0 0 h7)
  · rw [if_neg hk]; intro z hz; cases hz
theorem putBb (hc : chk kd pub sub n fr to_ sp it = 0) (hp : okP it) : Bytes (putB kd pub sub n fr to_ sp it) := by
  obtain ⟨h1, h2, _, _⟩ := chk_zero hc
  rw [putB_eq h1 h2]
  refine bytes_app (fun z hz => by rw [List.mem_singleton] at hz; omega) (bytes_app (fun z hz => ?_) (tailBb hc hp))
  obtain ⟨m, _, hm⟩ := List.mem_flatMap.1 hz
  exact numBb m z hm
theorem putB_len (hc : chk kd pub sub n fr to_ sp it = 0) (hp : okP it) : (putB kd pub sub n fr to_ sp it).length ≤ 4041 := by
  obtain ⟨h1, h2, hn, h4⟩ := chk_zero hc
  rw [putB_eq h1 h2, List.length_append, List.length_append, List.length_singleton]
  have hF : (((flds kd).map (fld6 kd pub sub n fr to_)).flatMap numB).length ≤ 10 * 4 := by
    have hg : ∀ l : List Int, (l.flatMap numB).length ≤ 10 * l.length := fun l => by
      induction l with
      | nil => simp
      | cons x l ih => have := numB_length x; simp only [List.flatMap_cons, List.length_append, List.length_cons]; omega
    have := hg ((flds kd).map (fld6 kd pub sub n fr to_))
    rw [List.length_map] at this
    have := flds_len kd
    omega
  have hT : (tailB kd sp it).length ≤ 4000 := by
    unfold tailB
    by_cases hk : kd = 1
    · rw [if_pos hk]
      obtain ⟨h5, h6, h7, _, _⟩ := h4 hk
      have a1 := itemsB_len (okI_of hc hk hp)
      have a2 := numB_length (it.length : Int)
      have a3 := putL_len sp 0 0 h7 (by omega)
      have a4 := (uint_length (sp.length : Int)).1
      unfold putR
      rw [if_pos h7, if_neg (by omega)]
      simp only [List.length_append]
      omega
    · rw [if_neg hk]; simp
  omega
end
end Par
end Go.Proofs.YtoandmnefgimoaaDoor.PL

end
