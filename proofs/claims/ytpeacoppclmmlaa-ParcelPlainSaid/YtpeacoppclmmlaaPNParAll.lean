import Derived.Test.YtpeacoppclmmlaaPNPPx0
import Derived.Test.YtpeacoppclmmlaaPNPPx2
import Derived.Test.YtpeacoppclmmlaaPNPPx9
import Derived.Test.YtpeacoppclmmlaaPNPPx20
import Derived.Test.YtpeacoppclmmlaaPNPPx24
import Derived.Test.YtpeacoppclmmlaaPNPPx7
import Derived.Test.YtpeacoppclmmlaaPNPPx3
import Derived.Test.YtpeacoppclmmlaaPNPPx4
import Derived.Test.YtpeacoppclmmlaaPNPPx8
import Derived.Test.YtpeacoppclmmlaaPNPPx13
import Derived.Test.YtpeacoppclmmlaaPNPPOpens
import Derived.Test.YtpeacoppclmmlaaPNPPx18
import Derived.Test.YtpeacoppclmmlaaPNPPx10
import Derived.Test.YtpeacoppclmmlaaPNPPx6
import Derived.Test.YtpeacoppclmmlaaPNPPx11
import Derived.Test.YtpeacoppclmmlaaPNPPx16
import Derived.Test.YtpeacoppclmmlaaPNPPx25
import Derived.Test.YtpeacoppclmmlaaPNPPx26
section
namespace Go.Proofs.Ytpeacoppclmmlaa.PP
open Go.RowKit Go.Proofs.YtpeacoppclmmlaaW.PrintWords

abbrev Sp := S43
def okS (pe pi : Int) (s : Sp) : Prop := (1 ≤ s.f2 ∧ s.f2 ≤ 3 ∧ 1 ≤ s.f0 ∧ s.f0 ≤ s.f1 ∧ s.f1 ≤ 1099511627776) ∧ pe < s.f0 ∧ ¬ (s.f0 = pe + 1 ∧ s.f2 = pi)
instance (pe pi : Int) (s : Sp) : Decidable (okS pe pi s) := by unfold okS; infer_instance
theorem okS_iff {pe pi : Int} {s : Sp} : okS pe pi s ↔ ((1 ≤ s.f2 ∧ s.f2 ≤ 3 ∧ 1 ≤ s.f0 ∧ s.f0 ≤ s.f1 ∧ s.f1 ≤ 1099511627776) ∧ pe < s.f0 ∧ ¬ (s.f0 = pe + 1 ∧ s.f2 = pi)) := Iff.rfl
def rightB : Int → Int → List Sp → Bool
  | _, _, [] => true
  | pe, pi, s :: l => decide (okS pe pi s) && rightB s.f1 s.f2 l
def atS : List Sp → Int → Int
  | [], _ => 0
  | s :: l, t => if s.f0 ≤ t ∧ t ≤ s.f1 then s.f2 else atS l t
theorem atS_cons (s : Sp) (l : List Sp) (t : Int) : atS (s :: l) t = if s.f0 ≤ t ∧ t ≤ s.f1 then s.f2 else atS l t := rfl

/-! ### a map's end -/
/-! ### reading by places -/
theorem rd_at (l : List Sp) (i : Nat) (h : i < l.length) : rd_T43 l (i : Int) = l[i] := by
  unfold rd_T43
  rw [Int.toNat_natCast, List.getD_eq_getElem?_getD, List.getElem?_eq_getElem h]
  rfl
theorem drop_rd (l : List Sp) (i : Nat) (h : i < l.length) : l.drop i = rd_T43 l (i : Int) :: l.drop (i + 1) := by
  rw [rd_at l i h]
  exact List.drop_eq_getElem_cons h
theorem wrap_ok {x : Int} (h : -9223372036854775808 ≤ x) (h' : x ≤ 9223372036854775807) : wrap64 x = x := by
  unfold wrap64; omega
end Go.Proofs.Ytpeacoppclmmlaa.PP

end

section
set_option linter.unusedSimpArgs false
set_option linter.unusedVariables false
namespace Go.Proofs.Ytpeacoppclmmlaa.PP
open Go.RowKit Go.Proofs.YtpeacoppclmmlaaW.PrintWords Go.Proofs.YtpeacoppclmmlaaW.PrintMore

namespace Oct
theorem Ev.succ {α : Type} {g : Nat → Option α} {r : α} (h : Ev (fun k => g (k + 1)) r) : Ev g r := Ev.step (f := fun k => g (k + 1)) (fun _ => rfl) h
theorem Ev.done {α : Type} {g : Nat → Option α} {r : α} (h : ∀ k, g (k + 1) = some r) : Ev g r := Ev.step (f := fun _ => some r) h (Ev.now r)
theorem wrap_ok {x : Int} (h : -9223372036854775808 ≤ x) (h' : x ≤ 9223372036854775807) : wrap64 x = x := by
  unfold wrap64; omega
/-! ### bits -/
/-! ### writing -/
/-- The bytes of a number: seven bits a byte, the lesser ones first, 128 more but for the last. -/
def uintN : Nat → Int → List Int
  | 0, x => [x % 256]
  | n + 1, x => if x ≥ 128 then (x % 128 + 128) :: uintN n (x / 128) else [x % 256]
def uint (x : Int) : List Int := uintN 9 x
end Oct
end Go.Proofs.Ytpeacoppclmmlaa.PP

end

section
set_option linter.unusedSimpArgs false
set_option linter.unusedVariables false
namespace Go.Proofs.Ytpeacoppclmmlaa.PP
open Go.RowKit Go.Proofs.YtpeacoppclmmlaaW.PrintWords Go.Proofs.YtpeacoppclmmlaaW.PrintMore

namespace Oct
/-! ### reading -/
/-- What is read from the bytes that are left: n so far, i bytes of it, at the place p. -/
def tk : List Int → Int → Nat → Int → Int × Int × Int
  | [], _, _, _ => (0, 0, 3)
  | x :: r, n, i, p => if i = 9 ∧ x > 1 then (0, 0, 6) else if x ≥ 128 then tk r (n + x % 128 * 128 ^ i) (i + 1) (p + 1) else if x = 0 ∧ i > 0 then (0, 0, 4) else (n + x % 128 * 128 ^ i, p + 1, 0)
def Bytes (b : List Int) : Prop := ∀ x ∈ b, 0 ≤ x ∧ x < 256
/-- What TakeUint comes to. -/
def takeU (b : List Int) (t : Int) : Int × Int × Int := if t < 0 ∨ t > b.length then (0, 0, 2) else tk (b.drop t.toNat) 0 0 t
end Oct
end Go.Proofs.Ytpeacoppclmmlaa.PP

end

section
set_option linter.unusedSimpArgs false
set_option linter.unusedVariables false
namespace Go.Proofs.Ytpeacoppclmmlaa.PP
open Go.RowKit Go.Proofs.YtpeacoppclmmlaaW.PrintWords Go.Proofs.YtpeacoppclmmlaaW.PrintMore

theorem Ev.done {α : Type} {g : Nat → Option α} {r : α} (h : ∀ k, g (k + 1) = some r) : Ev g r := Ev.step (f := fun _ => some r) h (Ev.now r)
theorem cast_succ_wrap {i n : Nat} (h : i < n) (hn : n ≤ 9223372036854775807) : wrap64 ((i : Int) + 1) = ((i + 1 : Nat) : Int) := by
  rw [wrap_ok (by omega) (by omega)]; omega

/-! ### Right -/
theorem Right_ev_l (l : List Sp) (hl : l.length ≤ 9223372036854775807) : ∀ (m i : Nat) (a b c : Int), i + m = l.length → 0 ≤ b → b ≤ 1099511627776 →
    Ev (fun k => span_Right.l0 k l (l.length : Int) (i : Int) a b c) (rightB b c (l.drop i)) := by
  intro m
  induction m with
  | zero =>
    intro i a b c hi hb hb'
    rw [List.drop_of_length_le (by omega)]
    refine Ev.done (fun k => ?_)
    simp only [span_Right.l0]
    rw [if_neg (by omega)]
    rfl
  | succ m ih =>
    intro i a b c hi hb hb'
    have hlt : i < l.length := by omega
    rw [drop_rd l i hlt]
    generalize hs : rd_T43 l (i : Int) = s
    have hstep : ∀ k, span_Right.l0 (k + 1) l (l.length : Int) (i : Int) a b c = if okS b c s then span_Right.l0 k l (l.length : Int) ((i + 1 : Nat) : Int) s.f0 s.f1 s.f2 else some false := by
      intro k
      simp only [span_Right.l0]
      rw [if_pos (by omega), if_pos (by omega), if_pos (by omega), hs, cast_succ_wrap hlt hl, wrap_ok (x := b + 1) (by omega) (by omega)]
      by_cases h1 : s.f2 < 1
      · rw [if_pos h1, if_neg (fun hh => by have hh := okS_iff.1 hh; omega)]
      rw [if_neg h1]
      by_cases h2 : s.f2 > 3
      · rw [if_pos h2, if_neg (fun hh => by have hh := okS_iff.1 hh; omega)]
      rw [if_neg h2]
      by_cases h3 : s.f0 < 1
      · rw [if_pos h3, if_neg (fun hh => by have hh := okS_iff.1 hh; omega)]
      rw [if_neg h3]
      by_cases h4 : s.f0 > s.f1
      · rw [if_pos h4, if_neg (fun hh => by have hh := okS_iff.1 hh; omega)]
      rw [if_neg h4]
      by_cases h5 : s.f1 > 1099511627776
      · rw [if_pos h5, if_neg (fun hh => by have hh := okS_iff.1 hh; omega)]
      rw [if_neg h5]
      by_cases h6 : s.f0 ≤ b
      · rw [if_pos h6, if_neg (fun hh => by have hh := okS_iff.1 hh; omega)]
      rw [if_neg h6]
      by_cases h7 : s.f0 = b + 1
      · rw [if_pos h7]
        by_cases h8 : s.f2 = c
        · rw [if_pos h8, if_neg (fun hh => by have hh := okS_iff.1 hh; omega)]
        · rw [if_neg h8, if_pos (okS_iff.2 (by omega))]
      · rw [if_neg h7, if_pos (okS_iff.2 (by omega))]
    by_cases hok : okS b c s
    · have e : rightB b c (s :: l.drop (i + 1)) = rightB s.f1 s.f2 (l.drop (i + 1)) := by simp [rightB, hok]
      rw [e]
      refine Ev.step (f := fun k => span_Right.l0 k l (l.length : Int) ((i + 1 : Nat) : Int) s.f0 s.f1 s.f2) (fun k => ?_) (ih (i + 1) _ _ _ (by omega) (by have := hok.1; omega) (by have := hok.1; omega))
      rw [hstep, if_pos hok]
    · have e : rightB b c (s :: l.drop (i + 1)) = false := by simp [rightB, hok]
      rw [e]
      exact Ev.done (fun k => by rw [hstep, if_neg hok])
theorem Right_ev (l : List Sp) (hl : l.length ≤ 9223372036854775807) : Ev (fun k => span_Right.f k l) (rightB 0 0 l) := by
  have := Right_ev_l l hl l.length 0 0 0 0 (by omega) (by omega) (by omega)
  exact this

theorem Ev.step2 {α : Type} {g f : Nat → Option α} {r : α} (h : ∀ k, g (k + 2) = f k) (k : Ev f r) : Ev g r := Ev.step (f := fun k => g (k + 1)) (fun _ => rfl) (Ev.step (f := f) h k)
theorem Ev.done2 {α : Type} {g : Nat → Option α} {r : α} (h : ∀ k, g (k + 2) = some r) : Ev g r := Ev.step2 (f := fun _ => some r) h (Ev.now r)
/-! ### Right -/
/-! ### At -/
theorem SAt_ev_l (l : List Sp) (t : Int) (hl : l.length ≤ 9223372036854775807) : ∀ (m i : Nat), i + m = l.length → Ev (fun k => span_At.l0 k t l (l.length : Int) (i : Int)) (atS (l.drop i) t) := by
  intro m
  induction m with
  | zero =>
    intro i hi
    rw [List.drop_of_length_le (by omega)]
    exact Ev.done (fun k => by simp only [span_At.l0]; rw [if_neg (by omega)]; rfl)
  | succ m ih =>
    intro i hi
    have hlt : i < l.length := by omega
    rw [drop_rd l i hlt]
    generalize hs : rd_T43 l (i : Int) = s
    by_cases h : s.f0 ≤ t ∧ t ≤ s.f1
    · refine Ev.done (fun k => ?_)
      simp only [span_At.l0]
      rw [if_pos (by omega), if_pos (by omega), if_pos (by omega), hs, if_pos (show t ≥ s.f0 from h.1), if_pos h.2, atS_cons, if_pos h]
    · refine Ev.step (f := fun k => span_At.l0 k t l (l.length : Int) ((i + 1 : Nat) : Int)) (fun k => ?_) (by rw [atS_cons, if_neg h]; exact ih (i + 1) (by omega))
      simp only [span_At.l0]
      rw [if_pos (by omega), if_pos (by omega), if_pos (by omega), hs, cast_succ_wrap hlt hl]
      by_cases h1 : s.f0 ≤ t
      · rw [if_pos (show t ≥ s.f0 from h1), if_neg (by omega)]
      · rw [if_neg (show ¬ t ≥ s.f0 by omega)]
theorem SAt_ev (l : List Sp) (t : Int) (hl : l.length ≤ 9223372036854775807) : Ev (fun k => span_At.f k l t) (atS l t) := SAt_ev_l l t hl l.length 0 (by omega)
end Go.Proofs.Ytpeacoppclmmlaa.PP

end

section
set_option linter.unusedSimpArgs false
set_option linter.unusedVariables false
namespace Go.Proofs.Ytpeacoppclmmlaa.PP
open Go.RowKit Go.Proofs.YtpeacoppclmmlaaW.PrintWords Go.Proofs.YtpeacoppclmmlaaW.PrintMore

theorem Ev.shift {α : Type} (n : Nat) {f : Nat → Option α} {r : α} (h : Ev f r) : Ev (fun k => f (k + n)) r := h.elim fun K hK => ⟨K, fun k hk => hK _ (by omega)⟩
theorem Ev.unshift {α : Type} (n : Nat) {g : Nat → Option α} {r : α} (h : Ev (fun k => g (k + n)) r) : Ev g r := h.elim fun K hK => ⟨K + n, fun k hk => by
  have e : k - n + n = k := by omega
  have := hK (k - n) (by omega)
  simpa only [e] using this⟩
abbrev It := S62
def numsOK (kd pub sub n fr to_ : Int) : Prop := 0 ≤ pub ∧ pub ≤ 2 ∧ (if kd = 1 ∨ kd = 2 then 1 ≤ fr ∧ fr ≤ to_ ∧ to_ ≤ 1099511627776 else 1 ≤ sub ∧ sub ≤ 32 ∧ 1 ≤ n ∧ n ≤ 1073741824 ∧ (kd = 3 ∨ kd = 5 → 0 ≤ fr ∧ fr ≤ 1099511627776))
instance (kd pub sub n fr to_ : Int) : Decidable (numsOK kd pub sub n fr to_) := by unfold numsOK; infer_instance
def spanOK (fr to_ : Int) (s : Sp) : Prop := s.f2 ≠ 1 ∧ fr ≤ s.f0 ∧ s.f1 ≤ to_
instance (fr to_ : Int) (s : Sp) : Decidable (spanOK fr to_ s) := by unfold spanOK; infer_instance
def itemsE (sp : List Sp) (to_ : Int) : Int → List It → Int
  | _, [] => 0
  | a, x :: xs => if x.f0 ≤ a ∨ x.f0 > to_ ∨ atS sp x.f0 ≠ 0 then 14 else if (x.f2.length : Int) > 400 then 6 else itemsE sp to_ x.f0 xs
def chk (kd pub sub n fr to_ : Int) (sp : List Sp) (it : List It) : Int :=
  if kd < 1 ∨ kd > 6 then 12 else if ¬ numsOK kd pub sub n fr to_ then 2 else if kd ≠ 1 then 0 else if (sp.length : Int) > 32 ∨ (it.length : Int) > 8 then 6
  else if ¬ (rightB 0 0 sp = true) then 4 else if ¬ (∀ s ∈ sp, spanOK fr to_ s) then 4 else itemsE sp to_ (fr - 1) it
/-! ### the numbers -/
theorem Numbers_eq (k : Nat) (kd pub sub n fr to_ : Int) (sp : List Sp) (it : List It) : parcel_numbers.f (k + 2) kd pub sub n fr to_ sp it = some (decide (numsOK kd pub sub n fr to_)) := by
  have key : ∀ (b : Bool) (p : Prop) [Decidable p], (b = true ↔ p) → some b = some (decide p) := fun b p _ h => congrArg some (by
    by_cases hp : p
    · rw [decide_eq_true hp, h.2 hp]
    · rw [decide_eq_false hp]; exact Bool.eq_false_iff.2 (fun hb => hp (h.1 hb)))
  unfold numsOK
  simp only [parcel_numbers.f, parcel_numbers.j0, parcel_numbers.j1, decide_eq_true_eq, beq_iff_eq, if_true]
  repeat' split
  all_goals (refine key _ _ ?_; simp only [decide_eq_true_eq, Bool.false_eq_true, true_iff, false_iff]; omega)
/-! ### the reference's heads -/
theorem ranged_eq (a : Int) : grapevineref13_ranged.f a = some (decide (a = 1 ∨ a = 2)) := by
  unfold grapevineref13_ranged.f
  by_cases h : a = 1
  · simp [h]
  · by_cases h2 : a = 2 <;> simp [h, h2]
theorem named_eq (a : Int) : grapevineref13_named.f a = some (decide (3 ≤ a ∧ a ≤ 6)) := by
  unfold grapevineref13_named.f
  by_cases h3 : a = 3
  · simp [h3]
  by_cases h4 : a = 4
  · simp [h4]
  by_cases h5 : a = 5
  · simp [h5]
  by_cases h6 : a = 6
  · simp [h6]
  rw [if_neg h3, if_neg h4, if_neg h5, decide_eq_false (by omega)]
  simp [h6]
theorem from_eq (a : Int) : grapevineref13_from.f a = some (decide (a = 1 ∨ a = 2 ∨ a = 3 ∨ a = 5)) := by
  unfold grapevineref13_from.f
  rw [ranged_eq, Option.bind_some]
  by_cases h : a = 1 ∨ a = 2
  · rw [decide_eq_true h, if_pos rfl, decide_eq_true (by omega)]
  · rw [decide_eq_false h, if_neg (by simp)]
    by_cases h3 : a = 3
    · simp [h3]
    · rw [if_neg h3]
      by_cases h5 : a = 5
      · simp [h5]
      · rw [decide_eq_false (by omega)]; simp [h5]
section
variable (k : Nat) (kd pub sub n fr to_ : Int) (sp : List Sp) (it : List It)
end
/-! ### the lists -/
theorem rdi_at (l : List It) (i : Nat) (h : i < l.length) : rd_T62 l (i : Int) = l[i] := by
  unfold rd_T62
  rw [Int.toNat_natCast, List.getD_eq_getElem?_getD, List.getElem?_eq_getElem h, Option.getD_some]
theorem drop_rdi (l : List It) (i : Nat) (h : i < l.length) : l.drop i = rd_T62 l (i : Int) :: l.drop (i + 1) := by
  rw [rdi_at l i h, List.drop_eq_getElem_cons h]
theorem Items_ev (kd pub sub n fr to_ : Int) (sp : List Sp) (it : List It) (hs : sp.length ≤ 9223372036854775807) (hi : it.length ≤ 9223372036854775807) : ∀ (m i : Nat) (a : Int), i + m = it.length →
    Ev (fun k => parcel_Check.l1 k a it (it.length : Int) (i : Int) kd pub sub n fr to_ sp it) (itemsE sp to_ a (it.drop i)) := by
  intro m
  induction m with
  | zero =>
    intro i a h
    rw [List.drop_of_length_le (by omega)]
    refine Ev.done (fun k => ?_)
    simp only [parcel_Check.l1]
    rw [if_neg (by omega)]
    rfl
  | succ m ih =>
    intro i a h
    have hlt : i < it.length := by omega
    rw [drop_rdi it i hlt]
    generalize hx : rd_T62 it (i : Int) = x
    have q1 : (i : Int) < (it.length : Int) := by omega
    have q2 : (0 : Int) ≤ (i : Int) := by omega
    have J : ∀ k, parcel_Check.j4 (k + 1) it (it.length : Int) (i : Int) true kd pub sub n fr to_ sp it x.f0 x.f1 x.f2 = some 14 := fun k => by
      simp only [parcel_Check.j4]
      rw [if_pos trivial]
    simp only [itemsE]
    by_cases h1 : x.f0 ≤ a
    · rw [if_pos (Or.inl h1)]
      refine Ev.done2 (fun k => ?_)
      rw [show k + 2 = (k + 1) + 1 from rfl]
      simp only [parcel_Check.l1, if_pos q1, if_pos q2, hx, if_pos h1, J]
    by_cases h2 : x.f0 > to_
    · rw [if_pos (Or.inr (Or.inl h2))]
      refine Ev.done2 (fun k => ?_)
      rw [show k + 2 = (k + 1) + 1 from rfl]
      simp only [parcel_Check.l1, if_pos q1, if_pos q2, hx, if_neg h1, if_pos h2, J]
    refine Ev.step (f := fun k => (span_At.f k sp x.f0).bind fun t => parcel_Check.j4 k it (it.length : Int) (i : Int) (t != 0) kd pub sub n fr to_ sp it x.f0 x.f1 x.f2) (fun k => ?_) ?_
    · simp only [parcel_Check.l1, if_pos q1, if_pos q2, hx, if_neg h1, if_neg h2]
    refine Ev.bind (SAt_ev sp x.f0 hs) ?_
    by_cases h3 : atS sp x.f0 = 0
    · rw [if_neg (by omega), show (atS sp x.f0 != 0) = false by simp [h3]]
      by_cases h4 : (x.f2.length : Int) > 400
      · rw [if_pos h4]
        refine Ev.done (fun k => ?_)
        simp only [parcel_Check.j4]
        rw [if_neg (by simp), if_pos h4]
      · rw [if_neg h4]
        refine Ev.step (f := fun k => parcel_Check.l1 k x.f0 it (it.length : Int) ((i + 1 : Nat) : Int) kd pub sub n fr to_ sp it) (fun k => ?_) (ih (i + 1) x.f0 (by omega))
        simp only [parcel_Check.j4]
        rw [if_neg (by simp), if_neg h4, cast_succ_wrap hlt hi]
    · rw [if_pos (Or.inr (Or.inr h3)), show (atS sp x.f0 != 0) = true by simp [h3]]
      exact Ev.done (fun k => J k)
/-! ### the spans -/
theorem Spans_ev (kd pub sub n fr to_ : Int) (sp : List Sp) (it : List It) (hs : sp.length ≤ 9223372036854775807) (hi : it.length ≤ 9223372036854775807) (hf : 1 ≤ fr) (hf2 : fr ≤ 1099511627776) : ∀ (m i : Nat), i + m = sp.length →
    Ev (fun k => parcel_Check.l0 k sp (sp.length : Int) (i : Int) kd pub sub n fr to_ sp it) (if ¬ (∀ s ∈ sp.drop i, spanOK fr to_ s) then 4 else itemsE sp to_ (fr - 1) it) := by
  intro m
  induction m with
  | zero =>
    intro i h
    rw [List.drop_of_length_le (by omega), if_neg (by simp)]
    refine Ev.step (f := fun k => parcel_Check.l1 k (fr - 1) it (it.length : Int) ((0 : Nat) : Int) kd pub sub n fr to_ sp it) (fun k => ?_) (Items_ev kd pub sub n fr to_ sp it hs hi it.length 0 (fr - 1) (by omega))
    simp only [parcel_Check.l0]
    rw [if_neg (by omega), wrap_ok (by omega) (by omega)]
    rfl
  | succ m ih =>
    intro i h
    have hlt : i < sp.length := by omega
    rw [drop_rd sp i hlt]
    generalize hx : rd_T43 sp (i : Int) = x
    have q1 : (i : Int) < (sp.length : Int) := by omega
    have q2 : (0 : Int) ≤ (i : Int) := by omega
    by_cases hok : spanOK fr to_ x
    · have e : (∀ s ∈ x :: sp.drop (i + 1), spanOK fr to_ s) ↔ (∀ s ∈ sp.drop (i + 1), spanOK fr to_ s) := by simp [hok]
      simp only [e]
      refine Ev.step (fun k => ?_) (ih (i + 1) (by omega))
      have ⟨o1, o2, o3⟩ := hok
      simp only [parcel_Check.l0, if_pos q1, if_pos q2, hx]
      rw [if_neg o1, if_neg (by omega), if_neg (by omega), cast_succ_wrap hlt hs]
    · rw [if_pos (by simp [hok])]
      refine Ev.done (fun k => ?_)
      simp only [parcel_Check.l0, if_pos q1, if_pos q2, hx]
      unfold spanOK at hok
      by_cases o1 : x.f2 = 1
      · rw [if_pos o1]
      rw [if_neg o1]
      by_cases o2 : x.f0 < fr
      · rw [if_pos o2]
      rw [if_neg o2, if_pos (by omega)]
theorem Check_ev (kd pub sub n fr to_ : Int) (sp : List Sp) (it : List It) :
    Ev (fun k => parcel_Check.f k kd pub sub n fr to_ sp it) (chk kd pub sub n fr to_ sp it) := by
  unfold chk
  have J0 : ∀ k, parcel_Check.j0 (k + 1) true kd pub sub n fr to_ sp it = some 12 := fun k => by simp only [parcel_Check.j0]; rw [if_pos trivial]
  by_cases hk : kd < 1 ∨ kd > 6
  · rw [if_pos hk]
    refine Ev.done (fun k => ?_)
    unfold parcel_Check.f
    by_cases h1 : kd < 1
    · rw [if_pos h1, J0]
    · rw [if_neg h1, decide_eq_true (by omega), J0]
  rw [if_neg hk]
  have e0 : ∀ k, parcel_Check.f (k + 3) kd pub sub n fr to_ sp it = (if numsOK kd pub sub n fr to_ then (if kd = 1 then parcel_Check.j1 (k + 2) (decide ((sp.length : Int) > 32 ∨ (it.length : Int) > 8)) kd pub sub n fr to_ sp it else some 0) else some 2) := by
    intro k
    unfold parcel_Check.f
    rw [if_neg (by omega), decide_eq_false (by omega), show k + 3 = (k + 2) + 1 from rfl]
    simp only [parcel_Check.j0, Numbers_eq, Option.bind_some]
    rw [if_neg (by simp)]
    by_cases hn : numsOK kd pub sub n fr to_
    · rw [decide_eq_true hn, if_pos rfl, if_pos hn]
      by_cases h1 : (sp.length : Int) > 32
      · rw [if_pos h1, decide_eq_true (Or.inl h1)]
      · rw [if_neg h1, show decide ((sp.length : Int) > 32 ∨ (it.length : Int) > 8) = decide ((it.length : Int) > 8) from decide_eq_decide.2 (by omega)]
    · rw [decide_eq_false hn, if_neg (by simp), if_neg hn]
  by_cases hn : numsOK kd pub sub n fr to_
  · rw [if_neg (by simp [hn])]
    by_cases h1 : kd = 1
    · rw [if_neg (by simp [h1])]
      have hnum := hn
      unfold numsOK at hnum
      rw [if_pos (by omega)] at hnum
      refine Ev.unshift 3 (Ev.congr (f := fun k => parcel_Check.j1 (k + 2) (decide ((sp.length : Int) > 32 ∨ (it.length : Int) > 8)) kd pub sub n fr to_ sp it) (fun k => by rw [e0, if_pos hn, if_pos h1]) (Ev.shift 2 (f := fun k => parcel_Check.j1 k (decide ((sp.length : Int) > 32 ∨ (it.length : Int) > 8)) kd pub sub n fr to_ sp it) ?_))
      by_cases h2 : (sp.length : Int) > 32 ∨ (it.length : Int) > 8
      · rw [if_pos h2, decide_eq_true h2]
        refine Ev.done (fun k => ?_)
        simp only [parcel_Check.j1]
        rw [if_pos trivial]
      · rw [if_neg h2, decide_eq_false h2]
        refine Ev.step (f := fun k => (span_Right.f k sp).bind fun t130 => (if t130 = true then (parcel_Check.l0 k sp (sp.length : Int) 0 kd pub sub n fr to_ sp it) else (some 4))) (fun k => by
          simp only [parcel_Check.j1]
          rw [if_neg (by simp)]) (Ev.bind (Right_ev sp (by omega)) ?_)
        by_cases h3 : rightB 0 0 sp = true
        · rw [if_neg (by simp [h3])]
          refine Ev.congr (fun k => if_pos h3) (Spans_ev kd pub sub n fr to_ sp it (by omega) (by omega) (by omega) (by omega) sp.length 0 (by omega))
        · rw [if_pos h3]
          exact Ev.congr (fun k => if_neg h3) (Ev.now _)
    · rw [if_pos h1]
      exact Ev.unshift 3 (Ev.congr (f := fun _ => some 0) (fun k => by rw [e0, if_pos hn, if_neg h1]) (Ev.now _))
  · rw [if_pos hn]
    exact Ev.unshift 3 (Ev.congr (f := fun _ => some 2) (fun k => by rw [e0, if_neg hn]) (Ev.now _))
end Go.Proofs.Ytpeacoppclmmlaa.PP

end

section
namespace Go.Proofs.Ytpeacoppclmmlaa.PP
open Go.RowKit Go.Proofs.YtpeacoppclmmlaaW.PrintWords Go.Proofs.YtpeacoppclmmlaaW.PrintMore
theorem live_rounds : grapevinelaw13_live.f 20 = some true := by decide +kernel
theorem live_ev : Ev (fun k => grapevinelaw13_live.f k) true := Ev.of grapevinelaw13_live.mono live_rounds
end Go.Proofs.Ytpeacoppclmmlaa.PP

end

section
set_option linter.unusedSimpArgs false
set_option linter.unusedVariables false
namespace Go.Proofs.Ytpeacoppclmmlaa.PP
open Go.RowKit Go.Proofs.YtpeacoppclmmlaaW.PrintWords Go.Proofs.YtpeacoppclmmlaaW.PrintMore Go.Proofs.Ytpeacoppclmmlaa.Open

def plainP (kd pub sub n fr to_ : Int) (sp : List Sp) (it : List It) : Int × Int × Int × Int × Int × Int × List Sp × List It :=
  (kd, if 1 ≤ kd ∧ kd ≤ 6 then pub else 0, if 3 ≤ kd ∧ kd ≤ 6 then sub else 0, if 3 ≤ kd ∧ kd ≤ 6 then n else 0, if kd = 1 ∨ kd = 2 ∨ kd = 3 ∨ kd = 5 then fr else 0, if kd = 1 ∨ kd = 2 then to_ else 0, if kd = 1 then sp else [], if kd = 1 then it else [])
section
variable {kd pub sub n fr to_ : Int} {sp : List Sp} {it : List It}
theorem PlainItems_ev (hi : it.length < 3518437208883) (hb : ∀ x ∈ it, x.f2.length < 140737488355328) (o0 o1 o2 o3 o4 o5 : Int) (os : List Sp) : ∀ (m i : Nat) (acc : List It), i + m = it.length → acc = it.take i →
    Ev (fun k => grapevineref13_Plain.l0 k (i : Int) kd pub sub n fr to_ sp it o0 o1 o2 o3 o4 o5 os acc) (o0, o1, o2, o3, o4, o5, os, it) := by
  intro m
  induction m with
  | zero =>
    intro i acc h ha
    refine Ev.done (fun k => ?_)
    simp only [grapevineref13_Plain.l0]
    rw [if_neg (by omega), ha, List.take_of_length_le (by omega)]
  | succ m ih =>
    intro i acc h ha
    have hlt : i < it.length := by omega
    have hm : rd_T62 it (i : Int) ∈ it := by rw [rdi_at it i hlt]; exact List.getElem_mem hlt
    have e : it.take (i + 1) = acc ++ [rd_T62 it (i : Int)] := by rw [ha, rdi_at it i hlt, List.take_succ_eq_append_getElem hlt]
    generalize hx : rd_T62 it (i : Int) = x at hm e
    have hxb := hb x hm
    have hal : acc.length ≤ i := by rw [ha, List.length_take]; omega
    refine Ev.step (f := fun k => grapevineref13_Plain.l0 k ((i + 1 : Nat) : Int) kd pub sub n fr to_ sp it o0 o1 o2 o3 o4 o5 os (acc ++ [x])) (fun k => ?_) (ih (i + 1) _ (by omega) e.symm)
    simp only [grapevineref13_Plain.l0, hx, Option.bind_some, List.nil_append, List.length_nil, Nat.zero_add]
    rw [if_pos (by omega), if_pos (by omega), if_pos hxb, if_pos (by omega), cast_succ_wrap hlt (by omega)]
theorem PlainK_ev (hk : kd = 1 → sp.length < 5864062014805 ∧ it.length < 3518437208883 ∧ ∀ x ∈ it, x.f2.length < 140737488355328) :
    Ev (fun k => grapevineref13_Plain.f k kd pub sub n fr to_ sp it) (plainP kd pub sub n fr to_ sp it) := by
  have J4 : ∀ o0 o1 o2 o3 o4 o5, Ev (fun k => grapevineref13_Plain.j4 k kd pub sub n fr to_ sp it o0 o1 o2 o3 o4 o5) (o0, o1, o2, o3, o4, o5, if kd = 1 then sp else [], if kd = 1 then it else []) := fun o0 o1 o2 o3 o4 o5 => by
    by_cases h : kd = 1
    · obtain ⟨hs, hi, hb⟩ := hk h
      rw [if_pos h, if_pos h]
      refine Ev.step (f := fun k => grapevineref13_Plain.l0 k ((0 : Nat) : Int) kd pub sub n fr to_ sp it o0 o1 o2 o3 o4 o5 sp []) (fun k => ?_) (PlainItems_ev hi hb o0 o1 o2 o3 o4 o5 sp it.length 0 [] (by omega) rfl)
      simp only [grapevineref13_Plain.j4]
      rw [if_pos h, if_pos (by simpa using hs)]
      rfl
    · rw [if_neg h, if_neg h]
      refine Ev.done (fun k => ?_)
      simp only [grapevineref13_Plain.j4]
      rw [if_neg h]
  have J3 : ∀ o0 o1 o2 o3 o4, Ev (fun k => grapevineref13_Plain.j3 k kd pub sub n fr to_ sp it o0 o1 o2 o3 o4 0) (o0, o1, o2, o3, o4, if kd = 1 ∨ kd = 2 then to_ else 0, if kd = 1 then sp else [], if kd = 1 then it else []) := fun o0 o1 o2 o3 o4 => by
    by_cases h : kd = 1 ∨ kd = 2
    · rw [if_pos h]
      refine Ev.step (fun k => ?_) (J4 o0 o1 o2 o3 o4 to_)
      simp only [grapevineref13_Plain.j3, ranged_eq, Option.bind_some, decide_eq_true h, if_true]
    · rw [if_neg h]
      refine Ev.step (fun k => ?_) (J4 o0 o1 o2 o3 o4 0)
      simp only [grapevineref13_Plain.j3, ranged_eq, Option.bind_some, decide_eq_false h, Bool.false_eq_true, if_false]
  have J2 : ∀ o0 o1 o2 o3, Ev (fun k => grapevineref13_Plain.j2 k kd pub sub n fr to_ sp it o0 o1 o2 o3 0 0) (o0, o1, o2, o3, if kd = 1 ∨ kd = 2 ∨ kd = 3 ∨ kd = 5 then fr else 0, if kd = 1 ∨ kd = 2 then to_ else 0, if kd = 1 then sp else [], if kd = 1 then it else []) := fun o0 o1 o2 o3 => by
    by_cases h : kd = 1 ∨ kd = 2 ∨ kd = 3 ∨ kd = 5
    · rw [if_pos h]
      refine Ev.step (fun k => ?_) (J3 o0 o1 o2 o3 fr)
      simp only [grapevineref13_Plain.j2, from_eq, Option.bind_some, decide_eq_true h, if_true]
    · rw [if_neg h]
      refine Ev.step (fun k => ?_) (J3 o0 o1 o2 o3 0)
      simp only [grapevineref13_Plain.j2, from_eq, Option.bind_some, decide_eq_false h, Bool.false_eq_true, if_false]
  have J1 : ∀ o0 o1, Ev (fun k => grapevineref13_Plain.j1 k kd pub sub n fr to_ sp it o0 o1 0 0 0 0) (o0, o1, if 3 ≤ kd ∧ kd ≤ 6 then sub else 0, if 3 ≤ kd ∧ kd ≤ 6 then n else 0, if kd = 1 ∨ kd = 2 ∨ kd = 3 ∨ kd = 5 then fr else 0, if kd = 1 ∨ kd = 2 then to_ else 0, if kd = 1 then sp else [], if kd = 1 then it else []) := fun o0 o1 => by
    by_cases h : 3 ≤ kd ∧ kd ≤ 6
    · rw [if_pos h, if_pos h]
      refine Ev.step (fun k => ?_) (J2 o0 o1 sub n)
      simp only [grapevineref13_Plain.j1, named_eq, Option.bind_some, decide_eq_true h, if_true]
    · rw [if_neg h, if_neg h]
      refine Ev.step (fun k => ?_) (J2 o0 o1 0 0)
      simp only [grapevineref13_Plain.j1, named_eq, Option.bind_some, decide_eq_false h, Bool.false_eq_true, if_false]
  have J0 : Ev (fun k => grapevineref13_Plain.j0 k (decide (1 ≤ kd ∧ kd ≤ 6)) kd pub sub n fr to_ sp it kd 0 0 0 0 0) (plainP kd pub sub n fr to_ sp it) := by
    unfold plainP
    by_cases h : 1 ≤ kd ∧ kd ≤ 6
    · rw [if_pos h]
      refine Ev.step (fun k => ?_) (J1 kd pub)
      simp only [grapevineref13_Plain.j0, decide_eq_true h, if_true]
    · rw [if_neg h]
      refine Ev.step (fun k => ?_) (J1 kd 0)
      simp only [grapevineref13_Plain.j0, decide_eq_false h, Bool.false_eq_true, if_false]
  refine Ev.congr (fun k => ?_) J0
  unfold grapevineref13_Plain.f
  rw [ranged_eq, Option.bind_some]
  by_cases h : kd = 1 ∨ kd = 2
  · rw [decide_eq_true h, if_pos rfl, decide_eq_true (by omega)]
  · rw [decide_eq_false h, if_neg (by simp), named_eq, Option.bind_some]
    congr 1
    exact decide_eq_decide.2 (by omega)
theorem Plain_ev (hs : sp.length < 5864062014805) (hi : it.length < 3518437208883) (hb : ∀ x ∈ it, x.f2.length < 140737488355328) :
    Ev (fun k => grapevineref13_Plain.f k kd pub sub n fr to_ sp it) (plainP kd pub sub n fr to_ sp it) := PlainK_ev (fun _ => ⟨hs, hi, hb⟩)
end
/-! ### sizes -/
end Go.Proofs.Ytpeacoppclmmlaa.PP

end

section
set_option linter.unusedSimpArgs false
set_option linter.unusedVariables false
namespace Go.Proofs.Ytpeacoppclmmlaa.PP
open Go.RowKit Go.Proofs.YtpeacoppclmmlaaW.PrintWords Go.Proofs.YtpeacoppclmmlaaW.PrintMore

theorem SameSp_l (l : List Sp) (hl : l.length ≤ 9223372036854775807) : ∀ (d i : Nat), i + d = l.length → Ev (fun k => grapevineref08_Same.l0 k l l (i : Int)) true := by
  intro d
  induction d with
  | zero =>
    intro i h
    refine Ev.done (fun k => ?_)
    simp only [grapevineref08_Same.l0]
    rw [if_neg (by omega)]
  | succ d ih =>
    intro i h
    have hlt : i < l.length := by omega
    refine Ev.step (fun k => ?_) (ih (i + 1) (by omega))
    simp only [grapevineref08_Same.l0]
    simp only [if_pos (show (i : Int) < (l.length : Int) by omega), if_pos (show (0 : Int) ≤ (i : Int) by omega), cast_succ_wrap hlt hl, beq_self_eq_true, Bool.not_true, Bool.or_self, Bool.false_eq_true, if_false]
theorem SameSp_self (l : List Sp) (hl : l.length ≤ 9223372036854775807) : Ev (fun k => grapevineref08_Same.f k l l) true := by
  unfold grapevineref08_Same.f
  exact Ev.congr (fun k => if_pos rfl) (SameSp_l l hl l.length 0 (by omega))
theorem SameIt_l (l : List It) (hl : l.length ≤ 9223372036854775807) : ∀ (d i : Nat), i + d = l.length → Ev (fun k => grapevineref13_SameItems.l0 k l l (i : Int)) true := by
  intro d
  induction d with
  | zero =>
    intro i h
    refine Ev.done (fun k => ?_)
    simp only [grapevineref13_SameItems.l0]
    rw [if_neg (by omega)]
  | succ d ih =>
    intro i h
    have hlt : i < l.length := by omega
    refine Ev.step (fun k => ?_) (ih (i + 1) (by omega))
    simp only [grapevineref13_SameItems.l0]
    simp only [if_pos (show (i : Int) < (l.length : Int) by omega), if_pos (show (0 : Int) ≤ (i : Int) by omega), cast_succ_wrap hlt hl, if_true]
theorem SameIt_self (l : List It) (hl : l.length ≤ 9223372036854775807) : Ev (fun k => grapevineref13_SameItems.f k l l) true := by
  unfold grapevineref13_SameItems.f
  exact Ev.congr (fun k => if_pos rfl) (SameIt_l l hl l.length 0 (by omega))
theorem Same_self (a b c d e f : Int) (sp : List Sp) (it : List It) (hs : sp.length ≤ 9223372036854775807) (hi : it.length ≤ 9223372036854775807) : Ev (fun k => grapevineref13_Same.f k a b c d e f sp it a b c d e f sp it) true := by
  unfold grapevineref13_Same.f
  simp only [if_true]
  refine Ev.bind (SameSp_self sp hs) ?_
  simp only [if_true]
  exact Ev.bind (SameIt_self it hi) (Ev.now _)
end Go.Proofs.Ytpeacoppclmmlaa.PP

end

section
set_option linter.unusedSimpArgs false
set_option linter.unusedVariables false
set_option linter.unusedSectionVars false
namespace Go.Proofs.Ytpeacoppclmmlaa.PP
open Go.RowKit Go.Proofs.YtpeacoppclmmlaaW.PrintWords Go.Proofs.YtpeacoppclmmlaaW.PrintMore Go.Proofs.Ytpeacoppclmmlaa.Open
open Oct (uint uintN tk takeU Bytes)

/-! ### bytes, lengths -/
/-! ### reading back -/
section
variable {b : List Int} (hb : Bytes b)
include hb
end
/-! ### Take of Put -/
section
variable {kd pub sub n fr to_ : Int} {sp : List Sp} {it : List It}
theorem chk_plain : chk kd (if 1 ≤ kd ∧ kd ≤ 6 then pub else 0) (if 3 ≤ kd ∧ kd ≤ 6 then sub else 0) (if 3 ≤ kd ∧ kd ≤ 6 then n else 0) (if kd = 1 ∨ kd = 2 ∨ kd = 3 ∨ kd = 5 then fr else 0) (if kd = 1 ∨ kd = 2 then to_ else 0) (if kd = 1 then sp else []) (if kd = 1 then it else []) = chk kd pub sub n fr to_ sp it := by
  by_cases h : kd < 1 ∨ kd > 6
  · unfold chk; rw [if_pos h, if_pos h]
  rcases (show kd = 1 ∨ kd = 2 ∨ kd = 3 ∨ kd = 4 ∨ kd = 5 ∨ kd = 6 by omega) with rfl | rfl | rfl | rfl | rfl | rfl <;> simp [chk, numsOK]
end
end Go.Proofs.Ytpeacoppclmmlaa.PP

end
