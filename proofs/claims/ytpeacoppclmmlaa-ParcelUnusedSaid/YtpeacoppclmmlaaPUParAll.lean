import Derived.Test.YtpeacoppclmmlaaPUPPx0
import Derived.Test.YtpeacoppclmmlaaPUPPx2
import Derived.Test.YtpeacoppclmmlaaPUPPx9
import Derived.Test.YtpeacoppclmmlaaPUPPx7
import Derived.Test.YtpeacoppclmmlaaPUPPx3
import Derived.Test.YtpeacoppclmmlaaPUPPx4
import Derived.Test.YtpeacoppclmmlaaPUPPx8
import Derived.Test.YtpeacoppclmmlaaPUPPx10
import Derived.Test.YtpeacoppclmmlaaPUPPx6
import Derived.Test.YtpeacoppclmmlaaPUPPx11
import Derived.Test.YtpeacoppclmmlaaPUPPx13
import Derived.Test.YtpeacoppclmmlaaPUPPOpens
section
namespace Go.Proofs.Ytpeacoppclmmlaa.PP
open Go.RowKit Go.Proofs.YtpeacoppclmmlaaW.PrintWords

abbrev Sp := S43
def okS (pe pi : Int) (s : Sp) : Prop := (1 ≤ s.f2 ∧ s.f2 ≤ 3 ∧ 1 ≤ s.f0 ∧ s.f0 ≤ s.f1 ∧ s.f1 ≤ 1099511627776) ∧ pe < s.f0 ∧ ¬ (s.f0 = pe + 1 ∧ s.f2 = pi)
instance (pe pi : Int) (s : Sp) : Decidable (okS pe pi s) := by unfold okS; infer_instance
theorem okS_iff {pe pi : Int} {s : Sp} : okS pe pi s ↔ ((1 ≤ s.f2 ∧ s.f2 ≤ 3 ∧ 1 ≤ s.f0 ∧ s.f0 ≤ s.f1 ∧ s.f1 ≤ 1099511627776) ∧ pe < s.f0 ∧ ¬ (s.f0 = pe + 1 ∧ s.f2 = pi)) := Iff.rfl
def rightB : Int → Int → List Sp → Bool
  | _, _, [] => true
  | pe, pi, s :: l => decide (okS pe pi s) && rightB s.f1 s.f2 l
def atS : List Sp → Int → Int
  | [], _ => 0
  | s :: l, t => if s.f0 ≤ t ∧ t ≤ s.f1 then s.f2 else atS l t
theorem rightB_cons {pe pi : Int} {s : Sp} {l : List Sp} : rightB pe pi (s :: l) = true ↔ okS pe pi s ∧ rightB s.f1 s.f2 l = true := by
  simp [rightB, Bool.and_eq_true]
theorem atS_cons (s : Sp) (l : List Sp) (t : Int) : atS (s :: l) t = if s.f0 ≤ t ∧ t ≤ s.f1 then s.f2 else atS l t := rfl

/-! ### a map's end -/
/-! ### reading by places -/
theorem rd_at (l : List Sp) (i : Nat) (h : i < l.length) : rd_T43 l (i : Int) = l[i] := by
  unfold rd_T43
  rw [Int.toNat_natCast, List.getD_eq_getElem?_getD, List.getElem?_eq_getElem h]
  rfl
theorem drop_rd (l : List Sp) (i : Nat) (h : i < l.length) : l.drop i = rd_T43 l (i : Int) :: l.drop (i + 1) := by
  rw [rd_at l i h]
  exact List.drop_eq_getElem_cons h
theorem wrap_ok {x : Int} (h : -9223372036854775808 ≤ x) (h' : x ≤ 9223372036854775807) : wrap64 x = x := by
  unfold wrap64; omega
end Go.Proofs.Ytpeacoppclmmlaa.PP

end

section
set_option linter.unusedSimpArgs false
set_option linter.unusedVariables false
namespace Go.Proofs.Ytpeacoppclmmlaa.PP
open Go.RowKit Go.Proofs.YtpeacoppclmmlaaW.PrintWords Go.Proofs.YtpeacoppclmmlaaW.PrintMore

namespace Oct
theorem Ev.succ {α : Type} {g : Nat → Option α} {r : α} (h : Ev (fun k => g (k + 1)) r) : Ev g r := Ev.step (f := fun k => g (k + 1)) (fun _ => rfl) h
theorem Ev.done {α : Type} {g : Nat → Option α} {r : α} (h : ∀ k, g (k + 1) = some r) : Ev g r := Ev.step (f := fun _ => some r) h (Ev.now r)
theorem wrap_ok {x : Int} (h : -9223372036854775808 ≤ x) (h' : x ≤ 9223372036854775807) : wrap64 x = x := by
  unfold wrap64; omega
theorem wrapu_ok {x : Int} (h : 0 ≤ x) (h' : x < 18446744073709551616) : IntKind.u64.wrap x = x := by
  simp only [IntKind.wrap, IntKind.bits, IntKind.signed]
  simp
  omega

/-! ### bits -/
theorem or128 : ∀ y : Nat, y < 256 → Go.bits .or .u8 (y : Int) 128 = ((y % 128 + 128 : Nat) : Int) := by decide +kernel
/-! ### writing -/
/-- The bytes of a number: seven bits a byte, the lesser ones first, 128 more but for the last. -/
def uintN : Nat → Int → List Int
  | 0, x => [x % 256]
  | n + 1, x => if x ≥ 128 then (x % 128 + 128) :: uintN n (x / 128) else [x % 256]
def uint (x : Int) : List Int := uintN 9 x
theorem uintN_length (n : Nat) : ∀ x, (uintN n x).length ≤ n + 1 ∧ 0 < (uintN n x).length := by
  induction n with
  | zero => intro x; simp [uintN]
  | succ n ih =>
    intro x
    simp only [uintN]
    split
    · have := ih (x / 128); simp only [List.length_cons]; omega
    · simp
theorem Uint_ev_l : ∀ (n : Nat) (x : Int) (out : List Int), 0 ≤ x → x < 128 ^ (n + 1) → x < 18446744073709551616 → out.length + n + 1 < 140737488355328 →
    Ev (fun k => octet_Uint.l0 k x out) (out ++ uintN n x) ∧ Ev (fun k => grapevineref02_Uint.l0 k x out) (out ++ uintN n x) := by
  intro n
  induction n with
  | zero =>
    intro x out h0 h1 h2 ho
    simp only [uintN]
    constructor
    · refine Ev.done (fun k => ?_)
      simp only [octet_Uint.l0]
      rw [if_neg (by omega), if_pos (by omega)]
    · refine Ev.done (fun k => ?_)
      simp only [grapevineref02_Uint.l0]
      rw [if_neg (by omega), if_pos (by omega)]
  | succ n ih =>
    intro x out h0 h1 h2 ho
    by_cases c : x ≥ 128
    · have h3 : x / 128 < 128 ^ (n + 1) := by
        have : x < 128 ^ (n + 1) * 128 := by rw [← Int.pow_succ]; exact h1
        omega
      obtain ⟨i1, i2⟩ := ih (x / 128) (out ++ [x % 128 + 128]) (by omega) h3 (by omega) (by simp only [List.length_append, List.length_singleton]; omega)
      simp only [uintN, if_pos c]
      rw [show out ++ (x % 128 + 128) :: uintN n (x / 128) = (out ++ [x % 128 + 128]) ++ uintN n (x / 128) from by simp]
      constructor
      · refine Ev.step (fun k => ?_) i1
        simp only [octet_Uint.l0]
        rw [if_pos c, if_pos (by omega)]
        have e : Go.bits .or .u8 (x % 256) 128 = x % 128 + 128 := by
          have h := or128 (x % 256).toNat (by omega)
          rw [show (((x % 256).toNat : Nat) : Int) = x % 256 from by omega] at h
          rw [h]
          omega
        rw [e]
      · refine Ev.step (fun k => ?_) i2
        simp only [grapevineref02_Uint.l0]
        rw [if_pos (by omega), if_pos (by omega)]
        have e1 : Int.tmod x 128 = x % 128 := Int.tmod_eq_emod_of_nonneg h0
        have e2 : Int.tdiv x 128 = x / 128 := Int.tdiv_eq_ediv_of_nonneg h0
        rw [e1, e2, wrapu_ok (x := 128 + x % 128) (by omega) (by omega), wrapu_ok (x := x / 128) (by omega) (by omega), show (128 + x % 128) % 256 = x % 128 + 128 from by omega]
    · simp only [uintN, if_neg c]
      constructor
      · refine Ev.done (fun k => ?_)
        simp only [octet_Uint.l0]
        rw [if_neg (by omega), if_pos (by omega)]
      · refine Ev.done (fun k => ?_)
        simp only [grapevineref02_Uint.l0]
        rw [if_neg (by omega), if_pos (by omega)]
theorem Uint_ev (x : Int) (h0 : 0 ≤ x) (h1 : x < 18446744073709551616) : Ev (fun k => octet_Uint.f k x) (uint x) ∧ Ev (fun k => grapevineref02_Uint.f k x) (uint x) := by
  have h := Uint_ev_l 9 x [] h0 (by have : (128 : Int) ^ (9 + 1) = 1180591620717411303424 := by decide
                                    omega) h1 (by simp)
  rw [List.nil_append] at h
  exact h

end Oct
end Go.Proofs.Ytpeacoppclmmlaa.PP

end

section
set_option linter.unusedSimpArgs false
set_option linter.unusedVariables false
namespace Go.Proofs.Ytpeacoppclmmlaa.PP
open Go.RowKit Go.Proofs.YtpeacoppclmmlaaW.PrintWords Go.Proofs.YtpeacoppclmmlaaW.PrintMore

theorem Ev.done {α : Type} {g : Nat → Option α} {r : α} (h : ∀ k, g (k + 1) = some r) : Ev g r := Ev.step (f := fun _ => some r) h (Ev.now r)
theorem cast_succ_wrap {i n : Nat} (h : i < n) (hn : n ≤ 9223372036854775807) : wrap64 ((i : Int) + 1) = ((i + 1 : Nat) : Int) := by
  rw [wrap_ok (by omega) (by omega)]; omega

/-! ### Right -/
theorem Right_ev_l (l : List Sp) (hl : l.length ≤ 9223372036854775807) : ∀ (m i : Nat) (a b c : Int), i + m = l.length → 0 ≤ b → b ≤ 1099511627776 →
    Ev (fun k => span_Right.l0 k l (l.length : Int) (i : Int) a b c) (rightB b c (l.drop i)) := by
  intro m
  induction m with
  | zero =>
    intro i a b c hi hb hb'
    rw [List.drop_of_length_le (by omega)]
    refine Ev.done (fun k => ?_)
    simp only [span_Right.l0]
    rw [if_neg (by omega)]
    rfl
  | succ m ih =>
    intro i a b c hi hb hb'
    have hlt : i < l.length := by omega
    rw [drop_rd l i hlt]
    generalize hs : rd_T43 l (i : Int) = s
    have hstep : ∀ k, span_Right.l0 (k + 1) l (l.length : Int) (i : Int) a b c = if okS b c s then span_Right.l0 k l (l.length : Int) ((i + 1 : Nat) : Int) s.f0 s.f1 s.f2 else some false := by
      intro k
      simp only [span_Right.l0]
      rw [if_pos (by omega), if_pos (by omega), if_pos (by omega), hs, cast_succ_wrap hlt hl, wrap_ok (x := b + 1) (by omega) (by omega)]
      by_cases h1 : s.f2 < 1
      · rw [if_pos h1, if_neg (fun hh => by have hh := okS_iff.1 hh; omega)]
      rw [if_neg h1]
      by_cases h2 : s.f2 > 3
      · rw [if_pos h2, if_neg (fun hh => by have hh := okS_iff.1 hh; omega)]
      rw [if_neg h2]
      by_cases h3 : s.f0 < 1
      · rw [if_pos h3, if_neg (fun hh => by have hh := okS_iff.1 hh; omega)]
      rw [if_neg h3]
      by_cases h4 : s.f0 > s.f1
      · rw [if_pos h4, if_neg (fun hh => by have hh := okS_iff.1 hh; omega)]
      rw [if_neg h4]
      by_cases h5 : s.f1 > 1099511627776
      · rw [if_pos h5, if_neg (fun hh => by have hh := okS_iff.1 hh; omega)]
      rw [if_neg h5]
      by_cases h6 : s.f0 ≤ b
      · rw [if_pos h6, if_neg (fun hh => by have hh := okS_iff.1 hh; omega)]
      rw [if_neg h6]
      by_cases h7 : s.f0 = b + 1
      · rw [if_pos h7]
        by_cases h8 : s.f2 = c
        · rw [if_pos h8, if_neg (fun hh => by have hh := okS_iff.1 hh; omega)]
        · rw [if_neg h8, if_pos (okS_iff.2 (by omega))]
      · rw [if_neg h7, if_pos (okS_iff.2 (by omega))]
    by_cases hok : okS b c s
    · have e : rightB b c (s :: l.drop (i + 1)) = rightB s.f1 s.f2 (l.drop (i + 1)) := by simp [rightB, hok]
      rw [e]
      refine Ev.step (f := fun k => span_Right.l0 k l (l.length : Int) ((i + 1 : Nat) : Int) s.f0 s.f1 s.f2) (fun k => ?_) (ih (i + 1) _ _ _ (by omega) (by have := hok.1; omega) (by have := hok.1; omega))
      rw [hstep, if_pos hok]
    · have e : rightB b c (s :: l.drop (i + 1)) = false := by simp [rightB, hok]
      rw [e]
      exact Ev.done (fun k => by rw [hstep, if_neg hok])
theorem Right_ev (l : List Sp) (hl : l.length ≤ 9223372036854775807) : Ev (fun k => span_Right.f k l) (rightB 0 0 l) := by
  have := Right_ev_l l hl l.length 0 0 0 0 (by omega) (by omega) (by omega)
  exact this

theorem Ev.step2 {α : Type} {g f : Nat → Option α} {r : α} (h : ∀ k, g (k + 2) = f k) (k : Ev f r) : Ev g r := Ev.step (f := fun k => g (k + 1)) (fun _ => rfl) (Ev.step (f := f) h k)
theorem Ev.done2 {α : Type} {g : Nat → Option α} {r : α} (h : ∀ k, g (k + 2) = some r) : Ev g r := Ev.step2 (f := fun _ => some r) h (Ev.now r)
theorem pred_wrap {i : Nat} (h : 0 < i) (hn : i ≤ 9223372036854775807) : wrap64 ((i : Int) - 1) = ((i - 1 : Nat) : Int) := by
  rw [wrap_ok (by omega) (by omega)]; omega

/-! ### Right -/
theorem RRight_ev_l (l : List Sp) (hl : l.length ≤ 9223372036854775807) : ∀ (m i : Nat) (pe pi : Int), i + m = l.length → (i = 0 → pe = 0 ∧ pi = 0) → (0 < i → pe = (rd_T43 l ((i - 1 : Nat) : Int)).f1 ∧ pi = (rd_T43 l ((i - 1 : Nat) : Int)).f2) →
    Ev (fun k => grapevineref08_Right.l0 k l (i : Int)) (rightB pe pi (l.drop i)) := by
  intro m
  induction m with
  | zero =>
    intro i pe pi hi _ _
    rw [List.drop_of_length_le (by omega)]
    refine Ev.done (fun k => ?_)
    simp only [grapevineref08_Right.l0]
    rw [if_neg (by omega)]
    rfl
  | succ m ih =>
    intro i pe pi hi h0 hp
    have hlt : i < l.length := by omega
    rw [drop_rd l i hlt]
    generalize hs : rd_T43 l (i : Int) = s
    have hj : ∀ k, grapevineref08_Right.j1 (k + 1) l (i : Int) true = some false := fun k => by simp only [grapevineref08_Right.j1]; rw [if_pos trivial]
    have hstep : ∀ k, grapevineref08_Right.l0 (k + 2) l (i : Int) = if okS pe pi s then grapevineref08_Right.l0 k l ((i + 1 : Nat) : Int) else some false := by
      intro k
      rw [show k + 2 = (k + 1) + 1 from rfl]
      simp only [grapevineref08_Right.l0]
      rw [if_pos (by omega), if_pos (by omega), hs]
      by_cases h1 : s.f2 < 1
      · rw [if_pos h1, hj, if_neg (fun hh => by have hh := okS_iff.1 hh; omega)]
      rw [if_neg h1]
      by_cases h2 : s.f2 > 3
      · rw [if_pos h2, hj, if_neg (fun hh => by have hh := okS_iff.1 hh; omega)]
      rw [if_neg h2]
      by_cases h3 : s.f0 < 1
      · rw [if_pos h3, hj, if_neg (fun hh => by have hh := okS_iff.1 hh; omega)]
      rw [if_neg h3]
      by_cases h4 : s.f1 < s.f0
      · rw [if_pos h4, hj, if_neg (fun hh => by have hh := okS_iff.1 hh; omega)]
      rw [if_neg h4]
      by_cases h5 : s.f1 > 1099511627776
      · rw [decide_eq_true h5, hj, if_neg (fun hh => by have hh := okS_iff.1 hh; omega)]
      rw [decide_eq_false h5]
      simp only [grapevineref08_Right.j1]
      rw [if_neg (by simp), cast_succ_wrap hlt hl]
      by_cases hi0 : i = 0
      · obtain ⟨rfl, rfl⟩ := h0 hi0
        rw [if_neg (by omega), if_pos (okS_iff.2 (by omega))]
      · obtain ⟨e1, e2⟩ := hp (by omega)
        rw [if_pos (by omega), if_pos (by omega), if_pos (by omega), pred_wrap (by omega) (by omega), if_pos (by omega), if_pos (by omega), hs, ← e1, ← e2, wrap_ok (x := s.f0 - 1) (by omega) (by omega)]
        by_cases h6 : s.f0 ≤ pe
        · rw [if_pos h6, if_neg (fun hh => by have hh := okS_iff.1 hh; omega)]
        rw [if_neg h6]
        by_cases h7 : s.f0 - 1 = pe
        · rw [if_pos h7]
          by_cases h8 : s.f2 = pi
          · rw [if_pos h8, if_neg (fun hh => by have hh := okS_iff.1 hh; omega)]
          · rw [if_neg h8, if_pos (okS_iff.2 (by omega))]
        · rw [if_neg h7, if_pos (okS_iff.2 (by omega))]
    by_cases hok : okS pe pi s
    · have e : rightB pe pi (s :: l.drop (i + 1)) = rightB s.f1 s.f2 (l.drop (i + 1)) := by simp [rightB, hok]
      rw [e]
      refine Ev.step2 (f := fun k => grapevineref08_Right.l0 k l ((i + 1 : Nat) : Int)) (fun k => ?_) (ih (i + 1) _ _ (by omega) (fun h => by omega) (fun _ => by rw [show i + 1 - 1 = i by omega, hs]; exact ⟨rfl, rfl⟩))
      rw [hstep, if_pos hok]
    · have e : rightB pe pi (s :: l.drop (i + 1)) = false := by simp [rightB, hok]
      rw [e]
      exact Ev.done2 (fun k => by rw [hstep, if_neg hok])
theorem RRight_ev (l : List Sp) (hl : l.length ≤ 9223372036854775807) : Ev (fun k => grapevineref08_Right.f k l) (rightB 0 0 l) :=
  RRight_ev_l l hl l.length 0 0 0 (by omega) (fun _ => ⟨rfl, rfl⟩) (fun h => by omega)

/-! ### At -/
theorem SAt_ev_l (l : List Sp) (t : Int) (hl : l.length ≤ 9223372036854775807) : ∀ (m i : Nat), i + m = l.length → Ev (fun k => span_At.l0 k t l (l.length : Int) (i : Int)) (atS (l.drop i) t) := by
  intro m
  induction m with
  | zero =>
    intro i hi
    rw [List.drop_of_length_le (by omega)]
    exact Ev.done (fun k => by simp only [span_At.l0]; rw [if_neg (by omega)]; rfl)
  | succ m ih =>
    intro i hi
    have hlt : i < l.length := by omega
    rw [drop_rd l i hlt]
    generalize hs : rd_T43 l (i : Int) = s
    by_cases h : s.f0 ≤ t ∧ t ≤ s.f1
    · refine Ev.done (fun k => ?_)
      simp only [span_At.l0]
      rw [if_pos (by omega), if_pos (by omega), if_pos (by omega), hs, if_pos (show t ≥ s.f0 from h.1), if_pos h.2, atS_cons, if_pos h]
    · refine Ev.step (f := fun k => span_At.l0 k t l (l.length : Int) ((i + 1 : Nat) : Int)) (fun k => ?_) (by rw [atS_cons, if_neg h]; exact ih (i + 1) (by omega))
      simp only [span_At.l0]
      rw [if_pos (by omega), if_pos (by omega), if_pos (by omega), hs, cast_succ_wrap hlt hl]
      by_cases h1 : s.f0 ≤ t
      · rw [if_pos (show t ≥ s.f0 from h1), if_neg (by omega)]
      · rw [if_neg (show ¬ t ≥ s.f0 by omega)]
theorem SAt_ev (l : List Sp) (t : Int) (hl : l.length ≤ 9223372036854775807) : Ev (fun k => span_At.f k l t) (atS l t) := SAt_ev_l l t hl l.length 0 (by omega)
end Go.Proofs.Ytpeacoppclmmlaa.PP

end

section
set_option linter.unusedSimpArgs false
set_option linter.unusedVariables false
namespace Go.Proofs.Ytpeacoppclmmlaa.PP
open Go.RowKit Go.Proofs.YtpeacoppclmmlaaW.PrintWords Go.Proofs.YtpeacoppclmmlaaW.PrintMore

theorem Ev.shift {α : Type} (n : Nat) {f : Nat → Option α} {r : α} (h : Ev f r) : Ev (fun k => f (k + n)) r := h.elim fun K hK => ⟨K, fun k hk => hK _ (by omega)⟩
theorem Ev.unshift {α : Type} (n : Nat) {g : Nat → Option α} {r : α} (h : Ev (fun k => g (k + n)) r) : Ev g r := h.elim fun K hK => ⟨K + n, fun k hk => by
  have e : k - n + n = k := by omega
  have := hK (k - n) (by omega)
  simpa only [e] using this⟩
abbrev It := S62
def numsOK (kd pub sub n fr to_ : Int) : Prop := 0 ≤ pub ∧ pub ≤ 2 ∧ (if kd = 1 ∨ kd = 2 then 1 ≤ fr ∧ fr ≤ to_ ∧ to_ ≤ 1099511627776 else 1 ≤ sub ∧ sub ≤ 32 ∧ 1 ≤ n ∧ n ≤ 1073741824 ∧ (kd = 3 ∨ kd = 5 → 0 ≤ fr ∧ fr ≤ 1099511627776))
instance (kd pub sub n fr to_ : Int) : Decidable (numsOK kd pub sub n fr to_) := by unfold numsOK; infer_instance
def spanOK (fr to_ : Int) (s : Sp) : Prop := s.f2 ≠ 1 ∧ fr ≤ s.f0 ∧ s.f1 ≤ to_
instance (fr to_ : Int) (s : Sp) : Decidable (spanOK fr to_ s) := by unfold spanOK; infer_instance
def itemsE (sp : List Sp) (to_ : Int) : Int → List It → Int
  | _, [] => 0
  | a, x :: xs => if x.f0 ≤ a ∨ x.f0 > to_ ∨ atS sp x.f0 ≠ 0 then 14 else if (x.f2.length : Int) > 400 then 6 else itemsE sp to_ x.f0 xs
def chk (kd pub sub n fr to_ : Int) (sp : List Sp) (it : List It) : Int :=
  if kd < 1 ∨ kd > 6 then 12 else if ¬ numsOK kd pub sub n fr to_ then 2 else if kd ≠ 1 then 0 else if (sp.length : Int) > 32 ∨ (it.length : Int) > 8 then 6
  else if ¬ (rightB 0 0 sp = true) then 4 else if ¬ (∀ s ∈ sp, spanOK fr to_ s) then 4 else itemsE sp to_ (fr - 1) it
/-! ### the numbers -/
theorem Numbers_eq (k : Nat) (kd pub sub n fr to_ : Int) (sp : List Sp) (it : List It) : parcel_numbers.f (k + 2) kd pub sub n fr to_ sp it = some (decide (numsOK kd pub sub n fr to_)) := by
  have key : ∀ (b : Bool) (p : Prop) [Decidable p], (b = true ↔ p) → some b = some (decide p) := fun b p _ h => congrArg some (by
    by_cases hp : p
    · rw [decide_eq_true hp, h.2 hp]
    · rw [decide_eq_false hp]; exact Bool.eq_false_iff.2 (fun hb => hp (h.1 hb)))
  unfold numsOK
  simp only [parcel_numbers.f, parcel_numbers.j0, parcel_numbers.j1, decide_eq_true_eq, beq_iff_eq, if_true]
  repeat' split
  all_goals (refine key _ _ ?_; simp only [decide_eq_true_eq, Bool.false_eq_true, true_iff, false_iff]; omega)
/-! ### the reference's heads -/
theorem ranged_eq (a : Int) : grapevineref13_ranged.f a = some (decide (a = 1 ∨ a = 2)) := by
  unfold grapevineref13_ranged.f
  by_cases h : a = 1
  · simp [h]
  · by_cases h2 : a = 2 <;> simp [h, h2]
theorem named_eq (a : Int) : grapevineref13_named.f a = some (decide (3 ≤ a ∧ a ≤ 6)) := by
  unfold grapevineref13_named.f
  by_cases h3 : a = 3
  · simp [h3]
  by_cases h4 : a = 4
  · simp [h4]
  by_cases h5 : a = 5
  · simp [h5]
  by_cases h6 : a = 6
  · simp [h6]
  rw [if_neg h3, if_neg h4, if_neg h5, decide_eq_false (by omega)]
  simp [h6]
theorem from_eq (a : Int) : grapevineref13_from.f a = some (decide (a = 1 ∨ a = 2 ∨ a = 3 ∨ a = 5)) := by
  unfold grapevineref13_from.f
  rw [ranged_eq, Option.bind_some]
  by_cases h : a = 1 ∨ a = 2
  · rw [decide_eq_true h, if_pos rfl, decide_eq_true (by omega)]
  · rw [decide_eq_false h, if_neg (by simp)]
    by_cases h3 : a = 3
    · simp [h3]
    · rw [if_neg h3]
      by_cases h5 : a = 5
      · simp [h5]
      · rw [decide_eq_false (by omega)]; simp [h5]
section
variable (k : Nat) (kd pub sub n fr to_ : Int) (sp : List Sp) (it : List It)
end
/-! ### the lists -/
theorem rdi_at (l : List It) (i : Nat) (h : i < l.length) : rd_T62 l (i : Int) = l[i] := by
  unfold rd_T62
  rw [Int.toNat_natCast, List.getD_eq_getElem?_getD, List.getElem?_eq_getElem h, Option.getD_some]
theorem drop_rdi (l : List It) (i : Nat) (h : i < l.length) : l.drop i = rd_T62 l (i : Int) :: l.drop (i + 1) := by
  rw [rdi_at l i h, List.drop_eq_getElem_cons h]
theorem Items_ev (kd pub sub n fr to_ : Int) (sp : List Sp) (it : List It) (hs : sp.length ≤ 9223372036854775807) (hi : it.length ≤ 9223372036854775807) : ∀ (m i : Nat) (a : Int), i + m = it.length →
    Ev (fun k => parcel_Check.l1 k a it (it.length : Int) (i : Int) kd pub sub n fr to_ sp it) (itemsE sp to_ a (it.drop i)) := by
  intro m
  induction m with
  | zero =>
    intro i a h
    rw [List.drop_of_length_le (by omega)]
    refine Ev.done (fun k => ?_)
    simp only [parcel_Check.l1]
    rw [if_neg (by omega)]
    rfl
  | succ m ih =>
    intro i a h
    have hlt : i < it.length := by omega
    rw [drop_rdi it i hlt]
    generalize hx : rd_T62 it (i : Int) = x
    have q1 : (i : Int) < (it.length : Int) := by omega
    have q2 : (0 : Int) ≤ (i : Int) := by omega
    have J : ∀ k, parcel_Check.j4 (k + 1) it (it.length : Int) (i : Int) true kd pub sub n fr to_ sp it x.f0 x.f1 x.f2 = some 14 := fun k => by
      simp only [parcel_Check.j4]
      rw [if_pos trivial]
    simp only [itemsE]
    by_cases h1 : x.f0 ≤ a
    · rw [if_pos (Or.inl h1)]
      refine Ev.done2 (fun k => ?_)
      rw [show k + 2 = (k + 1) + 1 from rfl]
      simp only [parcel_Check.l1, if_pos q1, if_pos q2, hx, if_pos h1, J]
    by_cases h2 : x.f0 > to_
    · rw [if_pos (Or.inr (Or.inl h2))]
      refine Ev.done2 (fun k => ?_)
      rw [show k + 2 = (k + 1) + 1 from rfl]
      simp only [parcel_Check.l1, if_pos q1, if_pos q2, hx, if_neg h1, if_pos h2, J]
    refine Ev.step (f := fun k => (span_At.f k sp x.f0).bind fun t => parcel_Check.j4 k it (it.length : Int) (i : Int) (t != 0) kd pub sub n fr to_ sp it x.f0 x.f1 x.f2) (fun k => ?_) ?_
    · simp only [parcel_Check.l1, if_pos q1, if_pos q2, hx, if_neg h1, if_neg h2]
    refine Ev.bind (SAt_ev sp x.f0 hs) ?_
    by_cases h3 : atS sp x.f0 = 0
    · rw [if_neg (by omega), show (atS sp x.f0 != 0) = false by simp [h3]]
      by_cases h4 : (x.f2.length : Int) > 400
      · rw [if_pos h4]
        refine Ev.done (fun k => ?_)
        simp only [parcel_Check.j4]
        rw [if_neg (by simp), if_pos h4]
      · rw [if_neg h4]
        refine Ev.step (f := fun k => parcel_Check.l1 k x.f0 it (it.length : Int) ((i + 1 : Nat) : Int) kd pub sub n fr to_ sp it) (fun k => ?_) (ih (i + 1) x.f0 (by omega))
        simp only [parcel_Check.j4]
        rw [if_neg (by simp), if_neg h4, cast_succ_wrap hlt hi]
    · rw [if_pos (Or.inr (Or.inr h3)), show (atS sp x.f0 != 0) = true by simp [h3]]
      exact Ev.done (fun k => J k)
/-! ### the spans -/
theorem Spans_ev (kd pub sub n fr to_ : Int) (sp : List Sp) (it : List It) (hs : sp.length ≤ 9223372036854775807) (hi : it.length ≤ 9223372036854775807) (hf : 1 ≤ fr) (hf2 : fr ≤ 1099511627776) : ∀ (m i : Nat), i + m = sp.length →
    Ev (fun k => parcel_Check.l0 k sp (sp.length : Int) (i : Int) kd pub sub n fr to_ sp it) (if ¬ (∀ s ∈ sp.drop i, spanOK fr to_ s) then 4 else itemsE sp to_ (fr - 1) it) := by
  intro m
  induction m with
  | zero =>
    intro i h
    rw [List.drop_of_length_le (by omega), if_neg (by simp)]
    refine Ev.step (f := fun k => parcel_Check.l1 k (fr - 1) it (it.length : Int) ((0 : Nat) : Int) kd pub sub n fr to_ sp it) (fun k => ?_) (Items_ev kd pub sub n fr to_ sp it hs hi it.length 0 (fr - 1) (by omega))
    simp only [parcel_Check.l0]
    rw [if_neg (by omega), wrap_ok (by omega) (by omega)]
    rfl
  | succ m ih =>
    intro i h
    have hlt : i < sp.length := by omega
    rw [drop_rd sp i hlt]
    generalize hx : rd_T43 sp (i : Int) = x
    have q1 : (i : Int) < (sp.length : Int) := by omega
    have q2 : (0 : Int) ≤ (i : Int) := by omega
    by_cases hok : spanOK fr to_ x
    · have e : (∀ s ∈ x :: sp.drop (i + 1), spanOK fr to_ s) ↔ (∀ s ∈ sp.drop (i + 1), spanOK fr to_ s) := by simp [hok]
      simp only [e]
      refine Ev.step (fun k => ?_) (ih (i + 1) (by omega))
      have ⟨o1, o2, o3⟩ := hok
      simp only [parcel_Check.l0, if_pos q1, if_pos q2, hx]
      rw [if_neg o1, if_neg (by omega), if_neg (by omega), cast_succ_wrap hlt hs]
    · rw [if_pos (by simp [hok])]
      refine Ev.done (fun k => ?_)
      simp only [parcel_Check.l0, if_pos q1, if_pos q2, hx]
      unfold spanOK at hok
      by_cases o1 : x.f2 = 1
      · rw [if_pos o1]
      rw [if_neg o1]
      by_cases o2 : x.f0 < fr
      · rw [if_pos o2]
      rw [if_neg o2, if_pos (by omega)]
theorem Check_ev (kd pub sub n fr to_ : Int) (sp : List Sp) (it : List It) :
    Ev (fun k => parcel_Check.f k kd pub sub n fr to_ sp it) (chk kd pub sub n fr to_ sp it) := by
  unfold chk
  have J0 : ∀ k, parcel_Check.j0 (k + 1) true kd pub sub n fr to_ sp it = some 12 := fun k => by simp only [parcel_Check.j0]; rw [if_pos trivial]
  by_cases hk : kd < 1 ∨ kd > 6
  · rw [if_pos hk]
    refine Ev.done (fun k => ?_)
    unfold parcel_Check.f
    by_cases h1 : kd < 1
    · rw [if_pos h1, J0]
    · rw [if_neg h1, decide_eq_true (by omega), J0]
  rw [if_neg hk]
  have e0 : ∀ k, parcel_Check.f (k + 3) kd pub sub n fr to_ sp it = (if numsOK kd pub sub n fr to_ then (if kd = 1 then parcel_Check.j1 (k + 2) (decide ((sp.length : Int) > 32 ∨ (it.length : Int) > 8)) kd pub sub n fr to_ sp it else some 0) else some 2) := by
    intro k
    unfold parcel_Check.f
    rw [if_neg (by omega), decide_eq_false (by omega), show k + 3 = (k + 2) + 1 from rfl]
    simp only [parcel_Check.j0, Numbers_eq, Option.bind_some]
    rw [if_neg (by simp)]
    by_cases hn : numsOK kd pub sub n fr to_
    · rw [decide_eq_true hn, if_pos rfl, if_pos hn]
      by_cases h1 : (sp.length : Int) > 32
      · rw [if_pos h1, decide_eq_true (Or.inl h1)]
      · rw [if_neg h1, show decide ((sp.length : Int) > 32 ∨ (it.length : Int) > 8) = decide ((it.length : Int) > 8) from decide_eq_decide.2 (by omega)]
    · rw [decide_eq_false hn, if_neg (by simp), if_neg hn]
  by_cases hn : numsOK kd pub sub n fr to_
  · rw [if_neg (by simp [hn])]
    by_cases h1 : kd = 1
    · rw [if_neg (by simp [h1])]
      have hnum := hn
      unfold numsOK at hnum
      rw [if_pos (by omega)] at hnum
      refine Ev.unshift 3 (Ev.congr (f := fun k => parcel_Check.j1 (k + 2) (decide ((sp.length : Int) > 32 ∨ (it.length : Int) > 8)) kd pub sub n fr to_ sp it) (fun k => by rw [e0, if_pos hn, if_pos h1]) (Ev.shift 2 (f := fun k => parcel_Check.j1 k (decide ((sp.length : Int) > 32 ∨ (it.length : Int) > 8)) kd pub sub n fr to_ sp it) ?_))
      by_cases h2 : (sp.length : Int) > 32 ∨ (it.length : Int) > 8
      · rw [if_pos h2, decide_eq_true h2]
        refine Ev.done (fun k => ?_)
        simp only [parcel_Check.j1]
        rw [if_pos trivial]
      · rw [if_neg h2, decide_eq_false h2]
        refine Ev.step (f := fun k => (span_Right.f k sp).bind fun t130 => (if t130 = true then (parcel_Check.l0 k sp (sp.length : Int) 0 kd pub sub n fr to_ sp it) else (some 4))) (fun k => by
          simp only [parcel_Check.j1]
          rw [if_neg (by simp)]) (Ev.bind (Right_ev sp (by omega)) ?_)
        by_cases h3 : rightB 0 0 sp = true
        · rw [if_neg (by simp [h3])]
          refine Ev.congr (fun k => if_pos h3) (Spans_ev kd pub sub n fr to_ sp it (by omega) (by omega) (by omega) (by omega) sp.length 0 (by omega))
        · rw [if_pos h3]
          exact Ev.congr (fun k => if_neg h3) (Ev.now _)
    · rw [if_pos h1]
      exact Ev.unshift 3 (Ev.congr (f := fun _ => some 0) (fun k => by rw [e0, if_pos hn, if_neg h1]) (Ev.now _))
  · rw [if_pos hn]
    exact Ev.unshift 3 (Ev.congr (f := fun _ => some 2) (fun k => by rw [e0, if_neg hn]) (Ev.now _))
end Go.Proofs.Ytpeacoppclmmlaa.PP

end

section
namespace Go.Proofs.Ytpeacoppclmmlaa.PP
open Go.RowKit Go.Proofs.YtpeacoppclmmlaaW.PrintWords Go.Proofs.YtpeacoppclmmlaaW.PrintMore
theorem live_rounds : grapevinelaw13_live.f 20 = some true := by decide +kernel
theorem live_ev : Ev (fun k => grapevinelaw13_live.f k) true := Ev.of grapevinelaw13_live.mono live_rounds
end Go.Proofs.Ytpeacoppclmmlaa.PP

end

section
set_option linter.unusedSimpArgs false
set_option linter.unusedVariables false
namespace Go.Proofs.Ytpeacoppclmmlaa.PP
open Go.RowKit Go.Proofs.YtpeacoppclmmlaaW.PrintWords Go.Proofs.YtpeacoppclmmlaaW.PrintMore

open Oct (uint uintN)

theorem uint_length (x : Int) : (uint x).length ≤ 10 ∧ 0 < (uint x).length := by
  have := Oct.uintN_length 9 x
  unfold uint
  omega
/-- The bytes of the spans behind a place. -/
def putL : Int → List Sp → List Int
  | _, [] => []
  | pe, s :: l => uint (s.f0 - pe - 1) ++ uint (s.f1 - s.f0) ++ [s.f2 % 256] ++ putL s.f1 l
theorem putL_length (l : List Sp) : ∀ pe, (putL pe l).length ≤ 21 * l.length := by
  induction l with
  | nil => intro pe; simp [putL]
  | cons s l ih =>
    intro pe
    have h1 := (uint_length (s.f0 - pe - 1)).1
    have h2 := (uint_length (s.f1 - s.f0)).1
    have h3 := ih s.f1
    simp only [putL, List.length_append, List.length_cons, List.length_nil]
    omega
theorem Put_ev_l {l : List Sp} (hl : l.length ≤ 256) : ∀ (m i : Nat) (out : List Int) (pe pi : Int), i + m = l.length → rightB pe pi (l.drop i) = true → 0 ≤ pe → pe ≤ 1099511627776 → (i = 0 → pe = 0) → (0 < i → pe = (rd_T43 l ((i - 1 : Nat) : Int)).f1) → out.length + 21 * m < 140737488355328 →
    Ev (fun k => span_Put.l0 k out pe l (l.length : Int) (i : Int)) (out ++ putL pe (l.drop i), 0) ∧ Ev (fun k => grapevineref08_Put.l0 k l out (i : Int)) (out ++ putL pe (l.drop i), 0) := by
  intro m
  induction m with
  | zero =>
    intro i out pe pi hi h hp hp' h0 h1 ho
    rw [List.drop_of_length_le (by omega)]
    simp only [putL, List.append_nil]
    constructor
    · refine Ev.done (fun k => ?_)
      simp only [span_Put.l0]
      rw [if_neg (by omega)]
    · refine Ev.done (fun k => ?_)
      simp only [grapevineref08_Put.l0]
      rw [if_neg (by omega)]
  | succ m ih =>
    intro i out pe pi hi h hp hp' h0 h1 ho
    have hlt : i < l.length := by omega
    rw [drop_rd l i hlt] at h ⊢
    generalize hs : rd_T43 l (i : Int) = s at h
    obtain ⟨⟨g1, g2, g3⟩, hr⟩ := rightB_cons.1 h
    have u1 := (uint_length (s.f0 - pe - 1)).1
    have u2 := (uint_length (s.f1 - s.f0)).1
    have hprev : 0 < i + 1 → s.f1 = (rd_T43 l ((i + 1 - 1 : Nat) : Int)).f1 := fun _ => by rw [Nat.add_sub_cancel, hs]
    have hroom : (out ++ uint (s.f0 - pe - 1) ++ uint (s.f1 - s.f0) ++ [s.f2 % 256]).length + 21 * m < 140737488355328 := by
      rw [List.length_append, List.length_append, List.length_append, List.length_singleton]
      omega
    obtain ⟨i1, i2⟩ := ih (i + 1) (out ++ uint (s.f0 - pe - 1) ++ uint (s.f1 - s.f0) ++ [s.f2 % 256]) s.f1 s.f2 (by omega) hr (by omega) (by omega) (fun h => by cases h) hprev hroom
    have ep : out ++ putL pe (s :: l.drop (i + 1)) = (out ++ uint (s.f0 - pe - 1) ++ uint (s.f1 - s.f0) ++ [s.f2 % 256]) ++ putL s.f1 (l.drop (i + 1)) := by simp [putL]
    rw [ep]
    have E1 := Oct.Uint_ev (s.f0 - pe - 1) (by omega) (by omega)
    have E2 := Oct.Uint_ev (s.f1 - s.f0) (by omega) (by omega)
    have p1 : out.length + (uint (s.f0 - pe - 1)).length < 140737488355328 := by omega
    have p2 : (out ++ uint (s.f0 - pe - 1)).length + (uint (s.f1 - s.f0)).length < 140737488355328 := by rw [List.length_append]; omega
    have p3 : (out ++ uint (s.f0 - pe - 1) ++ uint (s.f1 - s.f0)).length < 140737488355328 := by rw [List.length_append, List.length_append]; omega
    have q1 : (i : Int) < (l.length : Int) := by omega
    have q2 : (0 : Int) ≤ (i : Int) := by omega
    have qn : ¬ (i : Int) > 0 → pe = 0 := fun h => h0 (by omega)
    have qp : (i : Int) > 0 → pe = (rd_T43 l ((i - 1 : Nat) : Int)).f1 ∧ wrap64 ((i : Int) - 1) = ((i - 1 : Nat) : Int) ∧ (0 : Int) ≤ ((i - 1 : Nat) : Int) ∧ ((i - 1 : Nat) : Int) < (l.length : Int) := fun h => ⟨h1 (by omega), pred_wrap (by omega) (by omega), by omega, by omega⟩
    have w0 : pe = 0 → IntKind.u64.wrap (wrap64 ((wrap64 (s.f0)) - 1)) = s.f0 - pe - 1 := fun h => by
      rw [wrap_ok (x := s.f0) (by omega) (by omega), wrap_ok (by omega) (by omega), Oct.wrapu_ok (by omega) (by omega), h]; omega
    have w1 : IntKind.u64.wrap (wrap64 ((wrap64 (s.f0 - pe)) - 1)) = s.f0 - pe - 1 := by
      rw [wrap_ok (x := s.f0 - pe) (by omega) (by omega), wrap_ok (by omega) (by omega), Oct.wrapu_ok (by omega) (by omega)]
    have w2 : IntKind.u64.wrap (wrap64 (s.f1 - s.f0)) = s.f1 - s.f0 := by
      rw [wrap_ok (by omega) (by omega), Oct.wrapu_ok (by omega) (by omega)]
    have hw := cast_succ_wrap hlt (show l.length ≤ 9223372036854775807 from Nat.le_trans hl (by decide))
    constructor
    · apply Oct.Ev.succ
      simp only [span_Put.l0, if_pos q1, if_pos q2, hs, w1, w2, hw]
      refine Ev.bind E1.1 ?_
      simp only [if_pos p1, Option.bind_some]
      refine Ev.bind E2.1 ?_
      simp only [if_pos p2, Option.bind_some, if_pos p3]
      exact i1
    · apply Oct.Ev.succ
      simp only [grapevineref08_Put.l0, if_pos q1]
      by_cases c : (i : Int) > 0
      · obtain ⟨r1, r2, r3, r4⟩ := qp c
        simp only [if_pos c, r2, if_pos r3, if_pos r4, if_pos q2, hs, ← r1, w1, w2, hw]
        refine Ev.bind E1.2 ?_
        simp only [if_pos p1, Option.bind_some]
        refine Ev.bind E2.2 ?_
        simp only [if_pos p2, Option.bind_some, if_pos p3]
        exact i2
      · simp only [if_neg c, if_pos q2, hs, w0 (qn c), w2, hw]
        refine Ev.bind E1.2 ?_
        simp only [if_pos p1, Option.bind_some]
        refine Ev.bind E2.2 ?_
        simp only [if_pos p2, Option.bind_some, if_pos p3]
        exact i2
/-- What Put comes to. -/
def putR (l : List Sp) : List Int × Int := if rightB 0 0 l = true then (if (l.length : Int) > 256 then ([], 6) else (uint (l.length : Int) ++ putL 0 l, 0)) else ([], 2)
theorem Put_ev (l : List Sp) (hl : l.length ≤ 9223372036854775807) : Ev (fun k => span_Put.f k l) (putR l) ∧ Ev (fun k => grapevineref08_Put.f k l) (putR l) := by
  unfold putR
  by_cases c : rightB 0 0 l = true
  · by_cases c2 : (l.length : Int) > 256
    · rw [if_pos c, if_pos c2]
      exact ⟨Ev.bind (Right_ev l hl) (Ev.congr (fun k => by rw [if_pos c, if_pos c2]) (Ev.now _)), Ev.bind (RRight_ev l hl) (Ev.congr (fun k => by rw [if_pos c, if_pos c2]) (Ev.now _))⟩
    · rw [if_pos c, if_neg c2]
      have hu := (uint_length (l.length : Int)).1
      obtain ⟨i1, i2⟩ := Put_ev_l (l := l) (by omega) l.length 0 (uint (l.length : Int)) 0 0 (by omega) c (by omega) (by omega) (fun _ => rfl) (fun h => by omega) (by omega)
      have E := Oct.Uint_ev (l.length : Int) (by omega) (by omega)
      have w : IntKind.u64.wrap (l.length : Int) = (l.length : Int) := Oct.wrapu_ok (by omega) (by omega)
      constructor
      · refine Ev.bind (Right_ev l hl) ?_
        simp only [if_pos c, if_neg c2, w]
        exact Ev.bind E.1 i1
      · refine Ev.bind (RRight_ev l hl) ?_
        simp only [if_pos c, if_neg c2, w]
        exact Ev.bind E.2 i2
  · rw [if_neg c]
    exact ⟨Ev.bind (Right_ev l hl) (Ev.congr (fun k => by rw [if_neg c]) (Ev.now _)), Ev.bind (RRight_ev l hl) (Ev.congr (fun k => by rw [if_neg c]) (Ev.now _))⟩
end Go.Proofs.Ytpeacoppclmmlaa.PP

end

section
set_option linter.unusedSimpArgs false
set_option linter.unusedVariables false
namespace Go.Proofs.Ytpeacoppclmmlaa.PP
open Go.RowKit Go.Proofs.YtpeacoppclmmlaaW.PrintWords Go.Proofs.YtpeacoppclmmlaaW.PrintMore
open Oct (uint uintN)

/-- A number's bytes, as it stands in 64 bits. -/
def numB (n : Int) : List Int := uint (n % 18446744073709551616)
theorem numB_length (n : Int) : (numB n).length ≤ 10 := (uint_length _).1
def itemB (x : It) : List Int := numB x.f0 ++ numB (wrap64 x.f1) ++ numB (x.f2.length : Int) ++ x.f2
def itemsB : List It → List Int
  | [] => []
  | x :: l => itemB x ++ itemsB l
def tailB (kd : Int) (sp : List Sp) (it : List It) : List Int := if kd = 1 then (putR sp).1 ++ numB (it.length : Int) ++ itemsB it else []
def putB (kd pub sub n fr to_ : Int) (sp : List Sp) (it : List It) : List Int :=
  [kd % 256] ++ numB pub ++ (if 3 ≤ kd ∧ kd ≤ 6 then numB sub ++ numB n else []) ++ (if kd = 1 ∨ kd = 2 ∨ kd = 3 ∨ kd = 5 then numB fr else []) ++ (if kd = 1 ∨ kd = 2 then numB to_ else []) ++ tailB kd sp it
def putP (kd pub sub n fr to_ : Int) (sp : List Sp) (it : List It) : List Int × Int :=
  if chk kd pub sub n fr to_ sp it = 0 then (putB kd pub sub n fr to_ sp it, 0) else ([], chk kd pub sub n fr to_ sp it)
theorem Num_ev (out : List Int) (n : Int) (h : out.length < 140737488355000) : Ev (fun k => parcel_Put.num k out n) (out ++ numB n) := by
  unfold parcel_Put.num
  refine Ev.bind (Oct.Uint_ev _ (by omega) (by omega)).1 ?_
  have := numB_length n
  unfold numB at this
  exact Ev.congr (fun k => if_pos (by omega)) (Ev.now _)
/-! ### the items -/
def small (it : List It) : Prop := ∀ x ∈ it, x.f2.length ≤ 400
theorem Items2_ev : ∀ (it : List It) (out : List Int), small it → out.length + 430 * it.length < 140737488354000 → Ev (fun k => parcel_Put.items k out it) (out ++ itemsB it)
  | [], out, _, _ => by
    simp only [parcel_Put.items, itemsB, List.append_nil]
    exact Ev.now _
  | x :: l, out, hs, ho => by
    have hx : x.f2.length ≤ 400 := hs x (List.mem_cons_self ..)
    have h1 := numB_length x.f0
    have h2 := numB_length (wrap64 x.f1)
    have h3 := numB_length (x.f2.length : Int)
    rw [List.length_cons] at ho
    simp only [parcel_Put.items]
    refine Ev.bind (Num_ev _ _ (by omega)) (Ev.bind (Num_ev _ _ (by rw [List.length_append]; omega)) (Ev.bind (Num_ev _ _ (by rw [List.length_append, List.length_append]; omega)) ?_))
    have e : out ++ itemsB (x :: l) = (out ++ numB x.f0 ++ numB (wrap64 x.f1) ++ numB (x.f2.length : Int) ++ x.f2) ++ itemsB l := by simp [itemsB, itemB]
    rw [e]
    refine Ev.congr (fun k => if_pos (by simp only [List.length_append]; omega)) (Items2_ev l _ (fun y hy => hs y (List.mem_cons_of_mem _ hy)) (by simp only [List.length_append]; omega))
/-! ### what Check says -/
theorem itemsE_small {sp : List Sp} {to_ : Int} : ∀ {it : List It} {a : Int}, itemsE sp to_ a it = 0 → small it
  | [], _, _ => fun _ h => by cases h
  | x :: l, a, h => by
    simp only [itemsE] at h
    by_cases h1 : x.f0 ≤ a ∨ x.f0 > to_ ∨ atS sp x.f0 ≠ 0
    · rw [if_pos h1] at h; exact absurd h (by decide)
    rw [if_neg h1] at h
    by_cases h2 : (x.f2.length : Int) > 400
    · rw [if_pos h2] at h; exact absurd h (by decide)
    rw [if_neg h2] at h
    intro y hy
    rcases List.mem_cons.1 hy with rfl | hy
    · omega
    · exact itemsE_small h y hy
theorem chk_zero {kd pub sub n fr to_ : Int} {sp : List Sp} {it : List It} (h : chk kd pub sub n fr to_ sp it = 0) : 1 ≤ kd ∧ kd ≤ 6 ∧ numsOK kd pub sub n fr to_ ∧ (kd = 1 → sp.length ≤ 32 ∧ it.length ≤ 8 ∧ rightB 0 0 sp = true ∧ (∀ s ∈ sp, spanOK fr to_ s) ∧ itemsE sp to_ (fr - 1) it = 0) := by
  unfold chk at h
  by_cases h1 : kd < 1 ∨ kd > 6
  · rw [if_pos h1] at h; exact absurd h (by decide)
  rw [if_neg h1] at h
  by_cases h2 : ¬ numsOK kd pub sub n fr to_
  · rw [if_pos h2] at h; exact absurd h (by decide)
  rw [if_neg h2] at h
  refine ⟨by omega, by omega, Classical.byContradiction h2, fun hk => ?_⟩
  rw [if_neg (by omega)] at h
  by_cases h3 : (sp.length : Int) > 32 ∨ (it.length : Int) > 8
  · rw [if_pos h3] at h; exact absurd h (by decide)
  rw [if_neg h3] at h
  by_cases h4 : ¬ (rightB 0 0 sp = true)
  · rw [if_pos h4] at h; exact absurd h (by decide)
  rw [if_neg h4] at h
  by_cases h5 : ¬ (∀ s ∈ sp, spanOK fr to_ s)
  · rw [if_pos h5] at h; exact absurd h (by decide)
  rw [if_neg h5] at h
  exact ⟨by omega, by omega, Classical.byContradiction h4, Classical.byContradiction h5, h⟩
theorem putR_length {sp : List Sp} (h : sp.length ≤ 32) : (putR sp).1.length ≤ 700 := by
  unfold putR
  split
  · split
    · simp
    · have := (uint_length (sp.length : Int)).1
      have := putL_length sp 0
      simp only [List.length_append]
      omega
  · simp
/-! ### Put -/
theorem Tail_ev {kd pub sub n fr to_ : Int} {sp : List Sp} {it : List It} (h : chk kd pub sub n fr to_ sp it = 0) (o : List Int) (ho : o.length ≤ 100) :
    Ev (fun k => if kd = 1 then (span_Put.f k sp).bind fun s => if o.length + s.1.length < 140737488355328 then (parcel_Put.num k (o ++ s.1) (it.length : Int)).bind fun o2 => (parcel_Put.items k o2 it).bind fun o3 => some (o3, (0 : Int)) else none else some (o, 0)) (o ++ tailB kd sp it, 0) := by
  unfold tailB
  by_cases hk : kd = 1
  · obtain ⟨h1, h2, h3, h4, h5⟩ := (chk_zero h).2.2.2 hk
    have hp := putR_length h1
    have hn := numB_length (it.length : Int)
    refine Ev.congr (fun k => if_pos hk) ?_
    rw [if_pos hk]
    refine Ev.bind (Put_ev sp (by omega)).1 (Ev.congr (fun k => if_pos (by omega)) ?_)
    have e : o ++ ((putR sp).1 ++ numB (it.length : Int) ++ itemsB it) = (o ++ (putR sp).1 ++ numB (it.length : Int)) ++ itemsB it := by simp
    rw [e]
    exact Ev.bind (Num_ev _ _ (by rw [List.length_append]; omega)) (Ev.bind (Items2_ev it _ (itemsE_small h5) (by simp only [List.length_append]; omega)) (Ev.now _))
  · rw [if_neg hk, List.append_nil]
    exact Ev.congr (fun k => if_neg hk) (Ev.now _)
theorem Nums_ev : ∀ (ns o : List Int), o.length + 10 * ns.length ≤ 100 → Ev (fun k => parcel_Put.nums k o ns) (o ++ ns.flatMap numB)
  | [], o, _ => by
    simp only [parcel_Put.nums, List.flatMap_nil, List.append_nil]
    exact Ev.now _
  | n :: ns, o, h => by
    have := numB_length n
    rw [List.length_cons] at h
    simp only [parcel_Put.nums, List.flatMap_cons]
    rw [← List.append_assoc]
    exact Ev.bind (Num_ev _ _ (by omega)) (Nums_ev ns _ (by rw [List.length_append]; omega))
theorem PPut_ev (kd pub sub n fr to_ : Int) (sp : List Sp) (it : List It) : Ev (fun k => parcel_Put.f k kd pub sub n fr to_ sp it) (putP kd pub sub n fr to_ sp it) := by
  unfold putP parcel_Put.f
  refine Ev.bind (Check_ev kd pub sub n fr to_ sp it) ?_
  by_cases h : chk kd pub sub n fr to_ sp it = 0
  case neg =>
    rw [if_neg h]
    exact Ev.congr (fun k => if_neg h) (Ev.now _)
  rw [if_pos h]
  obtain ⟨h1, h2, h3, h4⟩ := chk_zero h
  refine Ev.congr (fun k => (if_pos h).trans (if_pos ⟨h1, h2⟩)) ?_
  have e : putB kd pub sub n fr to_ sp it = ([kd % 256] ++ ((flds kd).map (fld6 kd pub sub n fr to_)).flatMap numB) ++ tailB kd sp it := by
    unfold putB
    congr 1
    rcases (show kd = 1 ∨ kd = 2 ∨ kd = 3 ∨ kd = 4 ∨ kd = 5 ∨ kd = 6 by omega) with rfl | rfl | rfl | rfl | rfl | rfl <;> simp [flds, fld6]
  rw [e]
  have hl : (flds kd).length ≤ 4 := flds_len kd
  refine Ev.bind (Nums_ev _ _ (by rw [List.length_map, List.length_singleton]; omega)) (Tail_ev h _ ?_)
  have : ∀ l : List Int, (l.flatMap numB).length ≤ 10 * l.length := fun l => by
    induction l with
    | nil => simp
    | cons x l ih => have := numB_length x; simp only [List.flatMap_cons, List.length_append, List.length_cons]; omega
  have := this ((flds kd).map (fld6 kd pub sub n fr to_))
  rw [List.length_map] at this
  rw [List.length_append, List.length_singleton]
  omega
end Go.Proofs.Ytpeacoppclmmlaa.PP

end

section
set_option linter.unusedSimpArgs false
set_option linter.unusedVariables false
namespace Go.Proofs.Ytpeacoppclmmlaa.PP
open Go.RowKit Go.Proofs.YtpeacoppclmmlaaW.PrintWords Go.Proofs.YtpeacoppclmmlaaW.PrintMore Go.Proofs.Ytpeacoppclmmlaa.Open

def plainP (kd pub sub n fr to_ : Int) (sp : List Sp) (it : List It) : Int × Int × Int × Int × Int × Int × List Sp × List It :=
  (kd, if 1 ≤ kd ∧ kd ≤ 6 then pub else 0, if 3 ≤ kd ∧ kd ≤ 6 then sub else 0, if 3 ≤ kd ∧ kd ≤ 6 then n else 0, if kd = 1 ∨ kd = 2 ∨ kd = 3 ∨ kd = 5 then fr else 0, if kd = 1 ∨ kd = 2 then to_ else 0, if kd = 1 then sp else [], if kd = 1 then it else [])
section
variable {kd pub sub n fr to_ : Int} {sp : List Sp} {it : List It}
theorem PlainItems_ev (hi : it.length < 3518437208883) (hb : ∀ x ∈ it, x.f2.length < 140737488355328) (o0 o1 o2 o3 o4 o5 : Int) (os : List Sp) : ∀ (m i : Nat) (acc : List It), i + m = it.length → acc = it.take i →
    Ev (fun k => grapevineref13_Plain.l0 k (i : Int) kd pub sub n fr to_ sp it o0 o1 o2 o3 o4 o5 os acc) (o0, o1, o2, o3, o4, o5, os, it) := by
  intro m
  induction m with
  | zero =>
    intro i acc h ha
    refine Ev.done (fun k => ?_)
    simp only [grapevineref13_Plain.l0]
    rw [if_neg (by omega), ha, List.take_of_length_le (by omega)]
  | succ m ih =>
    intro i acc h ha
    have hlt : i < it.length := by omega
    have hm : rd_T62 it (i : Int) ∈ it := by rw [rdi_at it i hlt]; exact List.getElem_mem hlt
    have e : it.take (i + 1) = acc ++ [rd_T62 it (i : Int)] := by rw [ha, rdi_at it i hlt, List.take_succ_eq_append_getElem hlt]
    generalize hx : rd_T62 it (i : Int) = x at hm e
    have hxb := hb x hm
    have hal : acc.length ≤ i := by rw [ha, List.length_take]; omega
    refine Ev.step (f := fun k => grapevineref13_Plain.l0 k ((i + 1 : Nat) : Int) kd pub sub n fr to_ sp it o0 o1 o2 o3 o4 o5 os (acc ++ [x])) (fun k => ?_) (ih (i + 1) _ (by omega) e.symm)
    simp only [grapevineref13_Plain.l0, hx, Option.bind_some, List.nil_append, List.length_nil, Nat.zero_add]
    rw [if_pos (by omega), if_pos (by omega), if_pos hxb, if_pos (by omega), cast_succ_wrap hlt (by omega)]
theorem PlainK_ev (hk : kd = 1 → sp.length < 5864062014805 ∧ it.length < 3518437208883 ∧ ∀ x ∈ it, x.f2.length < 140737488355328) :
    Ev (fun k => grapevineref13_Plain.f k kd pub sub n fr to_ sp it) (plainP kd pub sub n fr to_ sp it) := by
  have J4 : ∀ o0 o1 o2 o3 o4 o5, Ev (fun k => grapevineref13_Plain.j4 k kd pub sub n fr to_ sp it o0 o1 o2 o3 o4 o5) (o0, o1, o2, o3, o4, o5, if kd = 1 then sp else [], if kd = 1 then it else []) := fun o0 o1 o2 o3 o4 o5 => by
    by_cases h : kd = 1
    · obtain ⟨hs, hi, hb⟩ := hk h
      rw [if_pos h, if_pos h]
      refine Ev.step (f := fun k => grapevineref13_Plain.l0 k ((0 : Nat) : Int) kd pub sub n fr to_ sp it o0 o1 o2 o3 o4 o5 sp []) (fun k => ?_) (PlainItems_ev hi hb o0 o1 o2 o3 o4 o5 sp it.length 0 [] (by omega) rfl)
      simp only [grapevineref13_Plain.j4]
      rw [if_pos h, if_pos (by simpa using hs)]
      rfl
    · rw [if_neg h, if_neg h]
      refine Ev.done (fun k => ?_)
      simp only [grapevineref13_Plain.j4]
      rw [if_neg h]
  have J3 : ∀ o0 o1 o2 o3 o4, Ev (fun k => grapevineref13_Plain.j3 k kd pub sub n fr to_ sp it o0 o1 o2 o3 o4 0) (o0, o1, o2, o3, o4, if kd = 1 ∨ kd = 2 then to_ else 0, if kd = 1 then sp else [], if kd = 1 then it else []) := fun o0 o1 o2 o3 o4 => by
    by_cases h : kd = 1 ∨ kd = 2
    · rw [if_pos h]
      refine Ev.step (fun k => ?_) (J4 o0 o1 o2 o3 o4 to_)
      simp only [grapevineref13_Plain.j3, ranged_eq, Option.bind_some, decide_eq_true h, if_true]
    · rw [if_neg h]
      refine Ev.step (fun k => ?_) (J4 o0 o1 o2 o3 o4 0)
      simp only [grapevineref13_Plain.j3, ranged_eq, Option.bind_some, decide_eq_false h, Bool.false_eq_true, if_false]
  have J2 : ∀ o0 o1 o2 o3, Ev (fun k => grapevineref13_Plain.j2 k kd pub sub n fr to_ sp it o0 o1 o2 o3 0 0) (o0, o1, o2, o3, if kd = 1 ∨ kd = 2 ∨ kd = 3 ∨ kd = 5 then fr else 0, if kd = 1 ∨ kd = 2 then to_ else 0, if kd = 1 then sp else [], if kd = 1 then it else []) := fun o0 o1 o2 o3 => by
    by_cases h : kd = 1 ∨ kd = 2 ∨ kd = 3 ∨ kd = 5
    · rw [if_pos h]
      refine Ev.step (fun k => ?_) (J3 o0 o1 o2 o3 fr)
      simp only [grapevineref13_Plain.j2, from_eq, Option.bind_some, decide_eq_true h, if_true]
    · rw [if_neg h]
      refine Ev.step (fun k => ?_) (J3 o0 o1 o2 o3 0)
      simp only [grapevineref13_Plain.j2, from_eq, Option.bind_some, decide_eq_false h, Bool.false_eq_true, if_false]
  have J1 : ∀ o0 o1, Ev (fun k => grapevineref13_Plain.j1 k kd pub sub n fr to_ sp it o0 o1 0 0 0 0) (o0, o1, if 3 ≤ kd ∧ kd ≤ 6 then sub else 0, if 3 ≤ kd ∧ kd ≤ 6 then n else 0, if kd = 1 ∨ kd = 2 ∨ kd = 3 ∨ kd = 5 then fr else 0, if kd = 1 ∨ kd = 2 then to_ else 0, if kd = 1 then sp else [], if kd = 1 then it else []) := fun o0 o1 => by
    by_cases h : 3 ≤ kd ∧ kd ≤ 6
    · rw [if_pos h, if_pos h]
      refine Ev.step (fun k => ?_) (J2 o0 o1 sub n)
      simp only [grapevineref13_Plain.j1, named_eq, Option.bind_some, decide_eq_true h, if_true]
    · rw [if_neg h, if_neg h]
      refine Ev.step (fun k => ?_) (J2 o0 o1 0 0)
      simp only [grapevineref13_Plain.j1, named_eq, Option.bind_some, decide_eq_false h, Bool.false_eq_true, if_false]
  have J0 : Ev (fun k => grapevineref13_Plain.j0 k (decide (1 ≤ kd ∧ kd ≤ 6)) kd pub sub n fr to_ sp it kd 0 0 0 0 0) (plainP kd pub sub n fr to_ sp it) := by
    unfold plainP
    by_cases h : 1 ≤ kd ∧ kd ≤ 6
    · rw [if_pos h]
      refine Ev.step (fun k => ?_) (J1 kd pub)
      simp only [grapevineref13_Plain.j0, decide_eq_true h, if_true]
    · rw [if_neg h]
      refine Ev.step (fun k => ?_) (J1 kd 0)
      simp only [grapevineref13_Plain.j0, decide_eq_false h, Bool.false_eq_true, if_false]
  refine Ev.congr (fun k => ?_) J0
  unfold grapevineref13_Plain.f
  rw [ranged_eq, Option.bind_some]
  by_cases h : kd = 1 ∨ kd = 2
  · rw [decide_eq_true h, if_pos rfl, decide_eq_true (by omega)]
  · rw [decide_eq_false h, if_neg (by simp), named_eq, Option.bind_some]
    congr 1
    exact decide_eq_decide.2 (by omega)
theorem Plain_ev (hs : sp.length < 5864062014805) (hi : it.length < 3518437208883) (hb : ∀ x ∈ it, x.f2.length < 140737488355328) :
    Ev (fun k => grapevineref13_Plain.f k kd pub sub n fr to_ sp it) (plainP kd pub sub n fr to_ sp it) := PlainK_ev (fun _ => ⟨hs, hi, hb⟩)
end
/-! ### sizes -/
end Go.Proofs.Ytpeacoppclmmlaa.PP

end
