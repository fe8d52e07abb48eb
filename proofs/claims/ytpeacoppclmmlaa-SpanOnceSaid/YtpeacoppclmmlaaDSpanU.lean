/-
  PLAIN LAW: what Put writes Take reads back; what Take reads is what Put writes.
-/
import Derived.Test.YtpeacoppclmmlaaDSpanT
set_option linter.unusedSimpArgs false
set_option linter.unusedVariables false
namespace Go.Proofs.Ytpeacoppclmmlaa.PS
open Go.RowKit Go.Proofs.YtpeacoppclmmlaaW.PrintWords Go.Proofs.YtpeacoppclmmlaaW.PrintMore Go.Proofs.Ytpeacoppclmmlaa.Open
open Oct (uint uintN tk takeU Bytes)

/-! ### numbers -/
theorem tk_canon : ∀ {r : List Int} {n : Int} {i : Nat} {p v q : Int}, Bytes r → i ≤ 9 → tk r n i p = (v, q, 0) →
    ∃ w, 0 ≤ w ∧ v = n + w * 128 ^ i ∧ (0 < i → 0 < w) ∧ r.take (q - p).toNat = uintN (9 - i) w := by
  intro r
  induction r with
  | nil => intro n i p v q _ _ h; simp [tk] at h
  | cons x r ih =>
    intro n i p v q hb hi h
    have hx := hb x (by simp)
    have hb' : Bytes r := fun y hy => hb y (by simp [hy])
    simp only [tk] at h
    by_cases c9 : i = 9 ∧ x > 1
    · rw [if_pos c9] at h; simp at h
    rw [if_neg c9] at h
    by_cases c : x ≥ 128
    · rw [if_pos c] at h
      have hi8 : i ≤ 8 := by
        rcases Nat.lt_or_ge i 9 with h | h
        · omega
        · exact absurd ⟨by omega, by omega⟩ c9
      obtain ⟨w, w0, w1, w2, w3⟩ := ih hb' (show i + 1 ≤ 9 by omega) h
      have w4 := w2 (by omega)
      have hq : p + 1 < q := by
        have : 0 < (uintN (9 - (i + 1)) w).length := (Oct.uintN_length _ _).2
        rw [← w3, List.length_take] at this
        omega
      refine ⟨x % 128 + 128 * w, by omega, ?_, fun _ => by omega, ?_⟩
      · rw [w1, Int.pow_succ, Int.add_mul, Int.mul_assoc, Int.mul_comm (128 : Int) (w * 128 ^ i), Int.mul_assoc, Int.add_assoc]
      · rw [show (q - p).toNat = (q - (p + 1)).toNat + 1 from by omega, List.take_succ_cons, w3, show 9 - i = (9 - (i + 1)) + 1 from by omega]
        simp only [uintN]
        rw [if_pos (by omega), show (x % 128 + 128 * w) % 128 + 128 = x from by omega, show (x % 128 + 128 * w) / 128 = w from by omega]
    · rw [if_neg c] at h
      by_cases cz : x = 0 ∧ i > 0
      · rw [if_pos cz] at h; simp at h
      · rw [if_neg cz] at h
        simp only [Prod.mk.injEq, and_true] at h
        obtain ⟨h1, h2⟩ := h
        subst h1; subst h2
        refine ⟨x % 128, by omega, rfl, fun hh => by omega, ?_⟩
        rw [show (p + 1 - p).toNat = 0 + 1 from by omega, List.take_succ_cons, List.take_zero]
        have e : uintN (9 - i) (x % 128) = [x] := by
          cases 9 - i with
          | zero => simp only [uintN]; rw [show x % 128 % 256 = x from by omega]
          | succ j => simp only [uintN]; rw [if_neg (by omega), show x % 128 % 256 = x from by omega]
        rw [e]
theorem takeU_canon {b : List Int} (hb : Bytes b) {t v q : Int} (h : takeU b t = (v, q, 0)) : (b.drop t.toNat).take (q - t).toNat = uint v := by
  unfold takeU at h
  by_cases c : t < 0 ∨ t > b.length
  · rw [if_pos c] at h; simp at h
  · rw [if_neg c] at h
    obtain ⟨w, w0, w1, w2, w3⟩ := tk_canon (Oct.bytes_drop hb t.toNat) (by omega) h
    rw [w3, w1]
    simp [uint]
/-! ### maps -/
theorem takeS_length : ∀ (m : Nat) (b : List Int) (pos : Int) (out : List Sp) (pe pi : Int), (takeS m b pos out pe pi).1.length ≤ out.length + m := by
  intro m
  induction m with
  | zero => intros; exact Nat.le_refl _
  | succ m ih =>
    intro b pos out pe pi
    simp only [takeS]
    repeat' split
    all_goals first
      | exact Nat.zero_le _
      | (refine Nat.le_trans (ih _ _ _ _ _) ?_
         rw [List.length_append, List.length_singleton]
         omega)
theorem takeR_length {b : List Int} (hb : Bytes b) (t : Int) : (takeR b t).1.length ≤ 256 := by
  obtain ⟨A1, A2⟩ := takeU_ok hb t
  unfold takeR
  split
  · rename_i h
    split
    · exact Nat.zero_le _
    · refine Nat.le_trans (takeS_length _ _ _ _ _ _) ?_
      rw [List.length_nil]
      omega
  · exact Nat.zero_le _
theorem takeS_canon {b : List Int} (hb : Bytes b) : ∀ (m : Nat) (pos : Int) (out : List Sp) (pe pi : Int) (r : List Sp) (q : Int), 0 ≤ pos → pos ≤ b.length → rightB 0 0 out = true → pe = lastE 0 out → pi = lastI 0 out → takeS m b pos out pe pi = (r, q, 0) →
    rightB 0 0 r = true ∧ r.length = out.length + m ∧ pos ≤ q ∧ q ≤ b.length ∧ ∃ l, r = out ++ l ∧ (b.drop pos.toNat).take (q - pos).toNat = putL pe l := by
  intro m
  induction m with
  | zero =>
    intro pos out pe pi r q h0 h1 hr hpe hpi h
    simp only [takeS, Prod.mk.injEq, and_true] at h
    obtain ⟨rfl, rfl⟩ := h
    exact ⟨hr, rfl, Int.le_refl _, h1, [], by simp, by simp [putL]⟩
  | succ m ih =>
    intro pos out pe pi r q h0 h1 hr hpe hpi h
    obtain ⟨A1, A2⟩ := takeU_ok hb pos
    simp only [takeS] at h
    have hA := fun v q => takeU_canon hb (t := pos) (v := v) (q := q)
    generalize takeU b pos = a at A1 A2 h hA
    obtain ⟨v, p, e⟩ := a
    simp only at A1 A2 h
    by_cases c1 : e = 0
    case neg => rw [if_neg c1] at h; simp only [Prod.mk.injEq] at h; exact absurd h.2.2 c1
    subst c1
    simp only [if_true] at h
    obtain ⟨a1, a2, a3, a4, a5⟩ := A1 rfl
    have hA := hA v p rfl
    obtain ⟨B1, B2⟩ := takeU_ok hb p
    have hB := fun v q => takeU_canon hb (t := p) (v := v) (q := q)
    generalize takeU b p = a at B1 B2 h hB
    obtain ⟨w, p2, f⟩ := a
    simp only at B1 B2 h
    by_cases c2 : f = 0
    case neg => rw [if_neg c2] at h; simp only [Prod.mk.injEq] at h; exact absurd h.2.2 c2
    subst c2
    simp only [if_true] at h
    obtain ⟨b1, b2, b3, b4, b5⟩ := B1 rfl
    have hB := hB w p2 rfl
    by_cases c3 : p2 ≥ b.length
    · rw [if_pos c3] at h; simp at h
    rw [if_neg c3] at h
    by_cases c4 : pe + v + w + 1 > 1099511627776
    · rw [if_pos c4] at h; simp at h
    rw [if_neg c4] at h
    by_cases c5 : rd b p2 < 1 ∨ rd b p2 > 3
    · rw [if_pos c5] at h; simp at h
    rw [if_neg c5] at h
    by_cases c6 : v = 0 ∧ rd b p2 = pi
    · rw [if_pos c6] at h; simp at h
    rw [if_neg c6] at h
    have hpe0 := (lastE_ge hr).1
    have hrd := Oct.rd_drop b p2.toNat (by omega)
    rw [show ((p2.toNat : Nat) : Int) = p2 from by omega] at hrd
    generalize hx : rd b p2 = x at *
    have hr2 : rightB 0 0 (out ++ [⟨pe + 1 + v, pe + 1 + v + w, x⟩]) = true := (right_snoc _ _ _ _).2 ⟨hr, okS_iff.2 (by simp only; rw [← hpe, ← hpi]; omega)⟩
    obtain ⟨i1, i2, i3, i4, l, i5, i6⟩ := ih (p2 + 1) _ _ _ r q (by omega) (by omega) hr2 (by rw [lastE_snoc]) (by rw [lastI_snoc]) h
    refine ⟨i1, by rw [i2, List.length_append, List.length_singleton]; omega, by omega, i4, ⟨pe + 1 + v, pe + 1 + v + w, x⟩ :: l, by rw [i5]; simp, ?_⟩
    simp only [putL]
    rw [← i6, show pe + 1 + v - pe - 1 = v from by omega, show pe + 1 + v + w - (pe + 1 + v) = w from by omega, ← hA, ← hB, show x % 256 = x from by omega]
    have g1 : (q - pos).toNat = (p - pos).toNat + ((p2 - p).toNat + (1 + (q - (p2 + 1)).toNat)) := by omega
    rw [g1, List.take_add, List.drop_drop, show pos.toNat + (p - pos).toNat = p.toNat from by omega, List.take_add, List.drop_drop, show p.toNat + (p2 - p).toNat = p2.toNat from by omega, List.take_add, List.drop_drop, hrd, show (p2 + 1).toNat = p2.toNat + 1 from by omega]
    simp
/-- WHAT TAKE READS IS WHAT PUT WRITES. -/
theorem put_take {b : List Int} (hb : Bytes b) {l : List Sp} {q : Int} (h : takeR b 0 = (l, q, 0)) :
    rightB 0 0 l = true ∧ 0 ≤ q ∧ q ≤ b.length ∧ putR l = (b.take q.toNat, 0) ∧ ((b.take q.toNat).length : Int) = q := by
  obtain ⟨A1, A2⟩ := takeU_ok hb 0
  have hA := fun v q => takeU_canon hb (t := 0) (v := v) (q := q)
  unfold takeR at h
  generalize takeU b 0 = a at A1 A2 h hA
  obtain ⟨v, p, e⟩ := a
  simp only at A1 A2 h
  by_cases c1 : e = 0
  case neg => rw [if_neg c1] at h; simp only [Prod.mk.injEq] at h; exact absurd h.2.2 c1
  subst c1
  simp only [if_true] at h
  obtain ⟨a1, a2, a3, a4, a5⟩ := A1 rfl
  have hA := hA v p rfl
  by_cases c2 : v > 256
  · rw [if_pos c2] at h; simp at h
  rw [if_neg c2] at h
  obtain ⟨i1, i2, i3, i4, l', i5, i6⟩ := takeS_canon hb v.toNat p [] 0 0 l q (by omega) (by omega) rfl rfl rfl h
  rw [List.nil_append] at i5
  subst i5
  rw [List.length_nil, Nat.zero_add] at i2
  refine ⟨i1, by omega, i4, ?_, by rw [List.length_take]; omega⟩
  unfold putR
  rw [if_pos i1, if_neg (by omega), ← i6, show (l.length : Int) = v from by omega, ← hA]
  have g1 : q.toNat = (p - 0).toNat + (q - p).toNat := by omega
  rw [g1, List.take_add, Int.toNat_zero, List.drop_zero, show (p - 0).toNat = p.toNat from by omega]
end Go.Proofs.Ytpeacoppclmmlaa.PS
