/-
  PLAIN LAW: what Put writes Take reads back; what Take reads is what Put writes.
-/
import Derived.Test.YtpeacoppclmmlaaCSpanT
set_option linter.unusedSimpArgs false
set_option linter.unusedVariables false
namespace Go.Proofs.Ytpeacoppclmmlaa.PS
open Go.RowKit Go.Proofs.YtpeacoppclmmlaaW.PrintWords Go.Proofs.YtpeacoppclmmlaaW.PrintMore Go.Proofs.Ytpeacoppclmmlaa.Open
open Oct (uint uintN tk takeU Bytes)

/-! ### numbers -/
theorem tk_uintN (r : List Int) : ∀ (j i : Nat) (w n p : Int), i + j = 9 → 0 ≤ w → (0 < i → 0 < w) → 0 ≤ n → w < 128 ^ (j + 1) → (i = 9 → w ≤ 1) → (i < 9 → w < 2 * 128 ^ j) →
    tk (uintN j w ++ r) n i p = (n + w * 128 ^ i, p + (uintN j w).length, 0) := by
  intro j
  induction j with
  | zero =>
    intro i w n p hi h0 h1 hn hw h9 h8
    have := h9 (by omega)
    simp only [uintN, List.cons_append, List.nil_append, tk]
    have e : w % 256 = w := by omega
    rw [e, if_neg (by omega), if_neg (by omega), if_neg (by omega), show w % 128 = w from by omega]
    simp
  | succ j ih =>
    intro i w n p hi h0 h1 hn hw h9 h8
    simp only [uintN]
    by_cases c : w ≥ 128
    · rw [if_pos c]
      simp only [List.cons_append, tk]
      have hpj := Oct.pow_pos j
      have e1 : w < 128 ^ (j + 1) * 128 := by rw [← Int.pow_succ]; exact hw
      have e2 : w < 2 * (128 ^ j * 128) := by rw [← Int.pow_succ]; exact h8 (by omega)
      have hb9 : i + 1 = 9 → w / 128 ≤ 1 := fun h => by
        have : j = 0 := by omega
        subst this
        have e2 : w < 2 * (1 * 128) := by simpa using e2
        omega
      rw [if_neg (by omega), if_pos (by omega), ih (i + 1) (w / 128) _ (p + 1) (by omega) (by omega) (fun _ => by omega) (Int.add_nonneg hn (Int.mul_nonneg (by omega) (Int.le_of_lt (Oct.pow_pos i)))) (by omega) hb9 (fun _ => by omega)]
      rw [show (w % 128 + 128) % 128 = w % 128 from by omega, List.length_cons]
      have e3 : n + w % 128 * 128 ^ i + w / 128 * 128 ^ (i + 1) = n + w * 128 ^ i := by
        have : w * 128 ^ i = (w % 128 + w / 128 * 128) * 128 ^ i := by rw [show w % 128 + w / 128 * 128 = w from by omega]
        rw [this, Int.add_mul, Int.pow_succ, Int.mul_comm (128 ^ i) 128, ← Int.mul_assoc, Int.add_assoc]
      rw [e3]
      refine Prod.ext rfl (Prod.ext ?_ rfl)
      show p + 1 + ((uintN j (w / 128)).length : Int) = p + (((uintN j (w / 128)).length + 1 : Nat) : Int)
      omega
    · rw [if_neg c]
      simp only [List.cons_append, List.nil_append, tk]
      have e : w % 256 = w := by omega
      rw [e, if_neg (by omega), if_neg c, if_neg (by omega), show w % 128 = w from by omega]
      simp
theorem takeU_uint {b r : List Int} {t x : Int} (ht : 0 ≤ t) (htl : t ≤ b.length) (h : b.drop t.toNat = uint x ++ r) (h0 : 0 ≤ x) (h1 : x < 18446744073709551616) : takeU b t = (x, t + (uint x).length, 0) := by
  unfold takeU
  rw [if_neg (by omega), h]
  have p10 : (128 : Int) ^ (9 + 1) = 1180591620717411303424 := by decide
  have p9 : (128 : Int) ^ 9 = 9223372036854775808 := by decide
  have := tk_uintN r 9 0 x 0 t (by omega) h0 (fun h => by omega) (by omega) (by omega) (fun h => by omega) (fun _ => by omega)
  unfold uint
  rw [this]
  simp

/-! ### maps -/
theorem takeS_length : ∀ (m : Nat) (b : List Int) (pos : Int) (out : List Sp) (pe pi : Int), (takeS m b pos out pe pi).1.length ≤ out.length + m := by
  intro m
  induction m with
  | zero => intros; exact Nat.le_refl _
  | succ m ih =>
    intro b pos out pe pi
    simp only [takeS]
    repeat' split
    all_goals first
      | exact Nat.zero_le _
      | (refine Nat.le_trans (ih _ _ _ _ _) ?_
         rw [List.length_append, List.length_singleton]
         omega)
theorem takeR_length {b : List Int} (hb : Bytes b) (t : Int) : (takeR b t).1.length ≤ 256 := by
  obtain ⟨A1, A2⟩ := takeU_ok hb t
  unfold takeR
  split
  · rename_i h
    split
    · exact Nat.zero_le _
    · refine Nat.le_trans (takeS_length _ _ _ _ _ _) ?_
      rw [List.length_nil]
      omega
  · exact Nat.zero_le _
theorem takeS_put {b : List Int} (hb : Bytes b) (r : List Int) : ∀ (l : List Sp) (pos : Int) (out : List Sp) (pe pi : Int), 0 ≤ pos → pos ≤ b.length → rightB pe pi l = true → 0 ≤ pe → pe ≤ 1099511627776 → b.drop pos.toNat = putL pe l ++ r →
    takeS l.length b pos out pe pi = (out ++ l, pos + (putL pe l).length, 0) := by
  intro l
  induction l with
  | nil => intro pos out pe pi h0 h1 hr hp hp' h; simp [takeS, putL]
  | cons s l ih =>
    intro pos out pe pi h0 h1 hr hp hp' h
    obtain ⟨⟨g1, g2, g3⟩, hr'⟩ := rightB_cons.1 hr
    have hd0 : b.drop pos.toNat = uint (s.f0 - pe - 1) ++ (uint (s.f1 - s.f0) ++ ([s.f2 % 256] ++ (putL s.f1 l ++ r))) := by rw [h]; simp [putL]
    have e1 := takeU_uint h0 h1 hd0 (by omega) (by omega)
    have L1 := congrArg List.length hd0
    simp only [List.length_drop, List.length_append, List.length_singleton] at L1
    have hd1 : b.drop (pos + ((uint (s.f0 - pe - 1)).length : Int)).toNat = uint (s.f1 - s.f0) ++ ([s.f2 % 256] ++ (putL s.f1 l ++ r)) := by
      rw [show (pos + ((uint (s.f0 - pe - 1)).length : Int)).toNat = pos.toNat + (uint (s.f0 - pe - 1)).length from by omega, ← List.drop_drop, hd0, List.drop_left]
    have e2 := takeU_uint (t := pos + ((uint (s.f0 - pe - 1)).length : Int)) (by omega) (by omega) hd1 (by omega) (by omega)
    have hd2 : b.drop (pos + ((uint (s.f0 - pe - 1)).length : Int) + ((uint (s.f1 - s.f0)).length : Int)).toNat = [s.f2 % 256] ++ (putL s.f1 l ++ r) := by
      rw [show (pos + ((uint (s.f0 - pe - 1)).length : Int) + ((uint (s.f1 - s.f0)).length : Int)).toNat = (pos + ((uint (s.f0 - pe - 1)).length : Int)).toNat + (uint (s.f1 - s.f0)).length from by omega, ← List.drop_drop, hd1, List.drop_left]
    have hrd := Oct.rd_drop b (pos + ((uint (s.f0 - pe - 1)).length : Int) + ((uint (s.f1 - s.f0)).length : Int)).toNat (by omega)
    rw [hd2, List.singleton_append, List.cons.injEq] at hrd
    obtain ⟨hx, hd3⟩ := hrd
    rw [show (((pos + ((uint (s.f0 - pe - 1)).length : Int) + ((uint (s.f1 - s.f0)).length : Int)).toNat : Nat) : Int) = pos + ((uint (s.f0 - pe - 1)).length : Int) + ((uint (s.f1 - s.f0)).length : Int) from by omega, show s.f2 % 256 = s.f2 from by omega] at hx
    rw [List.length_cons]
    simp only [takeS, e1, e2, ← hx, if_true]
    rw [if_neg (by omega), if_neg (by omega), if_neg (by omega), if_neg (by omega)]
    rw [show pe + 1 + (s.f0 - pe - 1) = s.f0 from by omega, show s.f0 + (s.f1 - s.f0) = s.f1 from by omega]
    rw [ih (pos + ((uint (s.f0 - pe - 1)).length : Int) + ((uint (s.f1 - s.f0)).length : Int) + 1) _ s.f1 s.f2 (by omega) (by omega) hr' (by omega) (by omega) (by
      rw [show (pos + ((uint (s.f0 - pe - 1)).length : Int) + ((uint (s.f1 - s.f0)).length : Int) + 1).toNat = (pos + ((uint (s.f0 - pe - 1)).length : Int) + ((uint (s.f1 - s.f0)).length : Int)).toNat + 1 from by omega, ← hd3])]
    refine Prod.ext (by simp) (Prod.ext ?_ rfl)
    simp only [putL, List.length_append, List.length_singleton]
    omega
/-- WHAT PUT WRITES, TAKE READS BACK. -/
theorem take_put {b r : List Int} (hb : Bytes b) {l : List Sp} {t : Int} (h0 : 0 ≤ t) (h1 : t ≤ b.length) (hr : rightB 0 0 l = true) (hl : l.length ≤ 256) (h : b.drop t.toNat = uint (l.length : Int) ++ putL 0 l ++ r) :
    takeR b t = (l, t + ((uint (l.length : Int)).length : Int) + ((putL 0 l).length : Int), 0) := by
  rw [List.append_assoc] at h
  have e1 := takeU_uint h0 h1 h (by omega) (by omega)
  have L1 := congrArg List.length h
  simp only [List.length_drop, List.length_append] at L1
  unfold takeR
  rw [e1]
  simp only [if_true]
  rw [if_neg (by omega), show ((l.length : Int)).toNat = l.length from by omega, takeS_put hb r l _ [] 0 0 (by omega) (by omega) hr (by omega) (by omega) (by
    rw [show (t + ((uint (l.length : Int)).length : Int)).toNat = t.toNat + (uint (l.length : Int)).length from by omega, ← List.drop_drop, h, List.drop_left])]
  simp
end Go.Proofs.Ytpeacoppclmmlaa.PS
