/-
  PLAIN LAW: seals one behind the other are all found, behind bytes that are no mark; one more byte behind them is none.
-/
import Derived.Test.YtnbhlaoblnalpaaDoorGSealD
import Derived.Test.YtnbhlaoblnalpaaDoorGPEx7
set_option linter.unusedSimpArgs false
set_option linter.unusedVariables false
namespace Go.Proofs.YtnbhlaoblnalpaaDoor.PE
open Go.RowKit Go.Proofs.YtnbhlaoblnalpaaDoorW.PrintWords Go.Proofs.YtnbhlaoblnalpaaDoorW.PrintMore Go.Proofs.YtnbhlaoblnalpaaDoor.Crc

/-- Seals one behind the other, the first at a place: which they are. -/
inductive Chain : Nat → List Int → List S39 → Prop
  | nil {p : Nat} : Chain p [] []
  | cons {p : Nat} {kind : Int} {b R : List Int} {ws : List S39} : b.length ≤ 4096 → Chain (p + b.length + 8) R ws → Chain p (sealdS kind b ++ R) (⟨kind, (p : Int), b⟩ :: ws)
theorem Chain.snoc {kind : Int} {b : List Int} (hb : b.length ≤ 4096) : ∀ {p : Nat} {R : List Int} {ws : List S39}, Chain p R ws → ∀ {q : Nat}, q = p + R.length → Chain p (R ++ sealdS kind b) (ws ++ [⟨kind, (q : Int), b⟩])
  | p, _, _, .nil, q, hq => by
    simp only [List.length_nil, Nat.add_zero] at hq
    subst hq
    have h := Chain.cons (p := q) (kind := kind) (b := b) (R := []) (ws := []) hb .nil
    simpa using h
  | p, _, _, .cons (kind := k2) (b := b2) (R := R) (ws := ws) h1 h2, q, hq => by
    have h := Chain.snoc (kind := kind) hb h2 (q := q) (by rw [hq, List.length_append, sealdS_length]; omega)
    have h3 := Chain.cons (p := p) (kind := k2) (b := b2) h1 h
    simpa [List.append_assoc] using h3

theorem Chain.empty {p : Nat} {R : List Int} {ws : List S39} (h : Chain p R ws) (e : R = []) : ws = [] := by
  cases h with
  | nil => rfl
  | cons h1 h2 =>
    rename_i kind b R ws
    have := congrArg List.length e
    rw [List.length_append, sealdS_length] at this
    simp at this
theorem openT_nomark {y : Int} {t : List Int} (a : Int) (h : y ≠ 167) : (openT (y :: t) a).2.2 ≠ 0 := by
  unfold openT
  rw [if_neg (by simp), rd_cons0, if_pos h]
  simp
theorem openT_one (a : Int) : (openT [167] a).2.2 ≠ 0 := by
  unfold openT
  rw [if_neg (by simp), rd_cons0, if_neg (by simp), if_pos (by simp)]
  simp
theorem scan_all {l : List Int} : ∀ (d : Nat) (N R T : List Int) (ws out : List S39) (n : Int) (a : Nat), (∀ y ∈ N, y ≠ 167) → Chain (a + N.length) R ws → (T = [] ∨ T = [167]) → l.drop a = N ++ R ++ T → a + (N ++ R ++ T).length = l.length → (N ++ R ++ T).length ≤ d →
    scanR l d out n (a : Int) = (out ++ ws, n + N.length + T.length, 0) := by
  intro d
  induction d with
  | zero =>
    intro N R T ws out n a hN hC hT hd hl hm
    have h0 : N ++ R ++ T = [] := List.eq_nil_of_length_eq_zero (by omega)
    simp only [List.append_eq_nil_iff] at h0
    obtain ⟨⟨rfl, rfl⟩, rfl⟩ := h0
    rw [hC.empty rfl]
    simp [scanR]
  | succ d ih =>
    intro N R T ws out n a hN hC hT hd hl hm
    have hopen : openR l (a : Int) = openT (N ++ R ++ T) (a : Int) := by
      unfold openR
      rw [if_neg (by omega), Int.toNat_natCast, hd]
    cases N with
    | cons y N =>
      simp only [List.cons_append, List.length_cons] at hd hl hm hopen hC
      have hk : ¬ (openR l (a : Int)).2.2 = 0 := by rw [hopen]; exact openT_nomark _ (hN y (by simp))
      have h := ih N R T ws out (n + 1) (a + 1) (fun z hz => hN z (by simp [hz])) (by rw [show a + 1 + N.length = a + (N.length + 1) by omega]; exact hC) hT (by rw [← List.drop_drop, hd]; rfl) (by omega) (by omega)
      simp only [scanR, if_pos (show (a : Int) < (l.length : Int) by omega), if_neg hk]
      rw [show ((a : Int) + 1) = ((a + 1 : Nat) : Int) by omega, h]
      simp only [List.length_cons, Prod.mk.injEq, true_and, and_true]
      omega
    | nil =>
      simp only [List.nil_append, List.length_nil, Nat.add_zero] at hd hl hm hopen hC
      cases hC with
      | nil =>
        simp only [List.nil_append] at hd hl hm hopen
        rcases hT with rfl | rfl
        · simp only [List.length_nil] at hl
          simp only [scanR, if_neg (show ¬ (a : Int) < (l.length : Int) by omega)]
          simp
        · have hk : ¬ (openR l (a : Int)).2.2 = 0 := by rw [hopen]; exact openT_one _
          simp only [List.length_cons, List.length_nil] at hl
          have h := ih [] [] [] [] out (n + 1) (a + 1) (fun z hz => by simp at hz) .nil (.inl rfl) (by rw [← List.drop_drop, hd]; rfl) (by simp; omega) (by simp)
          simp only [scanR, if_pos (show (a : Int) < (l.length : Int) by omega), if_neg hk]
          rw [show ((a : Int) + 1) = ((a + 1 : Nat) : Int) by omega, h]
          simp
      | cons h1 h2 =>
        rename_i kind b R ws
        have hlen := sealdS_length kind b
        simp only [List.append_assoc, List.length_append, hlen] at hd hl hm hopen
        have ho : openR l (a : Int) = ((kind, (a : Int), b), (a : Int) + b.length + 8, 0) := by rw [hopen]; exact open_seald _ _ h1
        have h := ih [] R T ws (out ++ [⟨kind, (a : Int), b⟩]) n (a + b.length + 8) (fun z hz => by simp at hz) (by simpa using h2) hT
          (by
            rw [show a + b.length + 8 = a + (b.length + 8) by omega, ← List.drop_drop, hd, ← hlen, List.drop_append_of_le_length (Nat.le_refl _), List.drop_length]
            rfl)
          (by simp only [List.nil_append, List.length_append]; omega) (by simp only [List.nil_append, List.length_append]; omega)
        simp only [scanR, if_pos (show (a : Int) < (l.length : Int) by omega), ho, if_true]
        rw [show (a : Int) + (b.length : Int) + 8 = ((a + b.length + 8 : Nat) : Int) by omega, h]
        simp
end Go.Proofs.YtnbhlaoblnalpaaDoor.PE
