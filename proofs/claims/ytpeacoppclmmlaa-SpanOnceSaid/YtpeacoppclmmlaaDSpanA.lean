/-
  PLAIN LAW: maps of spans. What is known of a tick; right maps; two right maps that know the same are the same; a span put at a right map's end.
-/
import Derived.Test.YtpeacoppclmmlaaDPSx0
namespace Go.Proofs.Ytpeacoppclmmlaa.PS
open Go.RowKit Go.Proofs.YtpeacoppclmmlaaW.PrintWords

abbrev Sp := S43
def okS (pe pi : Int) (s : Sp) : Prop := (1 ≤ s.f2 ∧ s.f2 ≤ 3 ∧ 1 ≤ s.f0 ∧ s.f0 ≤ s.f1 ∧ s.f1 ≤ 1099511627776) ∧ pe < s.f0 ∧ ¬ (s.f0 = pe + 1 ∧ s.f2 = pi)
instance (pe pi : Int) (s : Sp) : Decidable (okS pe pi s) := by unfold okS; infer_instance
theorem okS_iff {pe pi : Int} {s : Sp} : okS pe pi s ↔ ((1 ≤ s.f2 ∧ s.f2 ≤ 3 ∧ 1 ≤ s.f0 ∧ s.f0 ≤ s.f1 ∧ s.f1 ≤ 1099511627776) ∧ pe < s.f0 ∧ ¬ (s.f0 = pe + 1 ∧ s.f2 = pi)) := Iff.rfl
def rightB : Int → Int → List Sp → Bool
  | _, _, [] => true
  | pe, pi, s :: l => decide (okS pe pi s) && rightB s.f1 s.f2 l
theorem rightB_cons {pe pi : Int} {s : Sp} {l : List Sp} : rightB pe pi (s :: l) = true ↔ okS pe pi s ∧ rightB s.f1 s.f2 l = true := by
  simp [rightB, Bool.and_eq_true]
/-! ### a map's end -/
def lastE (pe : Int) : List Sp → Int
  | [] => pe
  | s :: l => lastE s.f1 l
def lastI (pi : Int) : List Sp → Int
  | [] => pi
  | s :: l => lastI s.f2 l
theorem lastE_snoc (l : List Sp) (s : Sp) : ∀ pe, lastE pe (l ++ [s]) = s.f1 := by
  induction l with
  | nil => intro; rfl
  | cons x l ih => intro pe; exact ih _
theorem lastI_snoc (l : List Sp) (s : Sp) : ∀ pi, lastI pi (l ++ [s]) = s.f2 := by
  induction l with
  | nil => intro; rfl
  | cons x l ih => intro pe; exact ih _
theorem right_snoc (l : List Sp) (s : Sp) : ∀ pe pi, rightB pe pi (l ++ [s]) = true ↔ rightB pe pi l = true ∧ okS (lastE pe l) (lastI pi l) s := by
  induction l with
  | nil => intro pe pi; simp [rightB, lastE, lastI]
  | cons x l ih =>
    intro pe pi
    rw [List.cons_append, rightB_cons, rightB_cons, ih]
    simp only [lastE, lastI, and_assoc]
theorem lastE_ge {l : List Sp} : ∀ {pe pi : Int}, rightB pe pi l = true → pe ≤ lastE pe l ∧ (lastE pe l ≤ 1099511627776 ∨ l = []) := by
  induction l with
  | nil => intros; exact ⟨Int.le_refl _, .inr rfl⟩
  | cons s l ih =>
    intro pe pi h
    obtain ⟨⟨h1, h2, h3⟩, hr⟩ := rightB_cons.1 h
    have := ih hr
    simp only [lastE]
    refine ⟨by omega, .inl ?_⟩
    rcases this.2 with h | h
    · exact h
    · subst h; simp only [lastE]; omega
/-! ### reading by places -/
theorem rd_at (l : List Sp) (i : Nat) (h : i < l.length) : rd_T43 l (i : Int) = l[i] := by
  unfold rd_T43
  rw [Int.toNat_natCast, List.getD_eq_getElem?_getD, List.getElem?_eq_getElem h]
  rfl
theorem drop_rd (l : List Sp) (i : Nat) (h : i < l.length) : l.drop i = rd_T43 l (i : Int) :: l.drop (i + 1) := by
  rw [rd_at l i h]
  exact List.drop_eq_getElem_cons h
theorem rd_last (l : List Sp) (s : Sp) : rd_T43 (l ++ [s]) (l.length : Int) = s := by
  rw [rd_at _ _ (by simp)]
  simp
theorem wrap_ok {x : Int} (h : -9223372036854775808 ≤ x) (h' : x ≤ 9223372036854775807) : wrap64 x = x := by
  unfold wrap64; omega
end Go.Proofs.Ytpeacoppclmmlaa.PS
