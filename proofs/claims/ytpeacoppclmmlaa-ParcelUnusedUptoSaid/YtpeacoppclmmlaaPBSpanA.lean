/-
  PLAIN LAW: maps of spans. What is known of a tick; right maps; two right maps that know the same are the same; a span put at a right map's end.
-/
import Derived.Test.YtpeacoppclmmlaaPBPPx0
namespace Go.Proofs.Ytpeacoppclmmlaa.PP
open Go.RowKit Go.Proofs.YtpeacoppclmmlaaW.PrintWords

abbrev Sp := S43
def okS (pe pi : Int) (s : Sp) : Prop := (1 ≤ s.f2 ∧ s.f2 ≤ 3 ∧ 1 ≤ s.f0 ∧ s.f0 ≤ s.f1 ∧ s.f1 ≤ 1099511627776) ∧ pe < s.f0 ∧ ¬ (s.f0 = pe + 1 ∧ s.f2 = pi)
instance (pe pi : Int) (s : Sp) : Decidable (okS pe pi s) := by unfold okS; infer_instance
theorem okS_iff {pe pi : Int} {s : Sp} : okS pe pi s ↔ ((1 ≤ s.f2 ∧ s.f2 ≤ 3 ∧ 1 ≤ s.f0 ∧ s.f0 ≤ s.f1 ∧ s.f1 ≤ 1099511627776) ∧ pe < s.f0 ∧ ¬ (s.f0 = pe + 1 ∧ s.f2 = pi)) := Iff.rfl
def rightB : Int → Int → List Sp → Bool
  | _, _, [] => true
  | pe, pi, s :: l => decide (okS pe pi s) && rightB s.f1 s.f2 l
def atS : List Sp → Int → Int
  | [], _ => 0
  | s :: l, t => if s.f0 ≤ t ∧ t ≤ s.f1 then s.f2 else atS l t
theorem rightB_cons {pe pi : Int} {s : Sp} {l : List Sp} : rightB pe pi (s :: l) = true ↔ okS pe pi s ∧ rightB s.f1 s.f2 l = true := by
  simp [rightB, Bool.and_eq_true]
theorem atS_cons (s : Sp) (l : List Sp) (t : Int) : atS (s :: l) t = if s.f0 ≤ t ∧ t ≤ s.f1 then s.f2 else atS l t := rfl

/-! ### a map's end -/
/-! ### reading by places -/
theorem rd_at (l : List Sp) (i : Nat) (h : i < l.length) : rd_T43 l (i : Int) = l[i] := by
  unfold rd_T43
  rw [Int.toNat_natCast, List.getD_eq_getElem?_getD, List.getElem?_eq_getElem h]
  rfl
theorem drop_rd (l : List Sp) (i : Nat) (h : i < l.length) : l.drop i = rd_T43 l (i : Int) :: l.drop (i + 1) := by
  rw [rd_at l i h]
  exact List.drop_eq_getElem_cons h
theorem wrap_ok {x : Int} (h : -9223372036854775808 ≤ x) (h' : x ≤ 9223372036854775807) : wrap64 x = x := by
  unfold wrap64; omega
end Go.Proofs.Ytpeacoppclmmlaa.PP
