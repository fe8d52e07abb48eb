/-
  PLAIN LAW: Keep, Forget, Gaps (package span and the reference), Count; what the laws need.
-/
import Derived.Test.YtpeacoppclmmlaaCSpanD
import Derived.Test.YtpeacoppclmmlaaCPSx9
import Derived.Test.YtpeacoppclmmlaaCPSx10
import Derived.Test.YtpeacoppclmmlaaCPSOpens
set_option linter.unusedSimpArgs false
set_option linter.unusedVariables false
namespace Go.Proofs.Ytpeacoppclmmlaa.PS
open Go.RowKit Go.Proofs.YtpeacoppclmmlaaW.PrintWords Go.Proofs.YtpeacoppclmmlaaW.PrintMore Go.Proofs.Ytpeacoppclmmlaa.Open

theorem Ev.succ {α : Type} {g : Nat → Option α} {r : α} (h : Ev (fun k => g (k + 1)) r) : Ev g r := Ev.step (f := fun k => g (k + 1)) (fun _ => rfl) h
theorem len_of {l : List Sp} (h : g22 l) : l.length ≤ 9223372036854775807 := h.1
/-! ### Keep, Forget, Gaps -/
def Rcond (l : List Sp) (a b : Int) : Prop := rightB 0 0 l = true ∧ 1 ≤ a ∧ a ≤ b ∧ b ≤ 1099511627776
instance (l : List Sp) (a b : Int) : Decidable (Rcond l a b) := by unfold Rcond; infer_instance
/-- What a ranged call comes to. -/
def Rng (m : Int) (l : List Sp) (a b : Int) (r : List Sp × Int) : Prop :=
  (Rcond l a b ∧ r.2 = 0 ∧ Zips (fun t => toldS m (atS l t) (atS [⟨a, b, 1⟩] t)) r.1) ∨ (¬ Rcond l a b ∧ r = ([], 2))
theorem right_one {a b : Int} (h : 1 ≤ a ∧ a ≤ b ∧ b ≤ 1099511627776) : rightB 0 0 [⟨a, b, 1⟩] = true := by
  refine rightB_cons.2 ⟨okS_iff.2 ?_, rfl⟩
  simp only
  omega
theorem one_range (a b t : Int) : atS [⟨a, b, 1⟩] t = 0 ∨ atS [⟨a, b, 1⟩] t = 1 := by
  rw [at_one]; split
  · exact .inr rfl
  · exact .inl rfl
theorem zipped_ev (l : List Sp) (a b m : Int) (fid : Nat) (hf : (fid = 63 ∧ m = 1) ∨ (fid = 64 ∧ m = 2) ∨ (fid = 61 ∧ m = 3)) (h : Rcond l a b) :
    ∃ r, Ev (fun k => span_zip.f k l [⟨a, b, 1⟩] fid) r ∧ Zips (fun t => toldS m (atS l t) (atS [⟨a, b, 1⟩] t)) r := by
  obtain ⟨r, r1, r2⟩ := zip_ev l [⟨a, b, 1⟩] fid (by omega) h.1 (right_one h.2)
  refine ⟨r, r1, r2.1, fun t t1 t2 => (r2.2 t t1 t2).trans ?_⟩
  have ho := one_range a b t
  show span_zip.one fid (atS l t) (atS [⟨a, b, 1⟩] t) = toldS m (atS l t) (atS [⟨a, b, 1⟩] t)
  generalize atS [⟨a, b, 1⟩] t = y at ho ⊢
  generalize atS l t = x
  rcases hf with ⟨rfl, rfl⟩ | ⟨rfl, rfl⟩ | ⟨rfl, rfl⟩
  · simp [span_zip.one, toldS]
  · simp [span_zip.one, toldS]
  · rcases ho with rfl | rfl <;> simp [span_zip.one, toldS]
theorem Keep_ev (l : List Sp) (a b : Int) (hl : l.length ≤ 9223372036854775807) : ∃ r, Ev (fun k => span_Keep.f k l a b) r ∧ Rng 1 l a b r := by
  by_cases c : Rcond l a b
  · obtain ⟨r, r1, r2⟩ := zipped_ev l a b 1 63 (.inl ⟨rfl, rfl⟩) c
    exact ⟨(r, 0), Ev.bind (may_ev l a b hl) (Ev.congr (fun k => if_pos (decide_eq_true (p := Rcond l a b) c)) (Ev.bind r1 (Ev.now _))), .inl ⟨c, rfl, r2⟩⟩
  · exact ⟨([], 2), Ev.bind (may_ev l a b hl) (Ev.congr (fun k => if_neg (fun hh => c (of_decide_eq_true (p := Rcond l a b) hh))) (Ev.now _)), .inr ⟨c, rfl⟩⟩
theorem Forget_ev (l : List Sp) (a b : Int) (hl : l.length ≤ 9223372036854775807) : ∃ r, Ev (fun k => span_Forget.f k l a b) r ∧ Rng 2 l a b r := by
  by_cases c : Rcond l a b
  · obtain ⟨r, r1, r2⟩ := zipped_ev l a b 2 64 (.inr (.inl ⟨rfl, rfl⟩)) c
    exact ⟨(r, 0), Ev.bind (may_ev l a b hl) (Ev.congr (fun k => if_pos (decide_eq_true (p := Rcond l a b) c)) (Ev.bind r1 (Ev.now _))), .inl ⟨c, rfl, r2⟩⟩
  · exact ⟨([], 2), Ev.bind (may_ev l a b hl) (Ev.congr (fun k => if_neg (fun hh => c (of_decide_eq_true (p := Rcond l a b) hh))) (Ev.now _)), .inr ⟨c, rfl⟩⟩
/-! ### Count -/
def cntS (x : Int) : Int → List Sp → Int
  | acc, [] => acc
  | acc, s :: l => cntS x (if s.f2 = x then acc + s.f1 - s.f0 + 1 else acc) l
theorem Count_loop (l : List Sp) (x : Int) (hR : rightB 0 0 l = true) (hl : l.length ≤ 9223372036854775807) : ∀ (m i : Nat) (acc pe pi : Int), i + m = l.length → rightB pe pi (l.drop i) = true → 0 ≤ acc → acc ≤ pe → pe ≤ 1099511627776 →
    Ev (fun k => span_Count.l0 k l x acc l (l.length : Int) (i : Int)) (cntS x acc (l.drop i)) ∧ Ev (fun k => grapevineref08_Count.l0 k l x acc (i : Int)) (cntS x acc (l.drop i)) := by
  intro m
  induction m with
  | zero =>
    intro i acc pe pi hi h ha1 ha2 hp
    rw [List.drop_of_length_le (by omega)]
    constructor
    · apply Ev.succ
      simp only [span_Count.l0, if_neg (show ¬ (i : Int) < (l.length : Int) by omega)]
      exact Ev.bind (Right_ev l hl) (Ev.congr (fun k => if_pos hR) (Ev.now _))
    · apply Ev.succ
      simp only [grapevineref08_Count.l0]
      refine Ev.bind (RRight_ev l hl) ?_
      simp only [if_pos hR]
      refine Ev.done (fun k => ?_)
      simp only [grapevineref08_Count.j1]
      rw [if_neg (by simp; omega)]
      rfl
  | succ m ih =>
    intro i acc pe pi hi h ha1 ha2 hp
    have hlt : i < l.length := by omega
    rw [drop_rd l i hlt] at h ⊢
    generalize hs : rd_T43 l (i : Int) = s at h
    obtain ⟨⟨h1, h2, h3⟩, hr⟩ := rightB_cons.1 h
    obtain ⟨p1, p2⟩ := ih (i + 1) (if s.f2 = x then acc + s.f1 - s.f0 + 1 else acc) s.f1 s.f2 (by omega) hr (by split <;> omega) (by split <;> omega) (by omega)
    constructor
    · refine Ev.step (f := fun k => span_Count.l0 k l x (if s.f2 = x then acc + s.f1 - s.f0 + 1 else acc) l (l.length : Int) ((i + 1 : Nat) : Int)) (fun k => ?_) p1
      simp only [span_Count.l0]
      rw [if_pos (by omega), if_pos (by omega), if_pos (by omega), hs, cast_succ_wrap hlt hl]
      by_cases c : s.f2 = x
      · rw [if_pos c, if_pos c, wrap_ok (x := s.f1 - s.f0) (by omega) (by omega), wrap_ok (x := s.f1 - s.f0 + 1) (by omega) (by omega), wrap_ok (by omega) (by omega), show acc + (s.f1 - s.f0 + 1) = acc + s.f1 - s.f0 + 1 from by omega]
      · rw [if_neg c, if_neg c]
    · apply Ev.succ
      simp only [grapevineref08_Count.l0]
      refine Ev.bind (RRight_ev l hl) ?_
      simp only [if_pos hR]
      rw [decide_eq_true (show (i : Int) < (l.length : Int) by omega)]
      refine Ev.step (f := fun k => grapevineref08_Count.l0 k l x (if s.f2 = x then acc + s.f1 - s.f0 + 1 else acc) ((i + 1 : Nat) : Int)) (fun k => ?_) p2
      simp only [grapevineref08_Count.j1]
      rw [if_pos trivial, if_pos (by omega), if_pos (by omega), hs, cast_succ_wrap hlt hl]
      by_cases c : s.f2 = x
      · rw [if_pos c, if_pos c, wrap_ok (x := acc + s.f1) (by omega) (by omega), wrap_ok (x := acc + s.f1 - s.f0) (by omega) (by omega), wrap_ok (by omega) (by omega)]
      · rw [if_neg c, if_neg c]
end Go.Proofs.Ytpeacoppclmmlaa.PS
