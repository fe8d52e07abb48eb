/-
  PLAIN LAW: Keep, Forget, Gaps (package span and the reference), Count; what the laws need.
-/
import Derived.Test.YtpeacoppclmmlaaASpanD
import Derived.Test.YtpeacoppclmmlaaAPSx9
import Derived.Test.YtpeacoppclmmlaaAPSx10
import Derived.Test.YtpeacoppclmmlaaAPSOpens
set_option linter.unusedSimpArgs false
set_option linter.unusedVariables false
namespace Go.Proofs.Ytpeacoppclmmlaa.PS
open Go.RowKit Go.Proofs.YtpeacoppclmmlaaW.PrintWords Go.Proofs.YtpeacoppclmmlaaW.PrintMore Go.Proofs.Ytpeacoppclmmlaa.Open

theorem Ev.succ {α : Type} {g : Nat → Option α} {r : α} (h : Ev (fun k => g (k + 1)) r) : Ev g r := Ev.step (f := fun k => g (k + 1)) (fun _ => rfl) h
theorem len_of {l : List Sp} (h : g22 l) : l.length ≤ 9223372036854775807 := h.1
theorem many_eq (l : List Sp) : grapevinelaw08_many.f l = some (decide ((l.length : Int) > 400)) := rfl

/-! ### Keep, Forget, Gaps -/
def Rcond (l : List Sp) (a b : Int) : Prop := rightB 0 0 l = true ∧ 1 ≤ a ∧ a ≤ b ∧ b ≤ 1099511627776
instance (l : List Sp) (a b : Int) : Decidable (Rcond l a b) := by unfold Rcond; infer_instance
/-- What a ranged call comes to. -/
def Rng (m : Int) (l : List Sp) (a b : Int) (r : List Sp × Int) : Prop :=
  (Rcond l a b ∧ r.2 = 0 ∧ Zips (fun t => toldS m (atS l t) (atS [⟨a, b, 1⟩] t)) r.1) ∨ (¬ Rcond l a b ∧ r = ([], 2))
theorem Rng_eq {m : Int} {l : List Sp} {a b : Int} {r q : List Sp × Int} (h : Rng m l a b r) (k : Rng m l a b q) : r = q := by
  rcases h with ⟨h1, h3, h4⟩ | ⟨h1, h2⟩
  · rcases k with ⟨k1, k3, k4⟩ | ⟨k1, k2⟩
    · exact Prod.ext (zips_eq h4 k4 (fun _ _ _ => rfl)) (by rw [h3, k3])
    · exact absurd h1 k1
  · rcases k with ⟨k1, k3, k4⟩ | ⟨k1, k2⟩
    · exact absurd k1 h1
    · rw [h2, k2]
theorem Rng_length {m : Int} {l : List Sp} {a b : Int} {r : List Sp × Int} (h : Rng m l a b r) : (r.1.length : Int) ≤ 1099511627776 := by
  rcases h with ⟨h1, h3, h4⟩ | ⟨h1, h2⟩
  · exact length_right h4.1 (Int.le_refl 0)
  · rw [h2]; simp
theorem right_one {a b : Int} (h : 1 ≤ a ∧ a ≤ b ∧ b ≤ 1099511627776) : rightB 0 0 [⟨a, b, 1⟩] = true := by
  refine rightB_cons.2 ⟨okS_iff.2 ?_, rfl⟩
  simp only
  omega
theorem one_range (a b t : Int) : atS [⟨a, b, 1⟩] t = 0 ∨ atS [⟨a, b, 1⟩] t = 1 := by
  rw [at_one]; split
  · exact .inr rfl
  · exact .inl rfl
theorem ranged_ev (l : List Sp) (a b m : Int) (hm : m = 0 ∨ m = 1 ∨ m = 2 ∨ m = 3) (hl : l.length ≤ 9223372036854775807) : ∃ r, Ev (fun k => grapevineref08_ranged.f k l a b m) r ∧ Rng m l a b r := by
  by_cases c : rightB 0 0 l = true
  · by_cases c1 : a < 1
    · exact ⟨_, Ev.bind (RRight_ev l hl) (Ev.congr (fun k => by rw [if_pos c, if_pos c1]) (Ev.now _)), .inr ⟨fun h => by have := h.2.1; omega, rfl⟩⟩
    · by_cases c2 : b < a
      · exact ⟨_, Ev.bind (RRight_ev l hl) (Ev.congr (fun k => by rw [if_pos c, if_neg c1, if_pos c2]) (Ev.now _)), .inr ⟨fun h => by have := h.2.2.1; omega, rfl⟩⟩
      · by_cases c3 : b > 1099511627776
        · exact ⟨_, Ev.bind (RRight_ev l hl) (Ev.congr (fun k => by rw [if_pos c, if_neg c1, if_neg c2, if_pos c3]) (Ev.now _)), .inr ⟨fun h => by have := h.2.2.2; omega, rfl⟩⟩
        · obtain ⟨r, r1, r2⟩ := made_ev l [⟨a, b, 1⟩] m hm c (right_one ⟨by omega, by omega, by omega⟩)
          refine ⟨(r, 0), Ev.bind (RRight_ev l hl) ?_, .inl ⟨⟨c, by omega, by omega, by omega⟩, rfl, r2⟩⟩
          simp only [if_pos c, if_neg c1, if_neg c2, if_neg c3]
          exact Ev.bind r1 (Ev.now _)
  · exact ⟨_, Ev.bind (RRight_ev l hl) (Ev.congr (fun k => by rw [if_neg c]) (Ev.now _)), .inr ⟨fun h => c h.1, rfl⟩⟩
theorem zipped_ev (l : List Sp) (a b m : Int) (fid : Nat) (hf : (fid = 63 ∧ m = 1) ∨ (fid = 64 ∧ m = 2) ∨ (fid = 61 ∧ m = 3)) (h : Rcond l a b) :
    ∃ r, Ev (fun k => span_zip.f k l [⟨a, b, 1⟩] fid) r ∧ Zips (fun t => toldS m (atS l t) (atS [⟨a, b, 1⟩] t)) r := by
  obtain ⟨r, r1, r2⟩ := zip_ev l [⟨a, b, 1⟩] fid (by omega) h.1 (right_one h.2)
  refine ⟨r, r1, r2.1, fun t t1 t2 => (r2.2 t t1 t2).trans ?_⟩
  have ho := one_range a b t
  show span_zip.one fid (atS l t) (atS [⟨a, b, 1⟩] t) = toldS m (atS l t) (atS [⟨a, b, 1⟩] t)
  generalize atS [⟨a, b, 1⟩] t = y at ho ⊢
  generalize atS l t = x
  rcases hf with ⟨rfl, rfl⟩ | ⟨rfl, rfl⟩ | ⟨rfl, rfl⟩
  · simp [span_zip.one, toldS]
  · simp [span_zip.one, toldS]
  · rcases ho with rfl | rfl <;> simp [span_zip.one, toldS]
theorem Keep_ev (l : List Sp) (a b : Int) (hl : l.length ≤ 9223372036854775807) : ∃ r, Ev (fun k => span_Keep.f k l a b) r ∧ Rng 1 l a b r := by
  by_cases c : Rcond l a b
  · obtain ⟨r, r1, r2⟩ := zipped_ev l a b 1 63 (.inl ⟨rfl, rfl⟩) c
    exact ⟨(r, 0), Ev.bind (may_ev l a b hl) (Ev.congr (fun k => if_pos (decide_eq_true (p := Rcond l a b) c)) (Ev.bind r1 (Ev.now _))), .inl ⟨c, rfl, r2⟩⟩
  · exact ⟨([], 2), Ev.bind (may_ev l a b hl) (Ev.congr (fun k => if_neg (fun hh => c (of_decide_eq_true (p := Rcond l a b) hh))) (Ev.now _)), .inr ⟨c, rfl⟩⟩
theorem Forget_ev (l : List Sp) (a b : Int) (hl : l.length ≤ 9223372036854775807) : ∃ r, Ev (fun k => span_Forget.f k l a b) r ∧ Rng 2 l a b r := by
  by_cases c : Rcond l a b
  · obtain ⟨r, r1, r2⟩ := zipped_ev l a b 2 64 (.inr (.inl ⟨rfl, rfl⟩)) c
    exact ⟨(r, 0), Ev.bind (may_ev l a b hl) (Ev.congr (fun k => if_pos (decide_eq_true (p := Rcond l a b) c)) (Ev.bind r1 (Ev.now _))), .inl ⟨c, rfl, r2⟩⟩
  · exact ⟨([], 2), Ev.bind (may_ev l a b hl) (Ev.congr (fun k => if_neg (fun hh => c (of_decide_eq_true (p := Rcond l a b) hh))) (Ev.now _)), .inr ⟨c, rfl⟩⟩
theorem KeepRef_ev (l : List Sp) (a b : Int) (hl : l.length ≤ 9223372036854775807) : ∃ r, Ev (fun k => grapevineref08_Keep.f k l a b) r ∧ Rng 1 l a b r := by
  obtain ⟨r, r1, r2⟩ := ranged_ev l a b 1 (by simp) hl
  exact ⟨r, Ev.bind r1 (Ev.now _), r2⟩
theorem ForgetRef_ev (l : List Sp) (a b : Int) (hl : l.length ≤ 9223372036854775807) : ∃ r, Ev (fun k => grapevineref08_Forget.f k l a b) r ∧ Rng 2 l a b r := by
  obtain ⟨r, r1, r2⟩ := ranged_ev l a b 2 (by simp) hl
  exact ⟨r, Ev.bind r1 (Ev.now _), r2⟩
def zz (s : Sp) : Sp := ⟨s.f0, s.f1, 0⟩
theorem Gaps_loop : ∀ (q m : List Sp), m.length + q.length ≤ 1099511627776 → Ev (fun k => span_Gaps.l0 k (m ++ q) ((m.length + q.length : Nat) : Int) (m.length : Int)) (m ++ q.map zz, 0) := by
  intro q
  induction q with
  | nil =>
    intro m h
    refine Ev.done (fun k => ?_)
    simp only [span_Gaps.l0]
    rw [if_neg (by simp)]
    rfl
  | cons s q ih =>
    intro m h
    rw [List.length_cons] at h
    have h2 := ih (m ++ [zz s]) (by rw [List.length_append, List.length_singleton]; omega)
    have e1 : (m ++ s :: q).length = m.length + (q.length + 1) := by rw [List.length_append, List.length_cons]
    refine Ev.step (f := fun k => span_Gaps.l0 k ((m ++ [zz s]) ++ q) (((m ++ [zz s]).length + q.length : Nat) : Int) ((m ++ [zz s]).length : Int)) (fun k => ?_) (by rw [List.map_cons, show m ++ zz s :: q.map zz = (m ++ [zz s]) ++ q.map zz from by simp]; exact h2)
    simp only [span_Gaps.l0]
    rw [if_pos (by rw [List.length_cons]; omega), if_pos (by omega), if_pos (by omega), cast_succ_wrap (n := m.length + (q.length + 1)) (by omega) (by omega),
      show rd_T43 (m ++ s :: q) (m.length : Int) = s from by rw [rd_at _ _ (by omega)]; simp, Int.toNat_natCast, show (m ++ s :: q).set m.length ⟨s.f0, s.f1, 0⟩ = (m ++ [zz s]) ++ q from by rw [List.set_append]; simp [zz]]
    rw [List.length_append, List.length_singleton, List.length_cons, show m.length + (q.length + 1) = m.length + 1 + q.length from by omega]
theorem GapsRef_loop (c : Int) : ∀ (q m : List Sp), m.length + q.length ≤ 1099511627776 → Ev (fun k => grapevineref08_Gaps.l0 k (m ++ q) c (m.length : Int)) (m ++ q.map zz, c) := by
  intro q
  induction q with
  | nil =>
    intro m h
    refine Ev.done (fun k => ?_)
    simp only [grapevineref08_Gaps.l0]
    rw [if_neg (by simp)]
    rfl
  | cons s q ih =>
    intro m h
    rw [List.length_cons] at h
    have h2 := ih (m ++ [zz s]) (by rw [List.length_append, List.length_singleton]; omega)
    have e1 : (m ++ s :: q).length = m.length + (q.length + 1) := by rw [List.length_append, List.length_cons]
    refine Ev.step (f := fun k => grapevineref08_Gaps.l0 k ((m ++ [zz s]) ++ q) c ((m ++ [zz s]).length : Int)) (fun k => ?_) (by rw [List.map_cons, show m ++ zz s :: q.map zz = (m ++ [zz s]) ++ q.map zz from by simp]; exact h2)
    simp only [grapevineref08_Gaps.l0]
    rw [if_pos (by omega), if_pos (by omega), cast_succ_wrap (n := m.length + (q.length + 1)) (by omega) (by omega),
      show rd_T43 (m ++ s :: q) (m.length : Int) = s from by rw [rd_at _ _ (by omega)]; simp, Int.toNat_natCast, show (m ++ s :: q).set m.length ⟨s.f0, s.f1, 0⟩ = (m ++ [zz s]) ++ q from by rw [List.set_append]; simp [zz]]
    rw [List.length_append, List.length_singleton]
theorem Gaps_ev (l : List Sp) (a b : Int) (hl : l.length ≤ 9223372036854775807) : ∃ r, Rng 3 l a b r ∧ Ev (fun k => span_Gaps.f k l a b) (r.1.map zz, r.2) := by
  by_cases c : Rcond l a b
  · obtain ⟨r, r1, r2⟩ := zipped_ev l a b 3 61 (.inr (.inr ⟨rfl, rfl⟩)) c
    have hlen := length_right r2.1 (Int.le_refl 0)
    refine ⟨(r, 0), .inl ⟨c, rfl, r2⟩, Ev.bind (may_ev l a b hl) (Ev.congr (fun k => if_pos (decide_eq_true (p := Rcond l a b) c)) (Ev.bind r1 ?_))⟩
    have h := Gaps_loop r [] (by simp only [List.length_nil]; omega)
    simpa using h
  · exact ⟨([], 2), .inr ⟨c, rfl⟩, Ev.bind (may_ev l a b hl) (Ev.congr (fun k => if_neg (fun hh => c (of_decide_eq_true (p := Rcond l a b) hh))) (Ev.now _))⟩
theorem GapsRef_ev (l : List Sp) (a b : Int) (hl : l.length ≤ 9223372036854775807) : ∃ r, Rng 3 l a b r ∧ Ev (fun k => grapevineref08_Gaps.f k l a b) (r.1.map zz, r.2) := by
  obtain ⟨r, r1, r2⟩ := ranged_ev l a b 3 (by simp) hl
  refine ⟨r, r2, Ev.bind r1 ?_⟩
  have hlen := Rng_length r2
  have h := GapsRef_loop r.2 r.1 [] (by simp only [List.length_nil]; omega)
  simpa using h

/-! ### Count -/
def cntS (x : Int) : Int → List Sp → Int
  | acc, [] => acc
  | acc, s :: l => cntS x (if s.f2 = x then acc + s.f1 - s.f0 + 1 else acc) l
theorem Count_loop (l : List Sp) (x : Int) (hR : rightB 0 0 l = true) (hl : l.length ≤ 9223372036854775807) : ∀ (m i : Nat) (acc pe pi : Int), i + m = l.length → rightB pe pi (l.drop i) = true → 0 ≤ acc → acc ≤ pe → pe ≤ 1099511627776 →
    Ev (fun k => span_Count.l0 k l x acc l (l.length : Int) (i : Int)) (cntS x acc (l.drop i)) ∧ Ev (fun k => grapevineref08_Count.l0 k l x acc (i : Int)) (cntS x acc (l.drop i)) := by
  intro m
  induction m with
  | zero =>
    intro i acc pe pi hi h ha1 ha2 hp
    rw [List.drop_of_length_le (by omega)]
    constructor
    · apply Ev.succ
      simp only [span_Count.l0, if_neg (show ¬ (i : Int) < (l.length : Int) by omega)]
      exact Ev.bind (Right_ev l hl) (Ev.congr (fun k => if_pos hR) (Ev.now _))
    · apply Ev.succ
      simp only [grapevineref08_Count.l0]
      refine Ev.bind (RRight_ev l hl) ?_
      simp only [if_pos hR]
      refine Ev.done (fun k => ?_)
      simp only [grapevineref08_Count.j1]
      rw [if_neg (by simp; omega)]
      rfl
  | succ m ih =>
    intro i acc pe pi hi h ha1 ha2 hp
    have hlt : i < l.length := by omega
    rw [drop_rd l i hlt] at h ⊢
    generalize hs : rd_T43 l (i : Int) = s at h
    obtain ⟨⟨h1, h2, h3⟩, hr⟩ := rightB_cons.1 h
    obtain ⟨p1, p2⟩ := ih (i + 1) (if s.f2 = x then acc + s.f1 - s.f0 + 1 else acc) s.f1 s.f2 (by omega) hr (by split <;> omega) (by split <;> omega) (by omega)
    constructor
    · refine Ev.step (f := fun k => span_Count.l0 k l x (if s.f2 = x then acc + s.f1 - s.f0 + 1 else acc) l (l.length : Int) ((i + 1 : Nat) : Int)) (fun k => ?_) p1
      simp only [span_Count.l0]
      rw [if_pos (by omega), if_pos (by omega), if_pos (by omega), hs, cast_succ_wrap hlt hl]
      by_cases c : s.f2 = x
      · rw [if_pos c, if_pos c, wrap_ok (x := s.f1 - s.f0) (by omega) (by omega), wrap_ok (x := s.f1 - s.f0 + 1) (by omega) (by omega), wrap_ok (by omega) (by omega), show acc + (s.f1 - s.f0 + 1) = acc + s.f1 - s.f0 + 1 from by omega]
      · rw [if_neg c, if_neg c]
    · apply Ev.succ
      simp only [grapevineref08_Count.l0]
      refine Ev.bind (RRight_ev l hl) ?_
      simp only [if_pos hR]
      rw [decide_eq_true (show (i : Int) < (l.length : Int) by omega)]
      refine Ev.step (f := fun k => grapevineref08_Count.l0 k l x (if s.f2 = x then acc + s.f1 - s.f0 + 1 else acc) ((i + 1 : Nat) : Int)) (fun k => ?_) p2
      simp only [grapevineref08_Count.j1]
      rw [if_pos trivial, if_pos (by omega), if_pos (by omega), hs, cast_succ_wrap hlt hl]
      by_cases c : s.f2 = x
      · rw [if_pos c, if_pos c, wrap_ok (x := acc + s.f1) (by omega) (by omega), wrap_ok (x := acc + s.f1 - s.f0) (by omega) (by omega), wrap_ok (by omega) (by omega)]
      · rw [if_neg c, if_neg c]
theorem Count_wrong (l : List Sp) (x : Int) (hR : ¬ rightB 0 0 l = true) (hl : l.length ≤ 9223372036854775807) : ∀ (m i : Nat) (acc : Int), i + m = l.length → Ev (fun k => span_Count.l0 k l x acc l (l.length : Int) (i : Int)) 0 := by
  intro m
  induction m with
  | zero =>
    intro i acc hi
    apply Ev.succ
    simp only [span_Count.l0, if_neg (show ¬ (i : Int) < (l.length : Int) by omega)]
    exact Ev.bind (Right_ev l hl) (Ev.congr (fun k => if_neg hR) (Ev.now _))
  | succ m ih =>
    intro i acc hi
    have hlt : i < l.length := by omega
    apply Ev.succ
    simp only [span_Count.l0, if_pos (show (i : Int) < (l.length : Int) by omega), if_pos (show (0 : Int) ≤ (i : Int) by omega), cast_succ_wrap hlt hl]
    split
    · exact ih (i + 1) _ (by omega)
    · exact ih (i + 1) _ (by omega)
theorem Counts_ev (l : List Sp) (x : Int) (hl : l.length ≤ 9223372036854775807) : ∃ r, Ev (fun k => span_Count.f k l x) r ∧ Ev (fun k => grapevineref08_Count.f k l x) r := by
  by_cases c : rightB 0 0 l = true
  · obtain ⟨h1, h2⟩ := Count_loop l x c hl l.length 0 0 0 0 (by omega) c (by omega) (by omega) (by omega)
    exact ⟨_, h1, h2⟩
  · refine ⟨0, Count_wrong l x c hl l.length 0 0 (by omega), ?_⟩
    refine Ev.congr (f := fun k => grapevineref08_Count.l0 k l x 0 0) (fun k => rfl) (Ev.succ ?_)
    simp only [grapevineref08_Count.l0]
    refine Ev.bind (RRight_ev l hl) ?_
    simp only [if_neg c]
    exact Ev.done (fun k => by simp only [grapevineref08_Count.j1]; rw [if_neg (by simp)])
end Go.Proofs.Ytpeacoppclmmlaa.PS
