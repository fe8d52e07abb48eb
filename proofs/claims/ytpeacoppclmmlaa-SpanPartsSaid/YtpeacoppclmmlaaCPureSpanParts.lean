/-
  PLAIN LAW: SpanParts.
-/
import Derived.Test.YtpeacoppclmmlaaCSpanE
import Derived.Test.YtpeacoppclmmlaaCPSQSpanParts
set_option linter.unusedSimpArgs false
set_option linter.unusedVariables false
namespace Go.Proofs.Ytpeacoppclmmlaa.Pure
open Go.RowKit Go.Proofs.YtpeacoppclmmlaaW.PrintWords Go.Proofs.YtpeacoppclmmlaaW.PrintLast Go.Proofs.YtpeacoppclmmlaaW.PrintMore Go.Proofs.Ytpeacoppclmmlaa.Open Go.Proofs.Ytpeacoppclmmlaa.PS
/-- How many of the first ticks a map knows so. -/
def cnt (l : List Sp) (x : Int) : Nat → Nat
  | 0 => 0
  | n + 1 => cnt l x n + (if atS l ((n + 1 : Nat) : Int) = x then 1 else 0)
theorem cnt_le (l : List Sp) (x : Int) (n : Nat) : cnt l x n ≤ n := by
  induction n with
  | zero => exact Nat.le_refl _
  | succ n ih => simp only [cnt]; split <;> omega
theorem cnt_add_n {a b c : List Sp} (x : Int) : ∀ n : Nat, (∀ t : Int, 1 ≤ t ∧ t ≤ n → (if atS c t = x then (1 : Nat) else 0) = (if atS a t = x then 1 else 0) + (if atS b t = x then 1 else 0)) → cnt c x n = cnt a x n + cnt b x n := by
  intro n
  induction n with
  | zero => intro _; rfl
  | succ n ih =>
    intro h
    have h1 := ih (fun t ht => h t ⟨ht.1, by omega⟩)
    have h2 := h ((n + 1 : Nat) : Int) ⟨by omega, Int.le_refl _⟩
    simp only [cnt]
    omega
theorem cnt_add {a b c : List Sp} (x : Int) (h : ∀ t : Int, 1 ≤ t ∧ t ≤ 1099511627776 → (if atS c t = x then (1 : Nat) else 0) = (if atS a t = x then 1 else 0) + (if atS b t = x then 1 else 0)) : ((cnt c x 1099511627776 : Nat) : Int) = (cnt a x 1099511627776 : Nat) + (cnt b x 1099511627776 : Nat) := by
  have := cnt_add_n (a := a) (b := b) (c := c) x 1099511627776 (fun t ht => h t ⟨ht.1, by omega⟩)
  omega
theorem cnt_const {l : List Sp} {x : Int} {v : Nat} (a : Nat) : ∀ d : Nat, (∀ t : Int, a < t → t ≤ (a + d : Nat) → (if atS l t = x then 1 else 0) = v) → cnt l x (a + d) = cnt l x a + d * v := by
  intro d
  induction d with
  | zero => intro _; simp
  | succ d ih =>
    intro h
    have h1 := ih (fun t t1 t2 => h t t1 (by omega))
    have h2 := h ((a + d + 1 : Nat) : Int) (by omega) (by omega)
    rw [show a + (d + 1) = (a + d) + 1 from by omega]
    simp only [cnt]
    rw [h1, h2, Nat.succ_mul]
    omega
theorem cnt_congr {l m : List Sp} {x : Int} : ∀ n : Nat, (∀ t : Int, 1 ≤ t → t ≤ n → atS l t = atS m t) → cnt l x n = cnt m x n := by
  intro n
  induction n with
  | zero => intro _; rfl
  | succ n ih =>
    intro h
    simp only [cnt]
    rw [ih (fun t t1 t2 => h t t1 (by omega)), h ((n + 1 : Nat) : Int) (by omega) (Int.le_refl _)]
theorem cntS_snoc (x : Int) (s : Sp) : ∀ (l : List Sp) (acc : Int), cntS x acc (l ++ [s]) = (if s.f2 = x then cntS x acc l + s.f1 - s.f0 + 1 else cntS x acc l) := by
  intro l
  induction l with
  | nil => intro acc; simp [cntS]
  | cons y l ih => intro acc; simp only [List.cons_append, cntS]; exact ih _
/-- What Count adds up is how many ticks are known so, up to the map's end. -/
theorem cntS_cnt {x : Int} (hx : 1 ≤ x) : ∀ (n : Nat) (l : List Sp), l.length = n → rightB 0 0 l = true → cntS x 0 l = ((cnt l x (lastE 0 l).toNat : Nat) : Int) := by
  intro n
  induction n with
  | zero =>
    intro l hn h
    cases l with
    | nil => rfl
    | cons s l => simp at hn
  | succ n ih =>
    intro l hn h
    obtain ⟨m, s, rfl⟩ := last_of l (by intro h; rw [h] at hn; simp at hn)
    obtain ⟨hm, h1, h2, h3⟩ := (right_snoc _ _ _ _).1 h
    have hm0 := (lastE_ge hm).1
    have i1 := ih m (by rw [List.length_append, List.length_singleton] at hn; omega) hm
    rw [cntS_snoc, lastE_snoc]
    have e0 : cnt (m ++ [s]) x (lastE 0 m).toNat = cnt m x (lastE 0 m).toNat := cnt_congr _ (fun t t1 t2 => by
      rw [at_append _ hm, at_one, if_neg (show ¬ (s.f0 ≤ t ∧ t ≤ s.f1) by omega)]
      split
      · rename_i h; exact h.symm
      · rfl)
    have g1 : cnt (m ++ [s]) x ((lastE 0 m).toNat + (s.f0 - 1 - lastE 0 m).toNat) = cnt (m ++ [s]) x (lastE 0 m).toNat + (s.f0 - 1 - lastE 0 m).toNat * 0 := cnt_const _ _ (fun t t1 t2 => by
      rw [at_append _ hm, at_past hm (by omega), if_pos rfl, at_one, if_neg (show ¬ (s.f0 ≤ t ∧ t ≤ s.f1) by omega), if_neg (show ¬ (0 : Int) = x by omega)])
    have g2 : cnt (m ++ [s]) x ((s.f0 - 1).toNat + (s.f1 - (s.f0 - 1)).toNat) = cnt (m ++ [s]) x (s.f0 - 1).toNat + (s.f1 - (s.f0 - 1)).toNat * (if s.f2 = x then 1 else 0) := cnt_const _ _ (fun t t1 t2 => by
      rw [at_append _ hm, at_past hm (by omega), if_pos rfl, at_one, if_pos (show s.f0 ≤ t ∧ t ≤ s.f1 by omega)])
    rw [show (lastE 0 m).toNat + (s.f0 - 1 - lastE 0 m).toNat = (s.f0 - 1).toNat from by omega, e0, Nat.mul_zero, Nat.add_zero] at g1
    rw [show (s.f0 - 1).toNat + (s.f1 - (s.f0 - 1)).toNat = s.f1.toNat from by omega, g1] at g2
    rw [g2, i1]
    by_cases c : s.f2 = x
    · rw [if_pos c, if_pos c]; omega
    · rw [if_neg c, if_neg c]; omega
theorem SCount_ev (l : List Sp) (x : Int) (hR : rightB 0 0 l = true) (hx : 1 ≤ x := by decide) : ∃ r, Ev (fun k => span_Count.f k l x) r ∧ r = ((cnt l x 1099511627776 : Nat) : Int) := by
  have ll := length_right hR (Int.le_refl 0)
  obtain ⟨h1, _⟩ := Count_loop l x hR (by omega) l.length 0 0 0 0 (by omega) hR (by omega) (by omega) (by omega)
  refine ⟨cntS x 0 l, h1, ?_⟩
  rw [cntS_cnt hx l.length l rfl hR]
  have hE : 0 ≤ lastE 0 l ∧ lastE 0 l ≤ 1099511627776 := by
    have := lastE_ge hR
    refine ⟨this.1, ?_⟩
    rcases this.2 with h | h
    · exact h
    · subst h; simp [lastE]
  have g : cnt l x ((lastE 0 l).toNat + (1099511627776 - lastE 0 l).toNat) = cnt l x (lastE 0 l).toNat + (1099511627776 - lastE 0 l).toNat * 0 := cnt_const _ _ (fun t t1 t2 => by
    rw [at_past hR (by omega), if_neg (by omega)])
  rw [show (lastE 0 l).toNat + (1099511627776 - lastE 0 l).toNat = 1099511627776 from by omega, Nat.mul_zero, Nat.add_zero] at g
  rw [g]
theorem SpanParts : grapevinelaw08_SpanParts.PureQ := by
  intro l r t hl hr ht
  have ll := len_of hl
  refine Ev.rounds (g := fun k => grapevinelaw08_SpanParts.f k l r.f0 r.f1 t) ?_
  obtain ⟨p, p1, p2⟩ := Keep_ev l r.f0 r.f1 ll
  obtain ⟨u, u1, u2⟩ := Forget_ev l r.f0 r.f1 ll
  refine Ev.bind p1 (Ev.bind u1 ?_)
  by_cases c : Rcond l r.f0 r.f1
  case neg =>
    rcases p2 with ⟨h, _⟩ | ⟨_, rfl⟩
    · exact absurd h c
    rcases u2 with ⟨h, _⟩ | ⟨_, rfl⟩
    · exact absurd h c
    simp only [if_neg (show ¬ (2 : Int) = 0 by decide)]
    refine Ev.bind live_ev ?_
    simp only [if_true, beq_self_eq_true]
    exact Ev.now _
  rcases p2 with ⟨_, p0, pz⟩ | ⟨h, _⟩
  case inr => exact absurd c h
  rcases u2 with ⟨_, u0, uz⟩ | ⟨h, _⟩
  case inr => exact absurd c h
  have lp := length_right pz.1 (Int.le_refl 0)
  have lu := length_right uz.1 (Int.le_refl 0)
  simp only [if_pos p0]
  obtain ⟨q, q1, q2⟩ := Join_ev p.1 u.1 (by omega) (by omega)
  refine Ev.bind q1 ?_
  rcases q2 with ⟨_, _, q0, qz⟩ | ⟨h, _⟩
  case inr => exact absurd ⟨pz.1, uz.1⟩ h
  have hval : ∀ x, 1 ≤ x → x ≤ 1099511627776 → (atS p.1 x = atS l x ∧ atS u.1 x = 0) ∨ (atS p.1 x = 0 ∧ atS u.1 x = atS l x) := by
    intro x x1 x2
    have hp : atS p.1 x = toldS 1 (atS l x) (atS [⟨r.f0, r.f1, 1⟩] x) := pz.2 x x1 x2
    have hu : atS u.1 x = toldS 2 (atS l x) (atS [⟨r.f0, r.f1, 1⟩] x) := uz.2 x x1 x2
    rw [hp, hu]
    rcases one_range r.f0 r.f1 x with h | h <;> rw [h] <;> simp [toldS]
  have eq : q.1 = l := zips_eq qz (zips_self c.1) (fun x x1 x2 => by
    have hr := at_range x c.1
    show mx (atS p.1 x) (atS u.1 x) = atS l x
    simp only [mx]
    rcases hval x x1 x2 with ⟨h1, h2⟩ | ⟨h1, h2⟩ <;> rw [h1, h2] <;> split <;> omega)
  rw [eq]
  obtain ⟨np, np1, np2⟩ := SCount_ev p.1 1 pz.1
  obtain ⟨nu, nu1, nu2⟩ := SCount_ev u.1 1 uz.1
  obtain ⟨nl, nl1, nl2⟩ := SCount_ev l 1 c.1
  have hsum : wrap64 (np + nu) = nl := by
    have e : nl = np + nu := by
      rw [nl2, np2, nu2]
      have := cnt_add (a := p.1) (b := u.1) (c := l) 1 (fun x hx => by
        rcases hval x hx.1 hx.2 with ⟨h1, h2⟩ | ⟨h1, h2⟩ <;> rw [h1, h2] <;> simp)
      exact this
    have b1 := cnt_le p.1 1 1099511627776
    have b2 := cnt_le u.1 1 1099511627776
    rw [wrap_ok (by omega) (by omega), e]
  refine Ev.bind np1 (Ev.bind nu1 (Ev.bind live_ev ?_))
  simp only [if_true, if_pos u0, if_pos q0]
  refine Ev.bind (Same_self l ll) ?_
  simp only [if_true]
  refine Ev.bind (SAt_ev p.1 t (by omega)) ?_
  by_cases cp : atS p.1 t = 0
  · simp only [if_pos cp]
    refine Ev.bind nl1 ?_
    rw [hsum, beq_self_eq_true]
    exact Ev.now _
  · simp only [if_neg cp]
    refine Ev.bind (SAt_ev u.1 t (by omega)) ?_
    have cu : atS u.1 t = 0 := by
      by_cases h1 : t < 1
      · exact absurd (at_le pz.1 (by omega)) cp
      · by_cases h2 : t ≤ 1099511627776
        · rcases hval t (by omega) h2 with ⟨_, h⟩ | ⟨h, _⟩
          · exact h
          · exact absurd h cp
        · exact absurd (at_top pz.1 (by omega)) cp
    simp only [if_pos cu]
    refine Ev.bind nl1 ?_
    rw [hsum, beq_self_eq_true]
    exact Ev.now _
end Go.Proofs.Ytpeacoppclmmlaa.Pure
