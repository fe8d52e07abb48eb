/-
  PLAIN LAW: SpanFirst.
-/
import Derived.Test.YtpeacoppclmmlaaASpanE
import Derived.Test.YtpeacoppclmmlaaAPSQSpanFirst
set_option linter.unusedSimpArgs false
set_option linter.unusedVariables false
namespace Go.Proofs.Ytpeacoppclmmlaa.Pure
open Go.RowKit Go.Proofs.YtpeacoppclmmlaaW.PrintWords Go.Proofs.YtpeacoppclmmlaaW.PrintLast Go.Proofs.YtpeacoppclmmlaaW.PrintMore Go.Proofs.Ytpeacoppclmmlaa.Open Go.Proofs.Ytpeacoppclmmlaa.PS
theorem at_mem {g : List Sp} : ∀ {pe pi : Int}, rightB pe pi g = true → ∀ s ∈ g, ∀ t, s.f0 ≤ t → t ≤ s.f1 → atS g t = s.f2 := by
  induction g with
  | nil => intro _ _ _ s hs; cases hs
  | cons x g ih =>
    intro pe pi h s hs t t1 t2
    obtain ⟨⟨h1, h2, h3⟩, hr⟩ := rightB_cons.1 h
    rcases List.mem_cons.1 hs with rfl | hs
    · rw [atS_cons, if_pos ⟨t1, t2⟩]
    · rw [atS_cons, if_neg, ih hr s hs t t1 t2]
      intro hh
      have : x.f1 < s.f0 := by
        by_cases hc : x.f1 < s.f0
        · exact hc
        · have e1 := ih hr s hs s.f0 (Int.le_refl _) (by omega)
          rw [at_le hr (by omega)] at e1
          have := right_mem hr s hs
          omega
      omega
theorem at_ahead {m : List Sp} {s : Sp} {q : List Sp} (h : rightB 0 0 (m ++ s :: q) = true) : atS (m ++ s :: q) (s.f0 - 1) ≠ s.f2 := by
  have e : m ++ s :: q = (m ++ [s]) ++ q := by simp
  have hm : rightB 0 0 (m ++ [s]) = true := by
    have key : ∀ (a b : List Sp) (pe pi : Int), rightB pe pi (a ++ b) = true → rightB pe pi a = true := by
      intro a
      induction a with
      | nil => intros; rfl
      | cons x a ih => intro b pe pi h; exact rightB_cons.2 ⟨(rightB_cons.1 h).1, ih b _ _ (rightB_cons.1 h).2⟩
    rw [e] at h
    exact key _ _ _ _ h
  obtain ⟨h1, h2, h3, h4⟩ := (right_snoc _ _ _ _).1 hm
  have hq : atS (s :: q) (s.f0 - 1) = 0 := by
    have key : ∀ (a b : List Sp) (pe pi : Int), rightB pe pi (a ++ b) = true → ∃ pe' pi', rightB pe' pi' b = true := by
      intro a
      induction a with
      | nil => intro b pe pi h; exact ⟨pe, pi, h⟩
      | cons x a ih => intro b pe pi h; exact ih b _ _ (rightB_cons.1 h).2
    obtain ⟨pe', pi', hb⟩ := key m (s :: q) 0 0 h
    obtain ⟨⟨g1, g2, g3⟩, hr⟩ := rightB_cons.1 hb
    rw [atS_cons, if_neg (by omega), at_le hr (by omega)]
  rw [at_append _ h1, hq]
  split
  · omega
  · rename_i hne
    rcases Int.lt_trichotomy (lastE 0 m) (s.f0 - 1) with hlt | heq | hgt
    · exact absurd (at_past h1 hlt) hne
    · cases hmm : m with
      | nil => rw [hmm] at hne; exact absurd rfl hne
      | cons x y =>
        obtain ⟨z, u, hz⟩ := last_of m (by rw [hmm]; simp)
        rw [← hmm]
        rw [hz] at h1 heq h4 ⊢
        rw [lastE_snoc] at heq
        rw [lastI_snoc, lastE_snoc] at h4
        have hu := ((right_snoc _ _ _ _).1 h1).2
        rw [at_mem h1 u (by simp) (s.f0 - 1) (by have := hu.1; omega) (by omega)]
        omega
    · omega
theorem hz_spec {l : List Sp} : ∀ {pe pi h : Int}, rightB pe pi l = true → h ≤ hzS h l ∧ (hzS h l ≤ 1099511627776 ∨ hzS h l = h) ∧ (∀ u, h < u → u ≤ hzS h l → atS l u ≠ 0) ∧ atS l (hzS h l + 1) = 0 := by
  induction l with
  | nil => intro pe pi h _; exact ⟨Int.le_refl _, .inr rfl, fun u h1 h2 => by simp only [hzS] at h2; omega, rfl⟩
  | cons s l ih =>
    intro pe pi h hr
    obtain ⟨⟨h1, h2, h3⟩, hr'⟩ := rightB_cons.1 hr
    simp only [hzS]
    by_cases c : s.f0 ≤ h + 1 ∧ s.f1 > h
    · rw [if_pos c]
      obtain ⟨i1, i2, i3, i4⟩ := ih (h := s.f1) hr'
      refine ⟨by omega, by omega, fun u u1 u2 => ?_, ?_⟩
      · rw [atS_cons]
        split
        · omega
        · exact i3 u (by omega) u2
      · rw [atS_cons, if_neg (by omega)]
        exact i4
    · rw [if_neg c]
      obtain ⟨i1, i2, i3, i4⟩ := ih (h := h) hr'
      by_cases c1 : s.f1 ≤ h
      · refine ⟨i1, i2, fun u u1 u2 => ?_, ?_⟩
        · rw [atS_cons, if_neg (by omega)]; exact i3 u u1 u2
        · rw [atS_cons, if_neg (by omega)]; exact i4
      · have e : hzS h l = h := hz_far hr' (.inl (by omega))
        rw [e]
        exact ⟨Int.le_refl _, .inr rfl, fun u u1 u2 => by omega, by rw [atS_cons, if_neg (by omega), at_le hr' (by omega)]⟩
theorem First_loop {l g : List Sp} {t : Int} (hR : rightB 0 0 l = true) (t1 : 1 ≤ t) (t2 : t ≤ 1099511627776) (hz : Zips (fun u => toldS 3 (atS l u) (atS [⟨t, 1099511627776, 1⟩] u)) g) :
    ∀ (m i : Nat), i + m = g.length → Ev (fun k => grapevinelaw08_SpanFirst.l0 k l (hzS (t - 1) l) (g.map zz) 0 (i : Int)) true := by
  have ll : (l.length : Int) ≤ 1099511627776 := length_right hR (Int.le_refl 0)
  have lg : (g.length : Int) ≤ 1099511627776 := length_right hz.1 (Int.le_refl 0)
  obtain ⟨z1, z2, z3, z4⟩ := hz_spec (h := t - 1) hR
  have hF : ∀ u, 1 ≤ u → u ≤ 1099511627776 → atS g u = if t ≤ u then (if atS l u = 0 then 1 else 0) else 0 := by
    intro u u1 u2
    rw [hz.2 u u1 u2]
    show toldS 3 (atS l u) (atS [⟨t, 1099511627776, 1⟩] u) = _
    rw [at_one]
    simp only [toldS]
    by_cases c : t ≤ u
    · rw [if_pos (show t ≤ u ∧ u ≤ 1099511627776 from ⟨c, u2⟩), if_pos c]; simp
    · rw [if_neg (show ¬ (t ≤ u ∧ u ≤ 1099511627776) from fun h => c h.1), if_neg c]; simp
  have mem : ∀ s ∈ g, s.f2 = 1 ∧ t ≤ s.f0 ∧ s.f0 ≤ s.f1 ∧ s.f1 ≤ 1099511627776 ∧ atS l s.f0 = 0 ∧ atS l s.f1 = 0 := by
    intro s hs
    have hm := right_mem hz.1 s hs
    have e0 := at_mem hz.1 s hs s.f0 (Int.le_refl _) (by omega)
    have e1 := at_mem hz.1 s hs s.f1 (by omega) (Int.le_refl _)
    rw [hF _ (by omega) (by omega)] at e0
    rw [hF _ (by omega) (by omega)] at e1
    have a0 : t ≤ s.f0 ∧ atS l s.f0 = 0 := by
      by_cases c : t ≤ s.f0
      · rw [if_pos c] at e0
        by_cases d : atS l s.f0 = 0
        · exact ⟨c, d⟩
        · rw [if_neg d] at e0; omega
      · rw [if_neg c] at e0; omega
    have a1 : atS l s.f1 = 0 := by
      by_cases d : atS l s.f1 = 0
      · exact d
      · rw [if_neg d] at e1; split at e1 <;> omega
    rw [if_pos a0.1, if_pos a0.2] at e0
    exact ⟨e0.symm, a0.1, hm.2.2.2.1, hm.2.2.2.2, a0.2, a1⟩
  intro m
  induction m with
  | zero =>
    intro i hi
    apply Ev.succ
    have hneg : ¬ (i : Int) < ((g.map zz).length : Int) := by rw [List.length_map]; omega
    simp only [grapevinelaw08_SpanFirst.l0, if_neg hneg]
    cases hg : g with
    | nil =>
      simp only [List.map_nil, List.length_nil, if_pos (show ((0 : Nat) : Int) = 0 from rfl)]
      refine Ev.bind live_ev ?_
      simp only [if_true]
      have e : hzS (t - 1) l = 1099511627776 := by
        rcases Int.lt_trichotomy (hzS (t - 1) l) 1099511627776 with h | h | h
        · have := hF (hzS (t - 1) l + 1) (by omega) (by omega)
          rw [if_pos (by omega), if_pos z4, hg] at this
          simp [atS] at this
        · exact h
        · omega
      rw [e]
      exact Ev.now _
    | cons s q =>
      have hs : s ∈ g := by rw [hg]; simp
      obtain ⟨m1, m2, m3, m4, m5, m6⟩ := mem s hs
      simp only [List.map_cons, List.length_cons, List.length_map, if_neg (show ¬ ((q.length + 1 : Nat) : Int) = 0 by omega), if_pos (show (0 : Int) < ((q.length + 1 : Nat) : Int) by omega), if_pos (show (0 : Int) = 0 from rfl)]
      refine Ev.bind live_ev ?_
      simp only [if_true]
      have e : hzS (t - 1) l = s.f0 - 1 := by
        rcases Int.lt_trichotomy (hzS (t - 1) l) (s.f0 - 1) with h | h | h
        · have := hF (hzS (t - 1) l + 1) (by omega) (by omega)
          rw [if_pos (by omega), if_pos z4, hg] at this
          have hr := hz.1
          rw [hg] at hr
          obtain ⟨⟨g1, g2, g3⟩, hr'⟩ := rightB_cons.1 hr
          rw [atS_cons, if_neg (by omega), at_le hr' (by omega)] at this
          omega
        · exact h
        · exact absurd m5 (z3 s.f0 (by omega) (by omega))
      rw [show rd_T43 (zz s :: q.map zz) 0 = zz s from rfl, show (zz s).f0 = s.f0 from rfl, wrap_ok (by omega) (by omega), e, beq_self_eq_true]
      exact Ev.now _
  | succ m ih =>
    intro i hi
    apply Ev.succ
    have hlt : i < g.length := by omega
    have hlt' : i < (g.map zz).length := by rw [List.length_map]; exact hlt
    have hpos : (i : Int) < ((g.map zz).length : Int) := by omega
    have hs0 := rd_at (g.map zz) i hlt'
    rw [List.getElem_map] at hs0
    have hs : g[i] ∈ g := List.getElem_mem hlt
    obtain ⟨m1, m2, m3, m4, m5, m6⟩ := mem _ hs
    simp only [grapevinelaw08_SpanFirst.l0, if_pos hpos, if_pos (show (0 : Int) ≤ (i : Int) by omega), hs0, cast_succ_wrap hlt' (by rw [List.length_map]; omega)]
    refine Ev.bind (SAt_ev l _ (by omega)) ?_
    simp only [show (zz g[i]).f0 = g[i].f0 from rfl, show (zz g[i]).f1 = g[i].f1 from rfl, m5, if_true]
    refine Ev.bind (SAt_ev l _ (by omega)) ?_
    simp only [m6, if_true]
    by_cases c : (i : Int) > 0
    · simp only [if_pos c]
      refine Ev.bind (SAt_ev l _ (by omega)) ?_
      rw [wrap_ok (x := g[i].f0 - 1) (by omega) (by omega)]
      have hne : ¬ atS l (g[i].f0 - 1) = 0 := by
        have hsp : g = g.take i ++ g[i] :: g.drop (i + 1) := by rw [← List.drop_eq_getElem_cons hlt, List.take_append_drop]
        have hr := hz.1
        rw [hsp] at hr
        have ha := at_ahead hr
        rw [← hsp, m1] at ha
        have hp : g[i - 1] ∈ g := List.getElem_mem (by omega)
        have hpm := mem _ hp
        have hord : g[i - 1].f1 < g[i].f0 := by
          have hsp2 : g = g.take (i - 1) ++ g[i - 1] :: g.drop i := by
            have := List.drop_eq_getElem_cons (show i - 1 < g.length by omega)
            rw [show i - 1 + 1 = i from by omega] at this
            rw [← this, List.take_append_drop]
          have key : ∀ (a b : List Sp) (pe pi : Int), rightB pe pi (a ++ b) = true → ∃ pe' pi', rightB pe' pi' b = true := by
            intro a
            induction a with
            | nil => intro b pe pi h; exact ⟨pe, pi, h⟩
            | cons x a ih => intro b pe pi h; exact ih b _ _ (rightB_cons.1 h).2
          have hr2 := hz.1
          rw [hsp2] at hr2
          obtain ⟨pe', pi', hb⟩ := key _ _ 0 0 hr2
          have hb2 := (rightB_cons.1 hb).2
          rw [List.drop_eq_getElem_cons hlt] at hb2
          exact (rightB_cons.1 hb2).1.2.1
        rw [hF _ (by omega) (by omega), if_pos (by omega)] at ha
        intro h0
        rw [if_pos h0] at ha
        exact ha rfl
      simp only [if_neg hne]
      exact ih (i + 1) (by omega)
    · simp only [if_neg c]
      exact ih (i + 1) (by omega)
theorem SpanFirst : grapevinelaw08_SpanFirst.PureQ := by
  intro l t hl0 ht
  have ll := len_of hl0
  refine Ev.rounds (g := fun k => grapevinelaw08_SpanFirst.f k l t) ?_
  obtain ⟨p, p1, p2⟩ := Gaps_ev l t 1099511627776 ll
  refine Ev.bind (Hz_ev l t ll) (Ev.bind p2 ?_)
  unfold hzR
  by_cases c : rightB 0 0 l = true ∧ 1 ≤ t ∧ t ≤ 1099511627776
  · rw [if_pos c]
    have hc : Rcond l t 1099511627776 := ⟨c.1, c.2.1, c.2.2, Int.le_refl _⟩
    rcases p1 with ⟨_, e0, hz⟩ | ⟨h1, _⟩
    case inr => exact absurd hc h1
    simp only [if_true, e0]
    exact First_loop c.1 c.2.1 c.2.2 hz p.1.length 0 (by rw [Nat.zero_add])
  · rw [if_neg c]
    have hc : ¬ Rcond l t 1099511627776 := fun h => c ⟨h.1, h.2.1, h.2.2.1⟩
    rcases p1 with ⟨h1, _⟩ | ⟨_, e⟩
    · exact absurd h1 hc
    subst e
    simp only [if_neg (show ¬ (2 : Int) = 0 by decide)]
    refine Ev.bind live_ev ?_
    simp only [if_true]
    exact Ev.now _
end Go.Proofs.Ytpeacoppclmmlaa.Pure
