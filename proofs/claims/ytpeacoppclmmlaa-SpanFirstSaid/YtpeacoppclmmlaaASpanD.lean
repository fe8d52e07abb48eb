/-
  PLAIN LAW: the reference's made (out of the ticks where something changes) is zip; Same; At; Horizon; live.
-/
import Derived.Test.YtpeacoppclmmlaaASpanC
import Derived.Test.YtpeacoppclmmlaaAPSx7
import Derived.Test.YtpeacoppclmmlaaAPSx8
import Derived.Test.YtpeacoppclmmlaaAPSx4
set_option linter.unusedSimpArgs false
set_option linter.unusedVariables false
namespace Go.Proofs.Ytpeacoppclmmlaa.PS
open Go.RowKit Go.Proofs.YtpeacoppclmmlaaW.PrintWords Go.Proofs.YtpeacoppclmmlaaW.PrintMore

/-! ### the edges -/
theorem insS_mem {l : List Int} {n x : Int} : x ∈ insS l n ↔ x = n ∨ x ∈ l := by
  induction l with
  | nil => simp [insS]
  | cons y l ih =>
    simp only [insS]
    split
    · simp
    · split
      · subst n; simp
      · simp only [List.mem_cons, ih]; constructor
        · rintro (h | h | h) <;> simp [h]
        · rintro (h | h | h) <;> simp [h]
theorem insS_sorted {l : List Int} {n : Int} (h : l.Pairwise (· < ·)) : (insS l n).Pairwise (· < ·) := by
  induction l with
  | nil => simp [insS]
  | cons y l ih =>
    obtain ⟨h1, h2⟩ := List.pairwise_cons.1 h
    simp only [insS]
    split
    · rename_i hn
      refine List.pairwise_cons.2 ⟨fun z hz => ?_, h⟩
      rcases List.mem_cons.1 hz with rfl | hz
      · exact hn
      · have := h1 z hz; omega
    · split
      · exact h
      · refine List.pairwise_cons.2 ⟨fun z hz => ?_, ih h2⟩
        rcases insS_mem.1 hz with rfl | hz
        · omega
        · exact h1 z hz
/-- The edges: rising, from 1 to the last tick, with the places asked for. -/
def Edg (es : List Int) : Prop := es.Pairwise (· < ·) ∧ 1 ∈ es ∧ ∀ x ∈ es, 1 ≤ x ∧ x ≤ 1099511627776
theorem putS_edg {es : List Int} {n : Int} (h : Edg es) (hn : 1 ≤ n) : Edg (putS es n) ∧ (∀ x ∈ es, x ∈ putS es n) ∧ (n ≤ 1099511627776 → n ∈ putS es n) := by
  unfold putS
  split
  · exact ⟨h, fun _ hx => hx, fun _ => by omega⟩
  · refine ⟨⟨insS_sorted h.1, insS_mem.2 (.inr h.2.1), fun x hx => ?_⟩, fun x hx => insS_mem.2 (.inr hx), fun _ => insS_mem.2 (.inl rfl)⟩
    rcases insS_mem.1 hx with rfl | hx
    · omega
    · exact h.2.2 x hx
theorem edgeS_edg {l : List Sp} : ∀ {es : List Int} {pe pi : Int}, 0 ≤ pe → Edg es → rightB pe pi l = true → Edg (edgeS es l) ∧ (∀ x ∈ es, x ∈ edgeS es l) ∧ ∀ s ∈ l, s.f0 ∈ edgeS es l ∧ (s.f1 + 1 ≤ 1099511627776 → s.f1 + 1 ∈ edgeS es l) := by
  induction l with
  | nil => intro es pe pi _ h _; exact ⟨h, fun _ hx => hx, fun s hs => by cases hs⟩
  | cons s l ih =>
    intro es pe pi hpe h hr
    obtain ⟨⟨h1, h2, h3⟩, hr'⟩ := rightB_cons.1 hr
    obtain ⟨a1, a2, a3⟩ := putS_edg (n := s.f0) h (by omega)
    obtain ⟨b1, b2, b3⟩ := putS_edg (n := s.f1 + 1) a1 (by omega)
    obtain ⟨c1, c2, c3⟩ := ih (by omega) b1 hr'
    simp only [edgeS]
    refine ⟨c1, fun x hx => c2 _ (b2 _ (a2 _ hx)), fun s' hs => ?_⟩
    rcases List.mem_cons.1 hs with rfl | hs
    · exact ⟨c2 _ (b2 _ (a3 (by omega))), fun hh => c2 _ (b3 hh)⟩
    · exact c3 s' hs
theorem edg_one : Edg [1] := ⟨by simp, by simp, fun x hx => by rw [List.mem_singleton] at hx; omega⟩
theorem at_const {l : List Sp} {e u t : Int} (h : ∀ s ∈ l, ¬ (e < s.f0 ∧ s.f0 ≤ u) ∧ ¬ (e < s.f1 + 1 ∧ s.f1 + 1 ≤ u)) (h1 : e ≤ t) (h2 : t ≤ u) : atS l t = atS l e := by
  induction l with
  | nil => rfl
  | cons s l ih =>
    have hs := h s (by simp)
    rw [atS_cons, atS_cons, ih (fun x hx => h x (by simp [hx]))]
    by_cases c : s.f0 ≤ e ∧ e ≤ s.f1
    · rw [if_pos c, if_pos (by omega)]
    · rw [if_neg c, if_neg (by omega)]
theorem rd_lt {es : List Int} (h : es.Pairwise (· < ·)) {i j : Nat} (hi : i < j) (hj : j < es.length) : rd es (i : Int) < rd es (j : Int) := by
  have e : ∀ k, k < es.length → rd es (k : Int) = es.getD k 0 := fun k hk => by unfold rd; rw [Int.toNat_natCast]
  rw [e i (by omega), e j hj]
  have := List.pairwise_iff_getElem.1 h i j (by omega) hj hi
  simpa [List.getD_eq_getElem?_getD, hj, (by omega : i < es.length)] using this
theorem rd_mem {es : List Int} {i : Nat} (h : i < es.length) : rd es (i : Int) ∈ es := by
  have e : rd es (i : Int) = es[i] := by
    unfold rd
    rw [Int.toNat_natCast, List.getD_eq_getElem?_getD, List.getElem?_eq_getElem h]
    rfl
  rw [e]; exact List.getElem_mem h
theorem mem_rd {es : List Int} {x : Int} (h : x ∈ es) : ∃ i : Nat, i < es.length ∧ rd es (i : Int) = x := by
  obtain ⟨i, hi, he⟩ := List.mem_iff_getElem.1 h
  refine ⟨i, hi, ?_⟩
  unfold rd
  rw [Int.toNat_natCast, List.getD_eq_getElem?_getD, List.getElem?_eq_getElem hi]
  exact he
/-- Where the piece that begins at the i-th edge ends. -/
def stopE (es : List Int) (i : Nat) : Int := if i + 1 < es.length then rd es ((i + 1 : Nat) : Int) - 1 else 1099511627776
theorem no_edge {es : List Int} (h : Edg es) {i : Nat} {x : Int} (hi : i < es.length) (hx : x ∈ es) : ¬ (rd es (i : Int) < x ∧ x ≤ stopE es i) := by
  rintro ⟨h1, h2⟩
  obtain ⟨j, hj, rfl⟩ := mem_rd hx
  have hij : i < j := by
    rcases Nat.lt_trichotomy i j with hh | hh | hh
    · exact hh
    · subst hh; omega
    · have := rd_lt h.1 hh hi; omega
  unfold stopE at h2
  rw [if_pos (by omega)] at h2
  rcases Nat.lt_or_ge (i + 1) j with hh | hh
  · have := rd_lt h.1 hh hj; omega
  · have e : i + 1 = j := by omega
    subst e; omega

/-! ### told -/
def toldS (m x y : Int) : Int := if m = 0 then (if y > x then y else x) else if m = 1 then (if y = 0 then 0 else x) else if m = 2 then (if y = 0 then x else 0) else (if y = 0 then 0 else if x = 0 then 1 else 0)
theorem Ev.via {α β : Type} {h : Nat → Option β} {b : β} {g f : Nat → Option α} {r : α} (hb : Ev h b) (e : ∀ k, h k = some b → g (k + 1) = f k) (kf : Ev f r) : Ev g r := by
  obtain ⟨K, hK⟩ := hb
  obtain ⟨L, hL⟩ := kf
  refine ⟨K + L + 1, fun k hk => ?_⟩
  obtain ⟨j, rfl⟩ : ∃ j, k = j + 1 := ⟨k - 1, by omega⟩
  rw [e j (hK j (by omega))]
  exact hL j (by omega)
theorem told_ev (a b : List Sp) (t m : Int) (hm : m = 0 ∨ m = 1 ∨ m = 2 ∨ m = 3) (ha : a.length ≤ 9223372036854775807) (hb : b.length ≤ 9223372036854775807) :
    Ev (fun k => grapevineref08_told.f k a b t m) (toldS m (atS a t) (atS b t)) := by
  refine Ev.bind (RAt_ev a t ha) (Ev.bind (RAt_ev b t hb) ?_)
  generalize atS a t = x
  generalize atS b t = y
  refine ⟨3, fun k hk => ?_⟩
  obtain ⟨k, rfl⟩ : ∃ j, k = j + 3 := ⟨k - 3, by omega⟩
  rw [show k + 3 = k + 2 + 1 from rfl]
  rcases hm with rfl | rfl | rfl | rfl
  · show (if (0 : Int) = 0 then grapevineref08_told.j0 (k + 2 + 1) 0 x y (decide (y > x)) else grapevineref08_told.j0 (k + 2 + 1) 0 x y false) = _
    rw [if_pos rfl]
    by_cases c : y > x
    · simp [grapevineref08_told.j0, toldS, c]
    · simp [grapevineref08_told.j0, grapevineref08_told.j1, grapevineref08_told.j2, toldS, c]
  · by_cases c : y = 0
    · simp [grapevineref08_told.j0, grapevineref08_told.j1, grapevineref08_told.j2, toldS, c]
    · simp [grapevineref08_told.j0, grapevineref08_told.j1, grapevineref08_told.j2, toldS, c]
  · by_cases c : y = 0
    · simp [grapevineref08_told.j0, grapevineref08_told.j1, grapevineref08_told.j2, toldS, c]
    · simp [grapevineref08_told.j0, grapevineref08_told.j1, grapevineref08_told.j2, toldS, c]
  · by_cases c : y = 0
    · simp [grapevineref08_told.j0, grapevineref08_told.j1, grapevineref08_told.j2, toldS, c]
    · by_cases d : x = 0
      · simp [grapevineref08_told.j0, grapevineref08_told.j1, grapevineref08_told.j2, toldS, c, d]
      · simp [grapevineref08_told.j0, grapevineref08_told.j1, grapevineref08_told.j2, toldS, c, d]
theorem toldS_range {m x y : Int} (hx : 0 ≤ x ∧ x ≤ 3) (hy : 0 ≤ y ∧ y ≤ 3) : 0 ≤ toldS m x y ∧ toldS m x y ≤ 3 := by
  unfold toldS
  repeat' split
  all_goals omega

/-! ### made -/
theorem made_ev_l {a b : List Sp} {m : Int} (hm : m = 0 ∨ m = 1 ∨ m = 2 ∨ m = 3) (ha : rightB 0 0 a = true) (hb : rightB 0 0 b = true) {es : List Int} (he : Edg es) (hlen : es.length ≤ 9223372036854775807)
    (hA : ∀ s ∈ a, s.f0 ∈ es ∧ (s.f1 + 1 ≤ 1099511627776 → s.f1 + 1 ∈ es)) (hB : ∀ s ∈ b, s.f0 ∈ es ∧ (s.f1 + 1 ≤ 1099511627776 → s.f1 + 1 ∈ es)) :
    ∀ (d i : Nat) (out : List Sp), i + d = es.length → Inv out (if i < es.length then rd es (i : Int) else 1099511627777) (fun t => toldS m (atS a t) (atS b t)) →
      ∃ r, Ev (fun k => grapevineref08_made.l0 k a b m out es (i : Int)) r ∧ Inv r 1099511627777 (fun t => toldS m (atS a t) (atS b t)) := by
  have la := length_right ha (Int.le_refl 0)
  have lb := length_right hb (Int.le_refl 0)
  intro d
  induction d with
  | zero =>
    intro i out hi hv
    refine ⟨out, Ev.done (fun k => ?_), ?_⟩
    · simp only [grapevineref08_made.l0]; rw [if_neg (by omega)]
    · rwa [if_neg (by omega)] at hv
  | succ d ih =>
    intro i out hi hv
    have hlt : i < es.length := by omega
    rw [if_pos hlt] at hv
    have hmem := he.2.2 _ (rd_mem hlt)
    have ho := length_inv hv
    have hs := cast_succ_wrap hlt hlen
    have hstop : rd es (i : Int) ≤ stopE es i ∧ stopE es i ≤ 1099511627776 ∧ stopE es i + 1 = (if i + 1 < es.length then rd es ((i + 1 : Nat) : Int) else 1099511627777) := by
      unfold stopE
      by_cases c : i + 1 < es.length
      · have h1 := rd_lt he.1 (by omega : i < i + 1) c
        have h2 := he.2.2 _ (rd_mem c)
        rw [if_pos c, if_pos c]; omega
      · rw [if_neg c, if_neg c]; omega
    have hF : ∀ t, rd es (i : Int) ≤ t → t ≤ stopE es i → toldS m (atS a t) (atS b t) = toldS m (atS a (rd es (i : Int))) (atS b (rd es (i : Int))) := by
      intro t t1 t2
      have hc : ∀ {l : List Sp}, (∀ s ∈ l, s.f0 ∈ es ∧ (s.f1 + 1 ≤ 1099511627776 → s.f1 + 1 ∈ es)) → atS l t = atS l (rd es (i : Int)) := fun hl =>
        at_const (fun s hs => ⟨fun hh => no_edge he hlt (hl s hs).1 hh, fun hh => no_edge he hlt ((hl s hs).2 (by omega)) hh⟩) t1 t2
      rw [hc hA, hc hB]
    have hk := toldS_range (m := m) (at_range (rd es (i : Int)) ha) (at_range (rd es (i : Int)) hb)
    have hstep : ∀ k, grapevineref08_made.l0 (k + 1) a b m out es (i : Int) = grapevineref08_made.j1 k a b m out es (i : Int) (stopE es i) := by
      intro k
      simp only [grapevineref08_made.l0]
      rw [if_pos (by omega), hs]
      unfold stopE
      by_cases c : i + 1 < es.length
      · have h2 := he.2.2 _ (rd_mem c)
        rw [if_pos (by omega), if_pos (by omega), if_pos c, wrap_ok (x := rd es ((i + 1 : Nat) : Int) - 1) (by omega) (by omega)]
      · rw [if_neg (by omega), if_neg c]
    have hT := told_ev a b (rd es (i : Int)) m hm (by omega) (by omega)
    obtain ⟨o, o1, o2⟩ : ∃ o, Inv o (stopE es i + 1) (fun t => toldS m (atS a t) (atS b t)) ∧ ∀ r, Ev (fun k => grapevineref08_made.l0 k a b m o es ((i + 1 : Nat) : Int)) r → Ev (fun k => grapevineref08_made.j1 k a b m out es (i : Int) (stopE es i)) r := by
      generalize toldS m (atS a (rd es (i : Int))) (atS b (rd es (i : Int))) = T at hF hk hT
      by_cases c0 : T = 0
      · refine ⟨out, inv_none hv hstop.1 (fun t t1 t2 => by show toldS m (atS a t) (atS b t) = 0; rw [hF t t1 t2, c0]), fun r hr => Ev.via hT (fun k e => ?_) hr⟩
        simp only [grapevineref08_made.j1]
        rw [if_pos (by omega), if_pos (by omega), e, Option.bind_some, if_pos c0, hs]
      by_cases hnil : out = []
      · subst hnil
        refine ⟨[] ++ [⟨rd es (i : Int), stopE es i, T⟩], inv_new hv hmem.1 hstop.1 hstop.2.1 (by omega) (by omega) hF (by simp only [lastE, lastI]; omega), fun r hr => Ev.via hT (fun k e => ?_) hr⟩
        simp only [grapevineref08_made.j1]
        rw [if_pos (by omega), if_pos (by omega), e, Option.bind_some, if_neg c0, if_neg (by simp), if_pos (by simp), hs]
      obtain ⟨q, s, rfl⟩ := last_of out hnil
      have hsr := ((right_snoc _ _ _ _).1 hv.1).2.1
      have hlast : wrap64 (((q ++ [s]).length : Int) - 1) = (q.length : Int) := by
        rw [List.length_append, List.length_singleton] at ho ⊢
        rw [wrap_ok (by omega) (by omega)]
        omega
      have hlen' : ((q ++ [s]).length : Int) = (q.length : Int) + 1 := by rw [List.length_append, List.length_singleton]; omega
      by_cases hc : s.f1 + 1 = rd es (i : Int) ∧ s.f2 = T
      · refine ⟨q ++ [⟨s.f0, stopE es i, s.f2⟩], inv_more hv hstop.1 hstop.2.1 (fun t t1 t2 => by show toldS m (atS a t) (atS b t) = _; rw [hF t t1 t2, hc.2]) hc.1, fun r hr => Ev.via hT (fun k e => ?_) hr⟩
        simp only [grapevineref08_made.j1]
        rw [if_pos (by omega), if_pos (by omega), e, Option.bind_some, if_neg c0, if_pos (by omega), hlast, if_pos (by omega), if_pos (by omega), rd_last, wrap_ok (x := rd es (i : Int) - 1) (by omega) (by omega), if_pos (by omega), if_pos hc.2, Int.toNat_natCast, set_last, hs]
      · refine ⟨(q ++ [s]) ++ [⟨rd es (i : Int), stopE es i, T⟩], inv_new hv hmem.1 hstop.1 hstop.2.1 (by omega) (by omega) hF (by rw [lastE_snoc, lastI_snoc]; exact hc), fun r hr => Ev.via hT (fun k e => ?_) hr⟩
        simp only [grapevineref08_made.j1]
        rw [if_pos (by omega), if_pos (by omega), e, Option.bind_some, if_neg c0, if_pos (by omega), hlast, if_pos (by omega), if_pos (by omega), rd_last, wrap_ok (x := rd es (i : Int) - 1) (by omega) (by omega), hs]
        by_cases c1 : s.f1 = rd es (i : Int) - 1
        · rw [if_pos c1, if_neg (fun hh => hc ⟨by omega, hh⟩), if_pos (by omega)]
        · rw [if_neg c1, if_pos (by omega)]
    rw [hstop.2.2] at o1
    obtain ⟨r, r1, r2⟩ := ih (i + 1) o (by omega) o1
    exact ⟨r, Ev.step hstep (o2 r r1), r2⟩
theorem made_ev (a b : List Sp) (m : Int) (hm : m = 0 ∨ m = 1 ∨ m = 2 ∨ m = 3) (ha : rightB 0 0 a = true) (hb : rightB 0 0 b = true) :
    ∃ r, Ev (fun k => grapevineref08_made.f k a b m) r ∧ Zips (fun t => toldS m (atS a t) (atS b t)) r := by
  have la := length_right ha (Int.le_refl 0)
  have lb := length_right hb (Int.le_refl 0)
  obtain ⟨a1, a2, a3⟩ := edgeS_edg (Int.le_refl 0) edg_one ha
  obtain ⟨b1, b2, b3⟩ := edgeS_edg (Int.le_refl 0) a1 hb
  have l1 := edgeS_length a [1]
  have l2 := edgeS_length b (edgeS [1] a)
  simp only [List.length_singleton] at l1
  obtain ⟨j, j1, j2⟩ := mem_rd b1.2.1
  have j0 : j = 0 := by
    rcases Nat.eq_zero_or_pos j with h | h
    · exact h
    · have h1 := rd_lt b1.1 h j1
      have h2 := (b1.2.2 _ (rd_mem (show 0 < (edgeS (edgeS [1] a) b).length by omega))).1
      omega
  subst j0
  obtain ⟨r, r1, r2⟩ := made_ev_l hm ha hb b1 (by omega) (fun s hs => ⟨b2 _ (a3 s hs).1, fun h => b2 _ ((a3 s hs).2 h)⟩) b3 (edgeS (edgeS [1] a) b).length 0 [] (by omega) (by rw [if_pos j1, j2]; exact inv_nil _)
  exact ⟨r, Ev.bind (edges_ev a b ha hb) r1, r2.1, fun t t1 t2 => r2.2.2 t t1 (by omega)⟩

/-! ### Same, At -/
deriving instance DecidableEq for S43
theorem Same_ev_l (l m : List Sp) (hlen : l.length = m.length) (hl : l.length ≤ 9223372036854775807) : ∀ (d i : Nat), i + d = l.length → Ev (fun k => grapevineref08_Same.l0 k l m (i : Int)) (decide (l.drop i = m.drop i)) := by
  intro d
  induction d with
  | zero =>
    intro i hi
    rw [List.drop_of_length_le (by omega), List.drop_of_length_le (by omega)]
    exact Ev.done (fun k => by simp only [grapevineref08_Same.l0]; rw [if_neg (by omega)]; rfl)
  | succ d ih =>
    intro i hi
    rw [drop_rd l i (by omega), drop_rd m i (by omega)]
    generalize hs : rd_T43 l (i : Int) = s
    generalize hu : rd_T43 m (i : Int) = u
    by_cases e : s = u
    · subst e
      refine Ev.step (f := fun k => grapevineref08_Same.l0 k l m ((i + 1 : Nat) : Int)) (fun k => ?_) (by have := ih (i + 1) (by omega); simpa using this)
      simp only [grapevineref08_Same.l0]
      rw [if_pos (by omega), if_pos (by omega), if_pos (by omega), hs, hu, if_neg (by simp), cast_succ_wrap (by omega : i < l.length) hl]
    · rw [decide_eq_false (by simp [e])]
      refine Ev.done (fun k => ?_)
      simp only [grapevineref08_Same.l0]
      rw [if_pos (by omega), if_pos (by omega), if_pos (by omega), hs, hu, if_pos]
      by_cases e0 : s.f0 = u.f0
      · by_cases e1 : s.f1 = u.f1
        · by_cases e2 : s.f2 = u.f2
          · exact absurd (by cases s; cases u; simp only at e0 e1 e2; subst e0; subst e1; subst e2; rfl) e
          · simp [e0, e1, e2]
        · simp [e0, e1]
      · simp [e0]
theorem Same_ev (l m : List Sp) (hl : l.length ≤ 9223372036854775807) : Ev (fun k => grapevineref08_Same.f k l m) (decide (l = m)) := by
  by_cases e : l.length = m.length
  · refine Ev.congr (f := fun k => grapevineref08_Same.l0 k l m ((0 : Nat) : Int)) (fun k => ?_) (Same_ev_l l m e hl l.length 0 (by omega))
    unfold grapevineref08_Same.f
    rw [if_pos (by omega)]; rfl
  · rw [decide_eq_false (fun h => e (by rw [h]))]
    refine Ev.congr (f := fun k => some false) (fun k => ?_) (Ev.now _)
    unfold grapevineref08_Same.f
    rw [if_neg (by omega)]
theorem Same_self (l : List Sp) (hl : l.length ≤ 9223372036854775807) : Ev (fun k => grapevineref08_Same.f k l l) true := by
  have := Same_ev l l hl
  rwa [decide_eq_true rfl] at this
theorem SAt_ev_l (l : List Sp) (t : Int) (hl : l.length ≤ 9223372036854775807) : ∀ (m i : Nat), i + m = l.length → Ev (fun k => span_At.l0 k t l (l.length : Int) (i : Int)) (atS (l.drop i) t) := by
  intro m
  induction m with
  | zero =>
    intro i hi
    rw [List.drop_of_length_le (by omega)]
    exact Ev.done (fun k => by simp only [span_At.l0]; rw [if_neg (by omega)]; rfl)
  | succ m ih =>
    intro i hi
    have hlt : i < l.length := by omega
    rw [drop_rd l i hlt]
    generalize hs : rd_T43 l (i : Int) = s
    by_cases h : s.f0 ≤ t ∧ t ≤ s.f1
    · refine Ev.done (fun k => ?_)
      simp only [span_At.l0]
      rw [if_pos (by omega), if_pos (by omega), if_pos (by omega), hs, if_pos (show t ≥ s.f0 from h.1), if_pos h.2, atS_cons, if_pos h]
    · refine Ev.step (f := fun k => span_At.l0 k t l (l.length : Int) ((i + 1 : Nat) : Int)) (fun k => ?_) (by rw [atS_cons, if_neg h]; exact ih (i + 1) (by omega))
      simp only [span_At.l0]
      rw [if_pos (by omega), if_pos (by omega), if_pos (by omega), hs, cast_succ_wrap hlt hl]
      by_cases h1 : s.f0 ≤ t
      · rw [if_pos (show t ≥ s.f0 from h1), if_neg (by omega)]
      · rw [if_neg (show ¬ t ≥ s.f0 by omega)]
theorem SAt_ev (l : List Sp) (t : Int) (hl : l.length ≤ 9223372036854775807) : Ev (fun k => span_At.f k l t) (atS l t) := SAt_ev_l l t hl l.length 0 (by omega)

/-! ### Horizon -/
def hzS (h : Int) : List Sp → Int
  | [] => h
  | s :: l => if s.f0 ≤ h + 1 ∧ s.f1 > h then hzS s.f1 l else hzS h l
theorem hz_far {l : List Sp} : ∀ {pe pi h : Int}, rightB pe pi l = true → (h < pe ∨ 1099511627776 ≤ h) → hzS h l = h := by
  induction l with
  | nil => intros; rfl
  | cons s l ih =>
    intro pe pi h hr hh
    obtain ⟨⟨h1, h2, h3⟩, hr'⟩ := rightB_cons.1 hr
    simp only [hzS]
    rw [if_neg (by omega)]
    exact ih hr' (by omega)
theorem HzRef_ev_l (l : List Sp) (hl : l.length ≤ 9223372036854775807) : ∀ (m i : Nat) (h : Int), i + m = l.length → -9223372036854775808 ≤ h + 1 → h ≤ 1099511627776 → (∀ s ∈ l, s.f1 ≤ 1099511627776) →
    Ev (fun k => grapevineref08_Horizon.l0 k l h (i : Int)) (hzS h (l.drop i), 0) := by
  intro m
  induction m with
  | zero =>
    intro i h hi _ _ _
    rw [List.drop_of_length_le (by omega)]
    exact Ev.done (fun k => by simp only [grapevineref08_Horizon.l0]; rw [if_neg (by omega)]; rfl)
  | succ m ih =>
    intro i h hi hh hh2 hall
    have hlt : i < l.length := by omega
    rw [drop_rd l i hlt]
    have hmem : rd_T43 l (i : Int) ∈ l := by rw [rd_at l i hlt]; exact List.getElem_mem hlt
    generalize hs : rd_T43 l (i : Int) = s at hmem
    have hsm := hall s hmem
    by_cases c : s.f0 ≤ h + 1 ∧ s.f1 > h
    · refine Ev.step (f := fun k => grapevineref08_Horizon.l0 k l s.f1 ((i + 1 : Nat) : Int)) (fun k => ?_) (by simp only [hzS]; rw [if_pos c]; exact ih (i + 1) _ (by omega) (by omega) hsm hall)
      simp only [grapevineref08_Horizon.l0]
      rw [if_pos (by omega), if_pos (by omega), hs, wrap_ok (x := h + 1) (by omega) (by omega), if_pos c.1, if_pos c.2, cast_succ_wrap hlt hl]
    · refine Ev.step (f := fun k => grapevineref08_Horizon.l0 k l h ((i + 1 : Nat) : Int)) (fun k => ?_) (by simp only [hzS]; rw [if_neg c]; exact ih (i + 1) _ (by omega) (by omega) hh2 hall)
      simp only [grapevineref08_Horizon.l0]
      rw [if_pos (by omega), if_pos (by omega), hs, wrap_ok (x := h + 1) (by omega) (by omega), cast_succ_wrap hlt hl]
      by_cases c1 : s.f0 ≤ h + 1
      · rw [if_pos c1, if_neg (fun hh => c ⟨c1, hh⟩)]
      · rw [if_neg c1]
theorem right_mem {l : List Sp} : ∀ {pe pi : Int}, rightB pe pi l = true → ∀ s ∈ l, 1 ≤ s.f2 ∧ s.f2 ≤ 3 ∧ 1 ≤ s.f0 ∧ s.f0 ≤ s.f1 ∧ s.f1 ≤ 1099511627776 := by
  induction l with
  | nil => intro _ _ _ s hs; cases hs
  | cons x l ih =>
    intro pe pi h s hs
    obtain ⟨⟨h1, h2, h3⟩, hr⟩ := rightB_cons.1 h
    rcases List.mem_cons.1 hs with rfl | hs
    · omega
    · exact ih hr s hs
def hzR (l : List Sp) (t : Int) : Int × Int := if rightB 0 0 l = true ∧ 1 ≤ t ∧ t ≤ 1099511627776 then (hzS (t - 1) l, 0) else (0, 2)
theorem HzRef_ev (l : List Sp) (t : Int) (hl : l.length ≤ 9223372036854775807) : Ev (fun k => grapevineref08_Horizon.f k l t) (hzR l t) := by
  refine Ev.bind (RRight_ev l hl) ?_
  unfold hzR
  by_cases c : rightB 0 0 l = true
  · by_cases c1 : t < 1
    · rw [if_neg (by omega)]
      exact Ev.done (fun k => by rw [if_pos c, if_pos c1]; simp only [grapevineref08_Horizon.j0]; rw [if_pos trivial])
    · by_cases c2 : t > 1099511627776
      · rw [if_neg (by omega)]
        exact Ev.done (fun k => by rw [if_pos c, if_neg c1]; simp only [grapevineref08_Horizon.j0]; rw [if_pos (by simp [c2])])
      · rw [if_pos ⟨c, by omega, by omega⟩]
        refine Ev.step (f := fun k => grapevineref08_Horizon.l0 k l (t - 1) ((0 : Nat) : Int)) (fun k => ?_) (HzRef_ev_l l hl l.length 0 (t - 1) (by omega) (by omega) (by omega) (fun s hs => (right_mem c s hs).2.2.2.2))
        rw [if_pos c, if_neg c1]; simp only [grapevineref08_Horizon.j0]; rw [if_neg (by simp [c2]), wrap_ok (by omega) (by omega)]; rfl
  · rw [if_neg (fun hh => c hh.1)]
    exact Ev.done (fun k => by rw [if_neg c]; simp only [grapevineref08_Horizon.j0]; rw [if_pos trivial])
theorem hzl_skip {s : Sp} {q : List Sp} {t : Int} (h : s.f1 < t) : ∀ k, span_Horizon.l0 k (s :: q) t = span_Horizon.l0 k q t := by
  intro k
  cases k with
  | zero => rfl
  | succ k => simp only [span_Horizon.l0, rw_skip_cons_lt h]
theorem Hz_ev_l : ∀ {p : List Sp} {pe pi t : Int}, rightB pe pi p = true → 1 ≤ t → t ≤ 1099511627777 → Ev (fun k => span_Horizon.l0 k p t) (hzS (t - 1) p, 0) := by
  intro p
  induction p with
  | nil =>
    intro pe pi t h h1 h2
    refine Ev.done (fun k => ?_)
    simp only [span_Horizon.l0, rw_skip_nil, hzS]
    rw [wrap_ok (by omega) (by omega)]
    split
    · simp [rw_know]
    · rfl
  | cons s q ih =>
    intro pe pi t h h1 h2
    have hr0 := h
    obtain ⟨⟨a1, a2, a3⟩, hr⟩ := rightB_cons.1 h
    by_cases c : s.f1 < t
    · refine Ev.congr (hzl_skip c) ?_
      simp only [hzS]
      rw [if_neg (by omega)]
      exact ih hr h1 h2
    · by_cases c2 : s.f0 > t
      · rw [show hzS (t - 1) (s :: q) = t - 1 from by simp only [hzS]; rw [if_neg (by omega)]; exact hz_far hr (.inl (by omega))]
        refine Ev.done (fun k => ?_)
        simp only [span_Horizon.l0, rw_skip_cons_ge c, rw_know]
        rw [if_pos (by omega), if_pos (by rw [if_pos c2]), wrap_ok (by omega) (by omega)]
      · refine Ev.step (f := fun k => span_Horizon.l0 k q (s.f1 + 1)) (fun k => ?_) (by have := ih (t := s.f1 + 1) hr (by omega) (by omega); simp only [hzS]; rw [if_pos (by omega)]; rwa [Int.add_sub_cancel] at this)
        simp only [span_Horizon.l0, rw_skip_cons_ge c, rw_know, rw_end]
        rw [if_pos (by omega), if_neg c2, if_neg c2, if_neg (by omega), wrap_ok (by omega) (by omega), hzl_skip (by omega)]
theorem may_ev (l : List Sp) (a b : Int) (hl : l.length ≤ 9223372036854775807) : Ev (fun k => span_may.f k l a b) (decide (rightB 0 0 l = true ∧ 1 ≤ a ∧ a ≤ b ∧ b ≤ 1099511627776)) := by
  refine Ev.bind (Right_ev l hl) (Ev.congr (fun k => ?_) (Ev.now _))
  by_cases c : rightB 0 0 l = true
  · rw [if_pos c]
    by_cases c1 : a ≥ 1
    · rw [if_pos c1]
      by_cases c2 : a ≤ b
      · rw [if_pos c2]; simp [c, c2, show (1 : Int) ≤ a from c1]
      · rw [if_neg c2]; simp [c2]
    · rw [if_neg c1]; simp [show ¬ (1 : Int) ≤ a from c1]
  · rw [if_neg c]; simp [c]
theorem Hz_ev (l : List Sp) (t : Int) (hl : l.length ≤ 9223372036854775807) : Ev (fun k => span_Horizon.f k l t) (hzR l t) := by
  refine Ev.bind (may_ev l t _ hl) ?_
  unfold hzR
  by_cases c : rightB 0 0 l = true ∧ 1 ≤ t ∧ t ≤ 1099511627776
  · rw [if_pos c]
    refine Ev.congr (f := fun k => span_Horizon.l0 k l t) (fun k => ?_) (Hz_ev_l c.1 c.2.1 (by omega))
    rw [if_pos (by simp [c])]
  · rw [if_neg c]
    refine Ev.congr (f := fun k => some (0, 2)) (fun k => ?_) (Ev.now _)
    rw [if_neg (by simp only [decide_eq_true_eq]; intro hh; exact c ⟨hh.1, hh.2.1, hh.2.2.1⟩)]

/-! ### Join; live -/
/-- What Join comes to. -/
def Joined (a b : List Sp) (r : List Sp × Int) : Prop := (rightB 0 0 a = true ∧ rightB 0 0 b = true ∧ r.2 = 0 ∧ Zips (fun t => mx (atS a t) (atS b t)) r.1) ∨ (¬ (rightB 0 0 a = true ∧ rightB 0 0 b = true) ∧ r = ([], 2))
theorem Join_ev (a b : List Sp) (ha : a.length ≤ 9223372036854775807) (hb : b.length ≤ 9223372036854775807) : ∃ r, Ev (fun k => span_Join.f k a b) r ∧ Joined a b r := by
  by_cases ca : rightB 0 0 a = true
  · by_cases cb : rightB 0 0 b = true
    · obtain ⟨r, r1, r2⟩ := zip_ev a b 57 (.inl rfl) ca cb
      refine ⟨(r, 0), Ev.bind (Right_ev a ha) (Ev.congr (fun k => if_pos ca) (Ev.bind (Right_ev b hb) (Ev.congr (fun k => if_pos cb) (Ev.bind r1 (Ev.now _))))), .inl ⟨ca, cb, rfl, r2.1, fun t t1 t2 => r2.2 t t1 t2⟩⟩
    · exact ⟨([], 2), Ev.bind (Right_ev a ha) (Ev.congr (fun k => if_pos ca) (Ev.bind (Right_ev b hb) (Ev.congr (fun k => if_neg cb) (Ev.now _)))), .inr ⟨fun h => cb h.2, rfl⟩⟩
  · exact ⟨([], 2), Ev.bind (Right_ev a ha) (Ev.congr (fun k => if_neg ca) (Ev.now _)), .inr ⟨fun h => ca h.1, rfl⟩⟩
theorem Joined_eq {a b : List Sp} {r q : List Sp × Int} (h : Joined a b r) (k : Joined a b q) : r = q := by
  rcases h with ⟨h1, h2, h3, h4⟩ | ⟨h1, h2⟩
  · rcases k with ⟨k1, k2, k3, k4⟩ | ⟨k1, k2⟩
    · exact Prod.ext (zips_eq h4 k4 (fun _ _ _ => rfl)) (by rw [h3, k3])
    · exact absurd ⟨h1, h2⟩ k1
  · rcases k with ⟨k1, k2, k3, k4⟩ | ⟨k1, k2⟩
    · exact absurd ⟨k1, k2⟩ h1
    · rw [h2, k2]
theorem JoinRef_ev (a b : List Sp) (ha : a.length ≤ 9223372036854775807) (hb : b.length ≤ 9223372036854775807) : ∃ r, Ev (fun k => grapevineref08_Join.f k a b) r ∧ Joined a b r := by
  by_cases ca : rightB 0 0 a = true
  · by_cases cb : rightB 0 0 b = true
    · obtain ⟨r, r1, r2⟩ := made_ev a b 0 (.inl rfl) ca cb
      refine ⟨(r, 0), Ev.bind (RRight_ev a ha) (Ev.congr (fun k => if_pos ca) (Ev.bind (RRight_ev b hb) (Ev.congr (fun k => if_pos cb) (Ev.bind r1 (Ev.now _))))), .inl ⟨ca, cb, rfl, r2.1, fun t t1 t2 => (r2.2 t t1 t2).trans ?_⟩⟩
      simp only [toldS, mx]
      rw [if_pos trivial]
    · exact ⟨([], 2), Ev.bind (RRight_ev a ha) (Ev.congr (fun k => if_pos ca) (Ev.bind (RRight_ev b hb) (Ev.congr (fun k => if_neg cb) (Ev.now _)))), .inr ⟨fun h => cb h.2, rfl⟩⟩
  · exact ⟨([], 2), Ev.bind (RRight_ev a ha) (Ev.congr (fun k => if_neg ca) (Ev.now _)), .inr ⟨fun h => ca h.1, rfl⟩⟩
theorem Joined_length {a b : List Sp} {r : List Sp × Int} (h : Joined a b r) : (r.1.length : Int) ≤ 1099511627776 := by
  rcases h with ⟨h1, h2, h3, h4⟩ | ⟨h1, h2⟩
  · exact length_right h4.1 (Int.le_refl 0)
  · rw [h2]; simp
theorem live_rounds : grapevinelaw08_live.f 20 = some true := by decide +kernel
theorem live_ev : Ev (fun k => grapevinelaw08_live.f k) true := Ev.of grapevinelaw08_live.mono live_rounds
end Go.Proofs.Ytpeacoppclmmlaa.PS
