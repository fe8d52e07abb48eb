/-
  PLAIN LAW: maps of spans. What is known of a tick; right maps; two right maps that know the same are the same; a span put at a right map's end.
-/
import Derived.Test.YtffefaiaifhokaaSOPTx0
namespace Go.Proofs.Ytffefaiaifhokaa.PT
open Go.RowKit Go.Proofs.YtffefaiaifhokaaW.PrintWords

abbrev Sp := S38
def okS (pe pi : Int) (s : Sp) : Prop := (1 ≤ s.f2 ∧ s.f2 ≤ 3 ∧ 1 ≤ s.f0 ∧ s.f0 ≤ s.f1 ∧ s.f1 ≤ 1099511627776) ∧ pe < s.f0 ∧ ¬ (s.f0 = pe + 1 ∧ s.f2 = pi)
instance (pe pi : Int) (s : Sp) : Decidable (okS pe pi s) := by unfold okS; infer_instance
theorem okS_iff {pe pi : Int} {s : Sp} : okS pe pi s ↔ ((1 ≤ s.f2 ∧ s.f2 ≤ 3 ∧ 1 ≤ s.f0 ∧ s.f0 ≤ s.f1 ∧ s.f1 ≤ 1099511627776) ∧ pe < s.f0 ∧ ¬ (s.f0 = pe + 1 ∧ s.f2 = pi)) := Iff.rfl
def rightB : Int → Int → List Sp → Bool
  | _, _, [] => true
  | pe, pi, s :: l => decide (okS pe pi s) && rightB s.f1 s.f2 l
def atS : List Sp → Int → Int
  | [], _ => 0
  | s :: l, t => if s.f0 ≤ t ∧ t ≤ s.f1 then s.f2 else atS l t
theorem rightB_cons {pe pi : Int} {s : Sp} {l : List Sp} : rightB pe pi (s :: l) = true ↔ okS pe pi s ∧ rightB s.f1 s.f2 l = true := by
  simp [rightB, Bool.and_eq_true]
theorem atS_cons (s : Sp) (l : List Sp) (t : Int) : atS (s :: l) t = if s.f0 ≤ t ∧ t ≤ s.f1 then s.f2 else atS l t := rfl

theorem at_le {l : List Sp} : ∀ {pe pi t : Int}, rightB pe pi l = true → t ≤ pe → atS l t = 0 := by
  induction l with
  | nil => intros; rfl
  | cons s l ih =>
    intro pe pi t h ht
    obtain ⟨⟨h1, h2, h3⟩, hr⟩ := rightB_cons.1 h
    rw [atS_cons, if_neg (by omega)]
    exact ih hr (by omega)
theorem at_top {l : List Sp} : ∀ {pe pi t : Int}, rightB pe pi l = true → 1099511627776 < t → atS l t = 0 := by
  induction l with
  | nil => intros; rfl
  | cons s l ih =>
    intro pe pi t h ht
    obtain ⟨⟨h1, h2, h3⟩, hr⟩ := rightB_cons.1 h
    rw [atS_cons, if_neg (by omega)]
    exact ih hr ht
theorem at_range {l : List Sp} : ∀ {pe pi : Int} (t : Int), rightB pe pi l = true → 0 ≤ atS l t ∧ atS l t ≤ 3 := by
  induction l with
  | nil => intros; simp [atS]
  | cons s l ih =>
    intro pe pi t h
    obtain ⟨⟨h1, h2, h3⟩, hr⟩ := rightB_cons.1 h
    rw [atS_cons]
    split
    · omega
    · exact ih t hr
theorem at_next {l : List Sp} {pe pi : Int} (h : rightB pe pi l = true) (hpi : 1 ≤ pi) : atS l (pe + 1) ≠ pi := by
  cases l with
  | nil => simp [atS]; omega
  | cons s l =>
    obtain ⟨⟨h1, h2, h3⟩, hr⟩ := rightB_cons.1 h
    rw [atS_cons]
    by_cases e : s.f0 = pe + 1
    · rw [if_pos (by omega)]
      omega
    · rw [if_neg (by omega), at_le hr (by omega)]
      omega

/-- TWO RIGHT MAPS THAT KNOW THE SAME ARE THE SAME. -/
theorem canon : ∀ {l m : List Sp} {pe pi pi' : Int}, rightB pe pi l = true → rightB pe pi' m = true → (∀ t, pe < t → t ≤ 1099511627776 → atS l t = atS m t) → l = m := by
  intro l
  induction l with
  | nil =>
    intro m pe pi pi' _ hm h
    cases m with
    | nil => rfl
    | cons s m =>
      obtain ⟨⟨h1, h2, h3⟩, hr⟩ := rightB_cons.1 hm
      have := h s.f0 h2 (by omega)
      rw [atS_cons, if_pos (by omega)] at this
      simp [atS] at this
      omega
  | cons s l ih =>
    intro m pe pi pi' hl hm h
    obtain ⟨⟨h1, h2, h3⟩, hr⟩ := rightB_cons.1 hl
    cases m with
    | nil =>
      have := h s.f0 h2 (by omega)
      rw [atS_cons, if_pos (by omega)] at this
      simp [atS] at this
      omega
    | cons s' m =>
      obtain ⟨⟨k1, k2, k3⟩, kr⟩ := rightB_cons.1 hm
      have a1 := h s.f0 h2 (by omega)
      have a2 := h s'.f0 k2 (by omega)
      have e0 : s.f0 = s'.f0 := by
        rcases Int.lt_trichotomy s.f0 s'.f0 with hlt | he | hgt
        · rw [atS_cons, if_pos (by omega), atS_cons, if_neg (by omega), at_le kr (by omega)] at a1
          omega
        · exact he
        · rw [atS_cons, if_neg (by omega), at_le hr (by omega), atS_cons, if_pos (by omega)] at a2
          omega
      have e2 : s.f2 = s'.f2 := by
        rw [atS_cons, if_pos (by omega), atS_cons, if_pos (by omega)] at a1
        exact a1
      have e1 : s.f1 = s'.f1 := by
        rcases Int.lt_trichotomy s.f1 s'.f1 with hlt | he | hgt
        · have a3 := h (s.f1 + 1) (by omega) (by omega)
          rw [atS_cons, if_neg (by omega), atS_cons, if_pos (by omega)] at a3
          exact absurd (a3.trans e2.symm) (at_next hr (by omega))
        · exact he
        · have a3 := h (s'.f1 + 1) (by omega) (by omega)
          rw [atS_cons, if_pos (by omega), atS_cons, if_neg (by omega)] at a3
          exact absurd (a3.symm.trans e2) (at_next kr (by omega))
      have es : s = s' := by
        cases s; cases s'
        simp only at e0 e1 e2
        subst e0; subst e1; subst e2
        rfl
      subst es
      congr 1
      refine ih hr kr (fun t ht hm => ?_)
      have a4 := h t (by omega) hm
      rwa [atS_cons, if_neg (by omega), atS_cons, if_neg (by omega)] at a4

/-! ### a map's end -/
def lastE (pe : Int) : List Sp → Int
  | [] => pe
  | s :: l => lastE s.f1 l
def lastI (pi : Int) : List Sp → Int
  | [] => pi
  | s :: l => lastI s.f2 l
theorem lastE_snoc (l : List Sp) (s : Sp) : ∀ pe, lastE pe (l ++ [s]) = s.f1 := by
  induction l with
  | nil => intro; rfl
  | cons x l ih => intro pe; exact ih _
theorem lastI_snoc (l : List Sp) (s : Sp) : ∀ pi, lastI pi (l ++ [s]) = s.f2 := by
  induction l with
  | nil => intro; rfl
  | cons x l ih => intro pe; exact ih _
theorem right_snoc (l : List Sp) (s : Sp) : ∀ pe pi, rightB pe pi (l ++ [s]) = true ↔ rightB pe pi l = true ∧ okS (lastE pe l) (lastI pi l) s := by
  induction l with
  | nil => intro pe pi; simp [rightB, lastE, lastI]
  | cons x l ih =>
    intro pe pi
    rw [List.cons_append, rightB_cons, rightB_cons, ih]
    simp only [lastE, lastI, and_assoc]
theorem lastE_ge {l : List Sp} : ∀ {pe pi : Int}, rightB pe pi l = true → pe ≤ lastE pe l ∧ (lastE pe l ≤ 1099511627776 ∨ l = []) := by
  induction l with
  | nil => intros; exact ⟨Int.le_refl _, .inr rfl⟩
  | cons s l ih =>
    intro pe pi h
    obtain ⟨⟨h1, h2, h3⟩, hr⟩ := rightB_cons.1 h
    have := ih hr
    simp only [lastE]
    refine ⟨by omega, .inl ?_⟩
    rcases this.2 with h | h
    · exact h
    · subst h; simp only [lastE]; omega
theorem length_lastE {l : List Sp} : ∀ {pe pi : Int}, rightB pe pi l = true → pe + l.length ≤ lastE pe l := by
  induction l with
  | nil => intros; simp [lastE]
  | cons s l ih =>
    intro pe pi h
    obtain ⟨⟨h1, h2, h3⟩, hr⟩ := rightB_cons.1 h
    have := ih hr
    simp only [lastE, List.length_cons]
    omega
theorem length_right {l : List Sp} {pe pi : Int} (h : rightB pe pi l = true) (hp : 0 ≤ pe) : (l.length : Int) ≤ 1099511627776 := by
  have h1 := length_lastE h
  rcases (lastE_ge h).2 with h2 | h2
  · omega
  · subst h2; simp
theorem at_past {l : List Sp} : ∀ {pe pi t : Int}, rightB pe pi l = true → lastE pe l < t → atS l t = 0 := by
  induction l with
  | nil => intros; rfl
  | cons s l ih =>
    intro pe pi t h ht
    obtain ⟨⟨h1, h2, h3⟩, hr⟩ := rightB_cons.1 h
    have := (lastE_ge hr).1
    simp only [lastE] at ht
    rw [atS_cons, if_neg (by omega)]
    exact ih hr ht
theorem at_append (m : List Sp) {l : List Sp} : ∀ {pe pi t : Int}, rightB pe pi l = true → atS (l ++ m) t = if atS l t = 0 then atS m t else atS l t := by
  induction l with
  | nil => intro pe pi t _; rw [List.nil_append]; simp [atS]
  | cons x l ih =>
    intro pe pi t h
    obtain ⟨⟨h1, h2, h3⟩, hr⟩ := rightB_cons.1 h
    rw [List.cons_append, atS_cons, ih hr, atS_cons]
    by_cases a : x.f0 ≤ t ∧ t ≤ x.f1
    · rw [if_pos a, if_pos a, if_neg (by omega)]
    · rw [if_neg a, if_neg a]
theorem at_one (s : Sp) (t : Int) : atS [s] t = if s.f0 ≤ t ∧ t ≤ s.f1 then s.f2 else 0 := rfl

/-- What a map knows of the ticks from 1 to below a place, and nothing from there on. -/
def Inv (out : List Sp) (place : Int) (F : Int → Int) : Prop :=
  rightB 0 0 out = true ∧ lastE 0 out < place ∧ ∀ t, 1 ≤ t → t < place → atS out t = F t
theorem inv_nil (F : Int → Int) : Inv [] 1 F := ⟨rfl, by simp [lastE], fun t h1 h2 => by omega⟩
theorem inv_none {out : List Sp} {place stop : Int} {F : Int → Int} (h : Inv out place F) (hle : place ≤ stop) (hF : ∀ t, place ≤ t → t ≤ stop → F t = 0) : Inv out (stop + 1) F :=
  ⟨h.1, by have := h.2.1; omega, fun t h1 h2 => by
    by_cases hp : t < place
    · exact h.2.2 t h1 hp
    · rw [hF t (by omega) (by omega)]
      exact at_past h.1 (by have := h.2.1; omega)⟩
theorem inv_new {out : List Sp} {place stop k : Int} {F : Int → Int} (h : Inv out place F) (h1 : 1 ≤ place) (hle : place ≤ stop) (hs : stop ≤ 1099511627776) (hk : 1 ≤ k) (hk3 : k ≤ 3) (hF : ∀ t, place ≤ t → t ≤ stop → F t = k)
    (hn : ¬ (lastE 0 out + 1 = place ∧ lastI 0 out = k)) : Inv (out ++ [⟨place, stop, k⟩]) (stop + 1) F := by
  obtain ⟨hr, hl, ha⟩ := h
  refine ⟨(right_snoc _ _ _ _).2 ⟨hr, ⟨hk, hk3, h1, hle, hs⟩, hl, fun hh => hn ⟨by have := hh.1; simp only at this; omega, by have := hh.2; simp only at this; omega⟩⟩, by rw [lastE_snoc]; simp only; omega, fun t t1 t2 => ?_⟩
  rw [at_append _ hr, at_one]
  by_cases hp : t < place
  · rw [if_neg (show ¬ (place ≤ t ∧ t ≤ stop) by omega), ha t t1 hp]
    split <;> simp_all
  · rw [at_past hr (by omega), if_pos rfl, if_pos (show place ≤ t ∧ t ≤ stop by omega), hF t (by omega) (by omega)]
theorem inv_more {l : List Sp} {s : Sp} {place stop : Int} {F : Int → Int} (h : Inv (l ++ [s]) place F) (hle : place ≤ stop) (hs : stop ≤ 1099511627776) (hF : ∀ t, place ≤ t → t ≤ stop → F t = s.f2) (he : s.f1 + 1 = place) : Inv (l ++ [⟨s.f0, stop, s.f2⟩]) (stop + 1) F := by
  obtain ⟨hr, hl, ha⟩ := h
  obtain ⟨hr1, ⟨⟨h1, h2, h3, h4, h5⟩, h6, h7⟩⟩ := (right_snoc _ _ _ _).1 hr
  refine ⟨(right_snoc _ _ _ _).2 ⟨hr1, ⟨h1, h2, h3, by simp only; omega, hs⟩, h6, h7⟩, by rw [lastE_snoc]; simp only; omega, fun t t1 t2 => ?_⟩
  rw [at_append _ hr1, at_one]
  simp only
  by_cases hp : t < place
  · have := ha t t1 hp
    rw [at_append _ hr1, at_one] at this
    by_cases hq : s.f0 ≤ t
    · rw [if_pos (show s.f0 ≤ t ∧ t ≤ stop by omega)]
      rwa [if_pos (show s.f0 ≤ t ∧ t ≤ s.f1 by omega)] at this
    · rw [if_neg (show ¬ (s.f0 ≤ t ∧ t ≤ stop) by omega)]
      rwa [if_neg (show ¬ (s.f0 ≤ t ∧ t ≤ s.f1) by omega)] at this
  · rw [at_past hr1 (by omega), if_pos rfl, if_pos (show s.f0 ≤ t ∧ t ≤ stop by omega), hF t (by omega) (by omega)]
theorem length_inv {out : List Sp} {place : Int} {F : Int → Int} (h : Inv out place F) : (out.length : Int) ≤ 1099511627776 := length_right h.1 (Int.le_refl 0)

/-! ### reading by places -/
theorem rd_at (l : List Sp) (i : Nat) (h : i < l.length) : rd_T38 l (i : Int) = l[i] := by
  unfold rd_T38
  rw [Int.toNat_natCast, List.getD_eq_getElem?_getD, List.getElem?_eq_getElem h]
  rfl
theorem drop_rd (l : List Sp) (i : Nat) (h : i < l.length) : l.drop i = rd_T38 l (i : Int) :: l.drop (i + 1) := by
  rw [rd_at l i h]
  exact List.drop_eq_getElem_cons h
theorem rd_last (l : List Sp) (s : Sp) : rd_T38 (l ++ [s]) (l.length : Int) = s := by
  rw [rd_at _ _ (by simp)]
  simp
theorem set_last (l : List Sp) (s x : Sp) : (l ++ [s]).set l.length x = l ++ [x] := by
  rw [List.set_append]
  simp
theorem last_of (l : List Sp) (h : l ≠ []) : ∃ m s, l = m ++ [s] := ⟨l.dropLast, l.getLast h, (List.dropLast_concat_getLast h).symm⟩
theorem wrap_ok {x : Int} (h : -9223372036854775808 ≤ x) (h' : x ≤ 9223372036854775807) : wrap64 x = x := by
  unfold wrap64; omega
end Go.Proofs.Ytffefaiaifhokaa.PT
