/-
  PLAIN LAW: what zip, Join and Same come to (for the stream's laws).
-/
import Derived.Test.YtffefaiaifhokaaSOParA
import Derived.Test.YtffefaiaifhokaaSOPTx10
import Derived.Test.YtffefaiaifhokaaSOPTx11
import Derived.Test.YtffefaiaifhokaaSOPTx12
import Derived.Test.YtffefaiaifhokaaSOPTx19
namespace Go.Proofs.Ytffefaiaifhokaa.PT
open Go.RowKit Go.Proofs.YtffefaiaifhokaaW.PrintWords Go.Proofs.YtffefaiaifhokaaW.PrintMore
/-! ### add -/
theorem add_ev {out : List Sp} {place stop k : Int} {F : Int → Int} (h : Inv out place F) (h1 : 1 ≤ place) (hle : place ≤ stop) (hs : stop ≤ 1099511627776) (hk : 0 ≤ k) (hk3 : k ≤ 3) (hF : ∀ t, place ≤ t → t ≤ stop → F t = k) :
    ∃ r, Ev (fun n => span_add.f n out place stop k) r ∧ Inv r (stop + 1) F := by
  have hlen := length_inv h
  have hf : ∀ n, span_add.f n out place stop k = span_add.j0 n out (k == 0) place stop k := fun n => by
    unfold span_add.f
    rw [if_neg (by omega)]
  by_cases k0 : k = 0
  · subst k0
    refine ⟨out, Ev.congr hf (Ev.done (fun n => ?_)), inv_none h hle hF⟩
    simp only [span_add.j0]
    rw [if_pos (by decide)]
  have hk0 : (k == 0) = false := beq_eq_false_iff_ne.mpr k0
  by_cases hnil : out = []
  · subst hnil
    refine ⟨[] ++ [⟨place, stop, k⟩], Ev.congr hf (Ev.done (fun n => ?_)), inv_new h h1 hle hs (by omega) hk3 hF (by simp [lastE, lastI]; omega)⟩
    rw [hk0]
    simp only [span_add.j0]
    rw [if_neg (by simp), if_neg (by simp), if_pos (by simp)]
  · obtain ⟨m, s, rfl⟩ := last_of out hnil
    have hsr := ((right_snoc _ _ _ _).1 h.1).2.1
    have hlast : wrap64 (((m ++ [s]).length : Int) - 1) = (m.length : Int) := by
      rw [List.length_append, List.length_singleton] at hlen ⊢
      rw [wrap_ok (by omega) (by omega)]
      omega
    have hstep : ∀ n, span_add.j0 (n + 1) (m ++ [s]) false place stop k = if s.f1 + 1 = place ∧ s.f2 = k then some (m ++ [⟨s.f0, stop, s.f2⟩]) else some ((m ++ [s]) ++ [⟨place, stop, k⟩]) := by
      intro n
      simp only [span_add.j0]
      rw [if_neg (by simp), if_pos (by rw [List.length_append, List.length_singleton]; omega), hlast, if_pos (by omega), if_pos (by rw [List.length_append, List.length_singleton]; omega), rd_last, wrap_ok (x := s.f1 + 1) (by omega) (by omega), if_pos (by omega : (m ++ [s]).length < 5864062014805), Int.toNat_natCast, set_last]
      by_cases c1 : s.f1 + 1 = place
      · rw [if_pos c1]
        by_cases c2 : s.f2 = k
        · rw [if_pos c2, if_pos ⟨c1, c2⟩]
        · rw [if_neg c2, if_neg (fun hh => c2 hh.2)]
      · rw [if_neg c1, if_neg (fun hh => c1 hh.1)]
    by_cases hc : s.f1 + 1 = place ∧ s.f2 = k
    · refine ⟨m ++ [⟨s.f0, stop, s.f2⟩], Ev.congr hf (Ev.done (fun n => ?_)), inv_more h hle hs (fun t t1 t2 => by rw [hF t t1 t2, hc.2]) hc.1⟩
      rw [hk0, hstep, if_pos hc]
    · refine ⟨(m ++ [s]) ++ [⟨place, stop, k⟩], Ev.congr hf (Ev.done (fun n => ?_)), inv_new h h1 hle hs (by omega) hk3 hF (by rw [lastE_snoc, lastI_snoc]; exact hc)⟩
      rw [hk0, hstep, if_neg hc]

/-! ### the walk through a map -/
theorem skip_ok (a : Int) : ∀ {p : List Sp} {pe pi : Int}, rightB pe pi p = true → ∃ pe' pi', rightB pe' pi' (rw_skip p a) = true ∧ (∀ t, a ≤ t → atS (rw_skip p a) t = atS p t) ∧ (∀ s q, rw_skip p a = s :: q → a ≤ s.f1) := by
  intro p
  induction p with
  | nil => intro pe pi h; exact ⟨pe, pi, h, fun _ _ => rfl, fun s q e => by cases e⟩
  | cons s p ih =>
    intro pe pi h
    obtain ⟨⟨h1, h2, h3⟩, hr⟩ := rightB_cons.1 h
    by_cases hlt : s.f1 < a
    · rw [rw_skip_cons_lt hlt]
      obtain ⟨e, i, r1, r2, r3⟩ := ih hr
      exact ⟨e, i, r1, fun t ht => by rw [r2 t ht, atS_cons, if_neg (by omega)], r3⟩
    · rw [rw_skip_cons_ge hlt]
      exact ⟨pe, pi, h, fun _ _ => rfl, fun s' q e => by cases e; omega⟩
theorem know_ok {a pe pi : Int} {p : List Sp} (h : rightB pe pi p = true) (hs : ∀ s q, p = s :: q → a ≤ s.f1) (_ha : 1 ≤ a) (hm : a ≤ 1099511627776) :
    a ≤ rw_end p a ∧ rw_end p a ≤ 1099511627776 ∧ ∀ t, a ≤ t → t ≤ rw_end p a → atS p t = rw_know p a := by
  cases p with
  | nil => exact ⟨hm, Int.le_refl _, fun t _ _ => rfl⟩
  | cons s p =>
    obtain ⟨⟨h1, h2, h3⟩, hr⟩ := rightB_cons.1 h
    have h4 := hs s p rfl
    simp only [rw_end, rw_know]
    by_cases c : s.f0 > a
    · rw [if_pos c, if_pos c, wrap_ok (by omega) (by omega)]
      exact ⟨by omega, by omega, fun t t1 t2 => by rw [atS_cons, if_neg (by omega), at_le hr (by omega)]⟩
    · rw [if_neg c, if_neg c]
      exact ⟨h4, by omega, fun t t1 t2 => by rw [atS_cons, if_pos (by omega)]⟩

theorem mn_le (a b : Int) : mn a b ≤ a ∧ mn a b ≤ b ∧ (mn a b = a ∨ mn a b = b) := by unfold mn; split <;> omega

theorem zip_ev_l {a b : List Sp} {F : Int → Int} (fid : Nat) (hF : ∀ t, F t = span_zip.one fid (atS a t) (atS b t)) (hone : ∀ x y, 0 ≤ x → x ≤ 3 → 0 ≤ y → y ≤ 3 → 0 ≤ span_zip.one fid x y ∧ span_zip.one fid x y ≤ 3) :
    ∀ (d : Nat) (place : Int) (p q out : List Sp) (pe pi qe qi : Int), (1099511627777 - place).toNat ≤ d → 1 ≤ place → place ≤ 1099511627777 → rightB pe pi p = true → rightB qe qi q = true →
      (∀ t, place ≤ t → atS p t = atS a t) → (∀ t, place ≤ t → atS q t = atS b t) → Inv out place F →
      ∃ r, Ev (fun k => span_zip.l0 k p q fid out place) r ∧ Inv r 1099511627777 F := by
  intro d
  induction d with
  | zero =>
    intro place p q out pe pi qe qi hd h1 hm hp hq hpa hqb hi
    refine ⟨out, Ev.done (fun k => ?_), ?_⟩
    · simp only [span_zip.l0]; rw [if_neg (by omega)]
    · have : place = 1099511627777 := by omega
      rwa [this] at hi
  | succ d ih =>
    intro place p q out pe pi qe qi hd h1 hm hp hq hpa hqb hi
    by_cases hle : place ≤ 1099511627776
    · obtain ⟨pe', pi', p1, p2, p3⟩ := skip_ok place hp
      obtain ⟨qe', qi', q1, q2, q3⟩ := skip_ok place hq
      obtain ⟨k1, k2, k3⟩ := know_ok p1 p3 h1 hle
      obtain ⟨l1, l2, l3⟩ := know_ok q1 q3 h1 hle
      have hmn := mn_le (rw_end (rw_skip p place) place) (rw_end (rw_skip q place) place)
      have hk := at_range place p1
      have hq' := at_range place q1
      rw [k3 place (Int.le_refl _) k1] at hk
      rw [l3 place (Int.le_refl _) l1] at hq'
      have ho := hone _ _ hk.1 hk.2 hq'.1 hq'.2
      obtain ⟨o, e1, e2⟩ := add_ev (stop := mn (rw_end (rw_skip p place) place) (rw_end (rw_skip q place) place)) hi h1 (by omega) (by omega) ho.1 ho.2 (fun t t1 t2 => by
        rw [hF, ← hpa t t1, ← hqb t t1, ← p2 t t1, ← q2 t t1, k3 t t1 (by omega), l3 t t1 (by omega)])
      obtain ⟨r, e3, e4⟩ := ih (mn (rw_end (rw_skip p place) place) (rw_end (rw_skip q place) place) + 1) (rw_skip p place) (rw_skip q place) o pe' pi' qe' qi' (by omega) (by omega) (by omega) p1 q1 (fun t ht => by rw [p2 t (by omega), hpa t (by omega)]) (fun t ht => by rw [q2 t (by omega), hqb t (by omega)]) e2
      refine ⟨r, Ev.step (f := fun k => (span_add.f k out place (mn (rw_end (rw_skip p place) place) (rw_end (rw_skip q place) place)) (span_zip.one fid (rw_know (rw_skip p place) place) (rw_know (rw_skip q place) place))).bind fun o => span_zip.l0 k (rw_skip p place) (rw_skip q place) fid o (mn (rw_end (rw_skip p place) place) (rw_end (rw_skip q place) place) + 1)) (fun k => ?_) (Ev.bind e1 e3), e4⟩
      simp only [span_zip.l0]
      rw [if_pos hle, wrap_ok (by omega) (by omega)]
    · refine ⟨out, Ev.done (fun k => ?_), ?_⟩
      · simp only [span_zip.l0]; rw [if_neg hle]
      · have : place = 1099511627777 := by omega
        rwa [this] at hi
/-- What zip comes to: the one right map that knows, of each tick, what the function says. -/
def Zips (F : Int → Int) (r : List Sp) : Prop := rightB 0 0 r = true ∧ ∀ t, 1 ≤ t → t ≤ 1099511627776 → atS r t = F t
theorem zip_ev (a b : List Sp) (fid : Nat) (hf : fid = 81 ∨ fid = 75 ∨ fid = 76) (ha : rightB 0 0 a = true) (hb : rightB 0 0 b = true) :
    ∃ r, Ev (fun k => span_zip.f k a b fid) r ∧ Zips (fun t => span_zip.one fid (atS a t) (atS b t)) r := by
  have hone : ∀ x y, 0 ≤ x → x ≤ 3 → 0 ≤ y → y ≤ 3 → 0 ≤ span_zip.one fid x y ∧ span_zip.one fid x y ≤ 3 := by
    intro x y h1 h2 h3 h4
    unfold span_zip.one mx
    repeat' split
    all_goals omega
  obtain ⟨r, e1, e2⟩ := zip_ev_l (a := a) (b := b) (F := fun t => span_zip.one fid (atS a t) (atS b t)) fid (fun _ => rfl) hone 1099511627777 1 a b [] 0 0 0 0 (by omega) (by omega) (by omega) ha hb (fun _ _ => rfl) (fun _ _ => rfl) (inv_nil _)
  refine ⟨r, Ev.congr (fun k => ?_) e1, e2.1, fun t t1 t2 => e2.2.2 t t1 (by omega)⟩
  unfold span_zip.f
  rw [if_pos hf]

/-! ### Same, At -/
deriving instance DecidableEq for S38
theorem Same_ev_l (l m : List Sp) (hlen : l.length = m.length) (hl : l.length ≤ 9223372036854775807) : ∀ (d i : Nat), i + d = l.length → Ev (fun k => grapevineref08_Same.l0 k l m (i : Int)) (decide (l.drop i = m.drop i)) := by
  intro d
  induction d with
  | zero =>
    intro i hi
    rw [List.drop_of_length_le (by omega), List.drop_of_length_le (by omega)]
    exact Ev.done (fun k => by simp only [grapevineref08_Same.l0]; rw [if_neg (by omega)]; rfl)
  | succ d ih =>
    intro i hi
    rw [drop_rd l i (by omega), drop_rd m i (by omega)]
    generalize hs : rd_T38 l (i : Int) = s
    generalize hu : rd_T38 m (i : Int) = u
    by_cases e : s = u
    · subst e
      refine Ev.step (f := fun k => grapevineref08_Same.l0 k l m ((i + 1 : Nat) : Int)) (fun k => ?_) (by have := ih (i + 1) (by omega); simpa using this)
      simp only [grapevineref08_Same.l0]
      rw [if_pos (by omega), if_pos (by omega), if_pos (by omega), hs, hu, if_neg (by simp), cast_succ_wrap (by omega : i < l.length) hl]
    · rw [decide_eq_false (by simp [e])]
      refine Ev.done (fun k => ?_)
      simp only [grapevineref08_Same.l0]
      rw [if_pos (by omega), if_pos (by omega), if_pos (by omega), hs, hu, if_pos]
      by_cases e0 : s.f0 = u.f0
      · by_cases e1 : s.f1 = u.f1
        · by_cases e2 : s.f2 = u.f2
          · exact absurd (by cases s; cases u; simp only at e0 e1 e2; subst e0; subst e1; subst e2; rfl) e
          · simp [e0, e1, e2]
        · simp [e0, e1]
      · simp [e0]
theorem Same_ev (l m : List Sp) (hl : l.length ≤ 9223372036854775807) : Ev (fun k => grapevineref08_Same.f k l m) (decide (l = m)) := by
  by_cases e : l.length = m.length
  · refine Ev.congr (f := fun k => grapevineref08_Same.l0 k l m ((0 : Nat) : Int)) (fun k => ?_) (Same_ev_l l m e hl l.length 0 (by omega))
    unfold grapevineref08_Same.f
    rw [if_pos (by omega)]; rfl
  · rw [decide_eq_false (fun h => e (by rw [h]))]
    refine Ev.congr (f := fun k => some false) (fun k => ?_) (Ev.now _)
    unfold grapevineref08_Same.f
    rw [if_neg (by omega)]
theorem Same_self (l : List Sp) (hl : l.length ≤ 9223372036854775807) : Ev (fun k => grapevineref08_Same.f k l l) true := by
  have := Same_ev l l hl
  rwa [decide_eq_true rfl] at this
/-! ### Join; live -/
/-- What Join comes to. -/
def Joined (a b : List Sp) (r : List Sp × Int) : Prop := (rightB 0 0 a = true ∧ rightB 0 0 b = true ∧ r.2 = 0 ∧ Zips (fun t => mx (atS a t) (atS b t)) r.1) ∨ (¬ (rightB 0 0 a = true ∧ rightB 0 0 b = true) ∧ r = ([], 2))
theorem Join_ev (a b : List Sp) (ha : a.length ≤ 9223372036854775807) (hb : b.length ≤ 9223372036854775807) : ∃ r, Ev (fun k => span_Join.f k a b) r ∧ Joined a b r := by
  by_cases ca : rightB 0 0 a = true
  · by_cases cb : rightB 0 0 b = true
    · obtain ⟨r, r1, r2⟩ := zip_ev a b 81 (.inl rfl) ca cb
      refine ⟨(r, 0), Ev.bind (Right_ev a ha) (Ev.congr (fun k => if_pos ca) (Ev.bind (Right_ev b hb) (Ev.congr (fun k => if_pos cb) (Ev.bind r1 (Ev.now _))))), .inl ⟨ca, cb, rfl, r2.1, fun t t1 t2 => r2.2 t t1 t2⟩⟩
    · exact ⟨([], 2), Ev.bind (Right_ev a ha) (Ev.congr (fun k => if_pos ca) (Ev.bind (Right_ev b hb) (Ev.congr (fun k => if_neg cb) (Ev.now _)))), .inr ⟨fun h => cb h.2, rfl⟩⟩
  · exact ⟨([], 2), Ev.bind (Right_ev a ha) (Ev.congr (fun k => if_neg ca) (Ev.now _)), .inr ⟨fun h => ca h.1, rfl⟩⟩
end Go.Proofs.Ytffefaiaifhokaa.PT
