/-
  PLAIN LAW: what the printed functions of the reference (layer 8) come to: Right, At, put, edges, told, made, Join, Same; and span.At.
-/
import Derived.Test.YtpeacoppclmmlaaASpanB
import Derived.Test.YtpeacoppclmmlaaAPSx5
import Derived.Test.YtpeacoppclmmlaaAPSx6
import Derived.Test.YtpeacoppclmmlaaAPSx7
namespace Go.Proofs.Ytpeacoppclmmlaa.PS
open Go.RowKit Go.Proofs.YtpeacoppclmmlaaW.PrintWords Go.Proofs.YtpeacoppclmmlaaW.PrintMore

theorem Ev.step2 {α : Type} {g f : Nat → Option α} {r : α} (h : ∀ k, g (k + 2) = f k) (k : Ev f r) : Ev g r := Ev.step (f := fun k => g (k + 1)) (fun _ => rfl) (Ev.step (f := f) h k)
theorem Ev.done2 {α : Type} {g : Nat → Option α} {r : α} (h : ∀ k, g (k + 2) = some r) : Ev g r := Ev.step2 (f := fun _ => some r) h (Ev.now r)
theorem pred_wrap {i : Nat} (h : 0 < i) (hn : i ≤ 9223372036854775807) : wrap64 ((i : Int) - 1) = ((i - 1 : Nat) : Int) := by
  rw [wrap_ok (by omega) (by omega)]; omega

/-! ### Right -/
theorem RRight_ev_l (l : List Sp) (hl : l.length ≤ 9223372036854775807) : ∀ (m i : Nat) (pe pi : Int), i + m = l.length → (i = 0 → pe = 0 ∧ pi = 0) → (0 < i → pe = (rd_T43 l ((i - 1 : Nat) : Int)).f1 ∧ pi = (rd_T43 l ((i - 1 : Nat) : Int)).f2) →
    Ev (fun k => grapevineref08_Right.l0 k l (i : Int)) (rightB pe pi (l.drop i)) := by
  intro m
  induction m with
  | zero =>
    intro i pe pi hi _ _
    rw [List.drop_of_length_le (by omega)]
    refine Ev.done (fun k => ?_)
    simp only [grapevineref08_Right.l0]
    rw [if_neg (by omega)]
    rfl
  | succ m ih =>
    intro i pe pi hi h0 hp
    have hlt : i < l.length := by omega
    rw [drop_rd l i hlt]
    generalize hs : rd_T43 l (i : Int) = s
    have hj : ∀ k, grapevineref08_Right.j1 (k + 1) l (i : Int) true = some false := fun k => by simp only [grapevineref08_Right.j1]; rw [if_pos trivial]
    have hstep : ∀ k, grapevineref08_Right.l0 (k + 2) l (i : Int) = if okS pe pi s then grapevineref08_Right.l0 k l ((i + 1 : Nat) : Int) else some false := by
      intro k
      rw [show k + 2 = (k + 1) + 1 from rfl]
      simp only [grapevineref08_Right.l0]
      rw [if_pos (by omega), if_pos (by omega), hs]
      by_cases h1 : s.f2 < 1
      · rw [if_pos h1, hj, if_neg (fun hh => by have hh := okS_iff.1 hh; omega)]
      rw [if_neg h1]
      by_cases h2 : s.f2 > 3
      · rw [if_pos h2, hj, if_neg (fun hh => by have hh := okS_iff.1 hh; omega)]
      rw [if_neg h2]
      by_cases h3 : s.f0 < 1
      · rw [if_pos h3, hj, if_neg (fun hh => by have hh := okS_iff.1 hh; omega)]
      rw [if_neg h3]
      by_cases h4 : s.f1 < s.f0
      · rw [if_pos h4, hj, if_neg (fun hh => by have hh := okS_iff.1 hh; omega)]
      rw [if_neg h4]
      by_cases h5 : s.f1 > 1099511627776
      · rw [decide_eq_true h5, hj, if_neg (fun hh => by have hh := okS_iff.1 hh; omega)]
      rw [decide_eq_false h5]
      simp only [grapevineref08_Right.j1]
      rw [if_neg (by simp), cast_succ_wrap hlt hl]
      by_cases hi0 : i = 0
      · obtain ⟨rfl, rfl⟩ := h0 hi0
        rw [if_neg (by omega), if_pos (okS_iff.2 (by omega))]
      · obtain ⟨e1, e2⟩ := hp (by omega)
        rw [if_pos (by omega), if_pos (by omega), if_pos (by omega), pred_wrap (by omega) (by omega), if_pos (by omega), if_pos (by omega), hs, ← e1, ← e2, wrap_ok (x := s.f0 - 1) (by omega) (by omega)]
        by_cases h6 : s.f0 ≤ pe
        · rw [if_pos h6, if_neg (fun hh => by have hh := okS_iff.1 hh; omega)]
        rw [if_neg h6]
        by_cases h7 : s.f0 - 1 = pe
        · rw [if_pos h7]
          by_cases h8 : s.f2 = pi
          · rw [if_pos h8, if_neg (fun hh => by have hh := okS_iff.1 hh; omega)]
          · rw [if_neg h8, if_pos (okS_iff.2 (by omega))]
        · rw [if_neg h7, if_pos (okS_iff.2 (by omega))]
    by_cases hok : okS pe pi s
    · have e : rightB pe pi (s :: l.drop (i + 1)) = rightB s.f1 s.f2 (l.drop (i + 1)) := by simp [rightB, hok]
      rw [e]
      refine Ev.step2 (f := fun k => grapevineref08_Right.l0 k l ((i + 1 : Nat) : Int)) (fun k => ?_) (ih (i + 1) _ _ (by omega) (fun h => by omega) (fun _ => by rw [show i + 1 - 1 = i by omega, hs]; exact ⟨rfl, rfl⟩))
      rw [hstep, if_pos hok]
    · have e : rightB pe pi (s :: l.drop (i + 1)) = false := by simp [rightB, hok]
      rw [e]
      exact Ev.done2 (fun k => by rw [hstep, if_neg hok])
theorem RRight_ev (l : List Sp) (hl : l.length ≤ 9223372036854775807) : Ev (fun k => grapevineref08_Right.f k l) (rightB 0 0 l) :=
  RRight_ev_l l hl l.length 0 0 0 (by omega) (fun _ => ⟨rfl, rfl⟩) (fun h => by omega)

/-! ### At -/
theorem RAt_ev_l (l : List Sp) (t : Int) (hl : l.length ≤ 9223372036854775807) : ∀ (m i : Nat), i + m = l.length → Ev (fun k => grapevineref08_At.l0 k l t (i : Int)) (atS (l.drop i) t) := by
  intro m
  induction m with
  | zero =>
    intro i hi
    rw [List.drop_of_length_le (by omega)]
    refine Ev.done (fun k => ?_)
    simp only [grapevineref08_At.l0]
    rw [if_neg (by omega)]
    rfl
  | succ m ih =>
    intro i hi
    have hlt : i < l.length := by omega
    rw [drop_rd l i hlt]
    generalize hs : rd_T43 l (i : Int) = s
    by_cases h : s.f0 ≤ t ∧ t ≤ s.f1
    · refine Ev.done (fun k => ?_)
      simp only [grapevineref08_At.l0]
      rw [if_pos (by omega), if_pos (by omega), hs, if_pos h.1, if_pos h.2, atS_cons, if_pos h]
    · refine Ev.step (f := fun k => grapevineref08_At.l0 k l t ((i + 1 : Nat) : Int)) (fun k => ?_) (by rw [atS_cons, if_neg h]; exact ih (i + 1) (by omega))
      simp only [grapevineref08_At.l0]
      rw [if_pos (by omega), if_pos (by omega), hs, cast_succ_wrap hlt hl]
      by_cases h1 : s.f0 ≤ t
      · rw [if_pos h1, if_neg (by omega)]
      · rw [if_neg h1]
theorem RAt_ev (l : List Sp) (t : Int) (hl : l.length ≤ 9223372036854775807) : Ev (fun k => grapevineref08_At.f k l t) (atS l t) := RAt_ev_l l t hl l.length 0 (by omega)

/-! ### put, edges -/
def insS : List Int → Int → List Int
  | [], n => [n]
  | x :: l, n => if n < x then n :: x :: l else if n = x then x :: l else x :: insS l n
def putS (l : List Int) (n : Int) : List Int := if n > 1099511627776 then l else insS l n
theorem insS_length (l : List Int) (n : Int) : (insS l n).length ≤ l.length + 1 := by
  induction l with
  | nil => simp [insS]
  | cons x l ih =>
    simp only [insS]
    split
    · simp
    · split
      · simp
      · simp only [List.length_cons]; omega
theorem rd_cons_drop (l : List Int) (i : Nat) (h : i < l.length) : l.drop i = rd l (i : Int) :: l.drop (i + 1) := by
  have e : rd l (i : Int) = l[i] := by
    unfold rd
    rw [Int.toNat_natCast, List.getD_eq_getElem?_getD, List.getElem?_eq_getElem h]
    rfl
  rw [e]
  exact List.drop_eq_getElem_cons h
theorem put_ev_l (l : List Int) (n : Int) (hl : l.length < 8796093022208) : ∀ (m i : Nat) (out : List Int) (b : Bool), i + m = l.length → out.length ≤ i + b.toNat →
    Ev (fun k => grapevineref08_put.l0 k l n out b (i : Int)) (out ++ if b = true then l.drop i else insS (l.drop i) n) := by
  intro m
  induction m with
  | zero =>
    intro i out b hi ho
    have hbn : b.toNat ≤ 1 := Bool.toNat_le b
    rw [List.drop_of_length_le (by omega)]
    refine Ev.done (fun k => ?_)
    simp only [grapevineref08_put.l0]
    rw [if_neg (by omega)]
    cases b with
    | true => simp
    | false => rw [if_neg (by simp), if_pos (by omega), if_neg (by simp)]; rfl
  | succ m ih =>
    intro i out b hi ho
    have hbn : b.toNat ≤ 1 := Bool.toNat_le b
    have hlt : i < l.length := by omega
    rw [rd_cons_drop l i hlt]
    generalize hx : rd l (i : Int) = x
    have hs := cast_succ_wrap hlt (by omega : l.length ≤ 9223372036854775807)
    have hcopy : ∀ (k : Nat) (b : Bool), grapevineref08_put.j1 (k + 1) l n out b (i : Int) false = grapevineref08_put.l0 k l n (out ++ [x]) b ((i + 1 : Nat) : Int) := by
      intro k b
      simp only [grapevineref08_put.j1]
      rw [if_neg (by simp), if_pos (by omega), if_pos (by omega), if_pos (by omega), hx, hs]
    cases b with
    | true =>
      simp only [Bool.toNat_true] at ho
      refine Ev.step2 (f := fun k => grapevineref08_put.l0 k l n (out ++ [x]) true ((i + 1 : Nat) : Int)) (fun k => ?_) (by have := ih (i + 1) (out ++ [x]) true (by omega) (by simp at ho ⊢; omega); simpa using this)
      rw [show k + 2 = (k + 1) + 1 from rfl]
      simp only [grapevineref08_put.l0]
      rw [if_pos (by omega), if_pos trivial, hcopy]
    | false =>
      simp only [Bool.toNat_false] at ho
      by_cases h1 : x ≥ n
      · by_cases h2 : x > n
        · refine Ev.step2 (f := fun k => grapevineref08_put.l0 k l n (out ++ [n] ++ [x]) true ((i + 1 : Nat) : Int)) (fun k => ?_) (by have := ih (i + 1) (out ++ [n] ++ [x]) true (by omega) (by simp at ho ⊢; omega); simp only [insS]; rw [if_neg (by simp), if_pos (by omega : n < x)]; simpa using this)
          rw [show k + 2 = (k + 1) + 1 from rfl]
          simp only [grapevineref08_put.l0]
          rw [if_pos (by omega), if_neg (by simp), if_pos (by omega), hx, decide_eq_true h1]
          simp only [grapevineref08_put.j1]
          rw [if_pos trivial, if_pos (by omega), if_pos (by omega), hx, if_pos h2, if_pos (by omega)]
          simp only [Option.bind_some]
          rw [if_pos (by simp; omega), hs]
        · refine Ev.step2 (f := fun k => grapevineref08_put.l0 k l n (out ++ [x]) true ((i + 1 : Nat) : Int)) (fun k => ?_) (by have := ih (i + 1) (out ++ [x]) true (by omega) (by simp at ho ⊢; omega); simp only [insS]; rw [if_neg (by simp), if_neg (by omega : ¬ n < x), if_pos (by omega : n = x)]; simpa using this)
          rw [show k + 2 = (k + 1) + 1 from rfl]
          simp only [grapevineref08_put.l0]
          rw [if_pos (by omega), if_neg (by simp), if_pos (by omega), hx, decide_eq_true h1]
          simp only [grapevineref08_put.j1]
          rw [if_pos trivial, if_pos (by omega), if_pos (by omega), hx, if_neg h2, if_pos (by omega), hs]
      · refine Ev.step2 (f := fun k => grapevineref08_put.l0 k l n (out ++ [x]) false ((i + 1 : Nat) : Int)) (fun k => ?_) (by have := ih (i + 1) (out ++ [x]) false (by omega) (by simp at ho ⊢; omega); simp only [insS]; rw [if_neg (by simp), if_neg (by omega : ¬ n < x), if_neg (by omega : ¬ n = x)]; simpa using this)
        rw [show k + 2 = (k + 1) + 1 from rfl]
        simp only [grapevineref08_put.l0]
        rw [if_pos (by omega), if_neg (by simp), if_pos (by omega), hx, decide_eq_false h1, hcopy]
theorem put_ev (l : List Int) (n : Int) (hl : l.length < 8796093022208) : Ev (fun k => grapevineref08_put.f k l n) (putS l n) := by
  have h := put_ev_l l n hl l.length 0 [] (decide (n > 1099511627776)) (by omega) (by simp)
  have h : Ev (fun k => grapevineref08_put.f k l n) _ := h
  unfold putS
  by_cases c : n > 1099511627776
  · rw [if_pos c]; simpa [c] using h
  · rw [if_neg c]; simpa [c] using h
def edgeS (e : List Int) : List Sp → List Int
  | [] => e
  | s :: l => edgeS (putS (putS e s.f0) (s.f1 + 1)) l
theorem putS_length (l : List Int) (n : Int) : (putS l n).length ≤ l.length + 1 := by
  unfold putS; split
  · omega
  · exact insS_length l n
theorem edgeS_length (l : List Sp) : ∀ e, (edgeS e l).length ≤ e.length + 2 * l.length := by
  induction l with
  | nil => intro e; simp [edgeS]
  | cons s l ih =>
    intro e
    have := ih (putS (putS e s.f0) (s.f1 + 1))
    have h1 := putS_length (putS e s.f0) (s.f1 + 1)
    have h2 := putS_length e s.f0
    simp only [edgeS, List.length_cons]
    omega
theorem edges_inner {r : List Int} (x0 : List (List Sp)) (j : Nat) (hj : j < x0.length) (L : List Sp) (hL : rd_L2 x0 (j : Int) = L) (hlen : L.length ≤ 9223372036854775807) (hb : ∀ s ∈ L, -9223372036854775808 ≤ s.f1 ∧ s.f1 < 9223372036854775807) :
    ∀ (m i : Nat) (e : List Int), i + m = L.length → e.length + 2 * m < 8796093022208 → Ev (fun k => grapevineref08_edges.l0 k x0 (edgeS e (L.drop i)) (wrap64 ((j : Int) + 1))) r → Ev (fun k => grapevineref08_edges.l1 k x0 e (j : Int) (i : Int)) r := by
  intro m
  induction m with
  | zero =>
    intro i e hi he h
    rw [List.drop_of_length_le (by omega)] at h
    refine Ev.step (f := fun k => grapevineref08_edges.l0 k x0 e (wrap64 ((j : Int) + 1))) (fun k => ?_) h
    simp only [grapevineref08_edges.l1]
    rw [if_pos (by omega), if_pos (by omega), hL, if_neg (by omega)]
  | succ m ih =>
    intro i e hi he h
    have hlt : i < L.length := by omega
    rw [drop_rd L i hlt] at h
    have hmem : rd_T43 L (i : Int) ∈ L := by rw [rd_at L i hlt]; exact List.getElem_mem hlt
    generalize hs : rd_T43 L (i : Int) = s at h hmem
    have hw := hb s hmem
    simp only [edgeS] at h
    have l1 := putS_length e s.f0
    have l2 := putS_length (putS e s.f0) (s.f1 + 1)
    refine Ev.step (f := fun k => (grapevineref08_put.f k e s.f0).bind fun t => (grapevineref08_put.f k t (s.f1 + 1)).bind fun t' => grapevineref08_edges.l1 k x0 t' (j : Int) ((i + 1 : Nat) : Int)) (fun k => ?_)
      (Ev.bind (put_ev e s.f0 (by omega)) (Ev.bind (put_ev _ (s.f1 + 1) (by omega)) (ih (i + 1) _ (by omega) (by omega) h)))
    simp only [grapevineref08_edges.l1]
    rw [if_pos (by omega), if_pos (by omega), hL, if_pos (by omega), if_pos (by omega), hs, wrap_ok (x := s.f1 + 1) (by omega) (by omega), cast_succ_wrap hlt hlen]
theorem edges_ev (a b : List Sp) (ha : rightB 0 0 a = true) (hb : rightB 0 0 b = true) : Ev (fun k => grapevineref08_edges.f k [a, b]) (edgeS (edgeS [1] a) b) := by
  have la := length_right ha (Int.le_refl 0)
  have lb := length_right hb (Int.le_refl 0)
  have le := edgeS_length a [1]
  have bound : ∀ {l : List Sp} {pe pi : Int}, rightB pe pi l = true → ∀ s ∈ l, -9223372036854775808 ≤ s.f1 ∧ s.f1 < 9223372036854775807 := by
    intro l
    induction l with
    | nil => intro _ _ _ s hs; cases hs
    | cons x l ih =>
      intro pe pi h s hs
      obtain ⟨⟨h1, h2, h3⟩, hr⟩ := rightB_cons.1 h
      rcases List.mem_cons.1 hs with rfl | hs
      · omega
      · exact ih hr s hs
  have fin : Ev (fun k => grapevineref08_edges.l0 k [a, b] (edgeS (edgeS [1] a) b) 2) (edgeS (edgeS [1] a) b) := Ev.done (fun k => by
    simp only [grapevineref08_edges.l0]; rw [if_neg (by simp)])
  have second : Ev (fun k => grapevineref08_edges.l0 k [a, b] (edgeS [1] a) 1) (edgeS (edgeS [1] a) b) := by
    refine Ev.step (f := fun k => grapevineref08_edges.l1 k [a, b] (edgeS [1] a) ((1 : Nat) : Int) ((0 : Nat) : Int)) (fun k => ?_) (edges_inner [a, b] 1 (by simp) b rfl (by omega) (bound hb) b.length 0 _ (by omega) (by simp at le; omega) (by rw [show wrap64 (((1 : Nat) : Int) + 1) = 2 from by rw [wrap_ok (by decide) (by decide)]; rfl]; exact fin))
    simp only [grapevineref08_edges.l0]; rw [if_pos (by simp)]; rfl
  have first : Ev (fun k => grapevineref08_edges.l0 k [a, b] [1] 0) (edgeS (edgeS [1] a) b) := by
    refine Ev.step (f := fun k => grapevineref08_edges.l1 k [a, b] [1] ((0 : Nat) : Int) ((0 : Nat) : Int)) (fun k => ?_) (edges_inner [a, b] 0 (by simp) a rfl (by omega) (bound ha) a.length 0 _ (by omega) (by simp; omega) (by rw [show wrap64 (((0 : Nat) : Int) + 1) = 1 from by rw [wrap_ok (by decide) (by decide)]; rfl]; exact second))
    simp only [grapevineref08_edges.l0]; rw [if_pos (by simp)]; rfl
  exact first
end Go.Proofs.Ytpeacoppclmmlaa.PS
