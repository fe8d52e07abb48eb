/-
  PLAIN LAW: a map read back from bytes (span.Take and the reference's Take): what is read.
-/
import Derived.Test.YtpeacoppclmmlaaDSpanP
import Derived.Test.YtpeacoppclmmlaaDPSx13
import Derived.Test.YtpeacoppclmmlaaDPSx14
set_option linter.unusedSimpArgs false
set_option linter.unusedVariables false
namespace Go.Proofs.Ytpeacoppclmmlaa.PS
open Go.RowKit Go.Proofs.YtpeacoppclmmlaaW.PrintWords Go.Proofs.YtpeacoppclmmlaaW.PrintMore Go.Proofs.Ytpeacoppclmmlaa.Open
open Oct (uint uintN tk takeU Bytes)

theorem tk_ok : ∀ {r : List Int} {n : Int} {i : Nat} {p : Int}, Bytes r → 0 ≤ n → n < 128 ^ i → i ≤ 9 →
    ((tk r n i p).2.2 = 0 → 0 ≤ (tk r n i p).1 ∧ (tk r n i p).1 < 18446744073709551616 ∧ p < (tk r n i p).2.1 ∧ (tk r n i p).2.1 ≤ p + r.length) ∧ ((tk r n i p).2.2 ≠ 0 → tk r n i p = (0, 0, (tk r n i p).2.2)) := by
  intro r
  induction r with
  | nil => intro n i p _ _ _ _; exact ⟨fun h => by simp [tk] at h, fun _ => rfl⟩
  | cons x r ih =>
    intro n i p hb h0 h1 hi
    have hx := hb x (by simp)
    have hb' : Bytes r := fun y hy => hb y (by simp [hy])
    simp only [tk]
    by_cases c9 : i = 9 ∧ x > 1
    · rw [if_pos c9]; exact ⟨fun h => by simp at h, fun _ => rfl⟩
    rw [if_neg c9]
    have h9 : i = 9 → x ≤ 1 := fun h => by
      by_cases hh : x > 1
      · exact absurd ⟨h, hh⟩ c9
      · omega
    obtain ⟨f1, f2, f3⟩ := Oct.fits h0 h1 hi hx h9
    by_cases c : x ≥ 128
    · rw [if_pos c]
      have hi8 : i ≤ 8 := by
        rcases Nat.lt_or_ge i 9 with h | h
        · omega
        · have := h9 (by omega); omega
      obtain ⟨i1, i2⟩ := ih (p := p + 1) hb' (by omega) (f3 hi8) (show i + 1 ≤ 9 by omega)
      refine ⟨fun h => ?_, i2⟩
      obtain ⟨j1, j2, j3, j4⟩ := i1 h
      refine ⟨j1, j2, by omega, ?_⟩
      rw [List.length_cons]
      omega
    · rw [if_neg c]
      by_cases cz : x = 0 ∧ i > 0
      · rw [if_pos cz]; exact ⟨fun h => by simp at h, fun _ => rfl⟩
      · rw [if_neg cz]
        refine ⟨fun _ => ⟨by show 0 ≤ n + x % 128 * 128 ^ i; omega, f1, by show p < p + 1; omega, ?_⟩, fun h => absurd rfl h⟩
        show p + 1 ≤ p + ((x :: r).length : Int)
        rw [List.length_cons]
        omega
theorem takeU_ok {b : List Int} (hb : Bytes b) (t : Int) :
    ((takeU b t).2.2 = 0 → 0 ≤ t ∧ 0 ≤ (takeU b t).1 ∧ (takeU b t).1 < 18446744073709551616 ∧ t < (takeU b t).2.1 ∧ (takeU b t).2.1 ≤ b.length) ∧ ((takeU b t).2.2 ≠ 0 → takeU b t = (0, 0, (takeU b t).2.2)) := by
  unfold takeU
  by_cases c : t < 0 ∨ t > b.length
  · rw [if_pos c]; exact ⟨fun h => by simp at h, fun _ => rfl⟩
  · rw [if_neg c]
    obtain ⟨h1, h2⟩ := tk_ok (p := t) (i := 0) (Oct.bytes_drop hb t.toNat) (Int.le_refl 0) (by decide) (by omega)
    refine ⟨fun h => ?_, h2⟩
    obtain ⟨j1, j2, j3, j4⟩ := h1 h
    rw [List.length_drop] at j4
    exact ⟨by omega, j1, j2, j3, by omega⟩
/-- What Take comes to, behind the number of spans: so many more, at a place, those before, the last one's end and what it tells. -/
def takeS : Nat → List Int → Int → List Sp → Int → Int → List Sp × Int × Int
  | 0, _, pos, out, _, _ => (out, pos, 0)
  | m + 1, b, pos, out, pe, pi =>
    if (takeU b pos).2.2 = 0 then
      (if (takeU b (takeU b pos).2.1).2.2 = 0 then
        (if (takeU b (takeU b pos).2.1).2.1 ≥ b.length then ([], 0, 3) else
          if pe + (takeU b pos).1 + (takeU b (takeU b pos).2.1).1 + 1 > 1099511627776 then ([], 0, 4) else
          if rd b (takeU b (takeU b pos).2.1).2.1 < 1 ∨ rd b (takeU b (takeU b pos).2.1).2.1 > 3 then ([], 0, 4) else
          if (takeU b pos).1 = 0 ∧ rd b (takeU b (takeU b pos).2.1).2.1 = pi then ([], 0, 4) else
          takeS m b ((takeU b (takeU b pos).2.1).2.1 + 1) (out ++ [⟨pe + 1 + (takeU b pos).1, pe + 1 + (takeU b pos).1 + (takeU b (takeU b pos).2.1).1, rd b (takeU b (takeU b pos).2.1).2.1⟩]) (pe + 1 + (takeU b pos).1 + (takeU b (takeU b pos).2.1).1) (rd b (takeU b (takeU b pos).2.1).2.1))
      else ([], 0, (takeU b (takeU b pos).2.1).2.2))
    else ([], 0, (takeU b pos).2.2)
theorem Take_span_l {b : List Int} (hb : Bytes b) (hlen : b.length ≤ 9223372036854775000) (c : Int) (hc : c ≤ 256) : ∀ (m i : Nat) (pos : Int) (out : List Sp) (pf pe pi : Int), (i : Int) + m = c → out.length = i → 0 ≤ pe → pe ≤ 1099511627776 →
    Ev (fun k => span_Take.l0 k b pos out c (i : Int) pf pe pi) (takeS m b pos out pe pi) := by
  intro m
  induction m with
  | zero =>
    intro i pos out pf pe pi hi ho hp hp'
    refine Ev.done (fun k => ?_)
    simp only [span_Take.l0]
    rw [if_neg (by omega)]
    rfl
  | succ m ih =>
    intro i pos out pf pe pi hi ho hp hp'
    obtain ⟨A1, A2⟩ := takeU_ok hb pos
    have EA := (Oct.TakeUint_ev hb hlen pos).1
    apply Oct.Ev.succ
    simp only [span_Take.l0, if_pos (show (i : Int) < c by omega)]
    refine Ev.bind EA ?_
    simp only [takeS]
    generalize takeU b pos = a at A1 A2
    obtain ⟨v, p, e⟩ := a
    simp only at A1 A2 ⊢
    have err : ∀ (x8 e : Int) (x12 x13 : Int), e ≠ 0 → Ev (fun k => span_Take.j1 k b x8 e out x12 x13 c (i : Int) pf pe pi) ([], 0, e) := by
      intro x8 e x12 x13 he
      refine Ev.done (fun k => ?_)
      simp only [span_Take.j1]
      rw [if_neg he]
    by_cases c1 : e = 0
    case neg =>
      simp only [if_neg c1]
      exact err _ _ _ _ c1
    simp only [if_pos c1]
    obtain ⟨a1, a2, a3, a4, a5⟩ := A1 c1
    obtain ⟨B1, B2⟩ := takeU_ok hb p
    have EB := (Oct.TakeUint_ev hb hlen p).1
    refine Ev.bind EB ?_
    generalize takeU b p = a at B1 B2
    obtain ⟨w, q, f⟩ := a
    simp only at B1 B2 ⊢
    by_cases c2 : f = 0
    case neg =>
      simp only [if_neg c2]
      exact err _ _ _ _ c2
    subst c2
    simp only [if_true]
    obtain ⟨b1, b2, b3, b4, b5⟩ := B1 rfl
    by_cases c3 : q ≥ b.length
    · rw [if_pos c3]
      refine Ev.done (fun k => ?_)
      simp only [span_Take.j1]
      rw [if_pos trivial, if_pos c3]
    rw [if_neg c3]
    have hx := Oct.rd_bytes hb q.toNat (by omega)
    rw [show ((q.toNat : Nat) : Int) = q from by omega] at hx
    generalize hxx : rd b q = x at hx
    have q0 : 0 ≤ q := by omega
    have q1 : q < b.length := by omega
    have hroom : out.length < 5864062014805 := by omega
    have hi1 : ((i + 1 : Nat) : Int) + m = c := by omega
    have ho1 : ∀ s : Sp, (out ++ [s]).length = i + 1 := fun s => by rw [List.length_append, List.length_singleton, ho]
    have key : Ev (fun k => span_Take.j1 k b q 0 out v w c (i : Int) pf pe pi) (if pe + v + w + 1 > 1099511627776 then ([], 0, 4) else if x < 1 ∨ x > 3 then ([], 0, 4) else if v = 0 ∧ x = pi then ([], 0, 4) else takeS m b (q + 1) (out ++ [⟨pe + 1 + v, pe + 1 + v + w, x⟩]) (pe + 1 + v + w) x) := by
      have n1 : v ≥ 1099511627776 - pe → pe + v + w + 1 > 1099511627776 := fun h => by omega
      have n2 : w ≥ 1099511627776 - pe - v → pe + v + w + 1 > 1099511627776 := fun h => by omega
      have n3 : ¬ v ≥ 1099511627776 - pe → ¬ w ≥ 1099511627776 - pe - v → ¬ pe + v + w + 1 > 1099511627776 ∧ 0 ≤ pe + 1 + v + w ∧ pe + 1 + v + w ≤ 1099511627776 := fun h h' => by omega
      have n4 : x < 1 → (x < 1 ∨ x > 3) := fun h => .inl h
      have n5 : x > 3 → (x < 1 ∨ x > 3) := fun h => .inr h
      have n6 : ¬ x < 1 → ¬ x > 3 → ¬ (x < 1 ∨ x > 3) := fun h h' hh => hh.elim h h'
      have r1 : IntKind.u64.wrap (wrap64 (1099511627776 - pe)) = 1099511627776 - pe := by
        rw [wrap_ok (by omega) (by omega), Oct.wrapu_ok (by omega) (by omega)]
      have r2 : ¬ v ≥ 1099511627776 - pe → IntKind.u64.wrap (1099511627776 - pe - v) = 1099511627776 - pe - v := fun h => Oct.wrapu_ok (by omega) (by omega)
      have r3 : wrap64 x = x := wrap_ok (by omega) (by omega)
      have r4 : ¬ v ≥ 1099511627776 - pe → wrap64 (wrap64 (pe + 1) + wrap64 v) = pe + 1 + v := fun h => by
        rw [wrap_ok (x := pe + 1) (by omega) (by omega), wrap_ok (x := v) (by omega) (by omega), wrap_ok (by omega) (by omega)]
      have r5 : ¬ v ≥ 1099511627776 - pe → ¬ w ≥ 1099511627776 - pe - v → wrap64 (pe + 1 + v + wrap64 w) = pe + 1 + v + w := fun h h' => by
        rw [wrap_ok (x := w) (by omega) (by omega), wrap_ok (by omega) (by omega)]
      have r6 : wrap64 (q + 1) = q + 1 := wrap_ok (by omega) (by omega)
      have r7 : wrap64 ((i : Int) + 1) = ((i + 1 : Nat) : Int) := by rw [wrap_ok (by omega) (by omega)]; omega
      by_cases d1 : v ≥ 1099511627776 - pe
      · rw [if_pos (n1 d1)]
        refine Ev.done (fun k => ?_)
        simp only [span_Take.j1]
        rw [if_pos trivial, if_neg c3, if_pos q0, if_pos q1, r1, if_pos d1]
      by_cases d2 : w ≥ 1099511627776 - pe - v
      · rw [if_pos (n2 d2)]
        refine Ev.done (fun k => ?_)
        simp only [span_Take.j1]
        rw [if_pos trivial, if_neg c3, if_pos q0, if_pos q1, r1, if_neg d1, r2 d1, if_pos d2]
      obtain ⟨n7, n8, n9⟩ := n3 d1 d2
      rw [if_neg n7]
      by_cases d3 : x < 1
      · rw [if_pos (n4 d3)]
        refine Ev.done (fun k => ?_)
        simp only [span_Take.j1]
        rw [if_pos trivial, if_neg c3, if_pos q0, if_pos q1, r1, if_neg d1, r2 d1, if_neg d2, hxx, r3, if_pos d3]
      by_cases d4 : x > 3
      · rw [if_pos (n5 d4)]
        refine Ev.done (fun k => ?_)
        simp only [span_Take.j1]
        rw [if_pos trivial, if_neg c3, if_pos q0, if_pos q1, r1, if_neg d1, r2 d1, if_neg d2, hxx, r3, if_neg d3, if_pos d4]
      rw [if_neg (n6 d3 d4)]
      have hrec := ih (i + 1) (q + 1) (out ++ [⟨pe + 1 + v, pe + 1 + v + w, x⟩]) (pe + 1 + v) (pe + 1 + v + w) x hi1 (ho1 _) n8 n9
      by_cases d5 : v = 0
      · by_cases d6 : x = pi
        · rw [if_pos ⟨d5, d6⟩]
          refine Ev.done (fun k => ?_)
          simp only [span_Take.j1]
          rw [if_pos trivial, if_neg c3, if_pos q0, if_pos q1, r1, if_neg d1, r2 d1, if_neg d2, hxx, r3, if_neg d3, if_neg d4, if_pos d5, if_pos d6]
        · rw [if_neg (fun h => d6 h.2)]
          refine Ev.step (fun k => ?_) hrec
          simp only [span_Take.j1]
          rw [if_pos trivial, if_neg c3, if_pos q0, if_pos q1, r1, if_neg d1, r2 d1, if_neg d2, hxx, r3, if_neg d3, if_neg d4, if_pos d5, if_neg d6, if_pos hroom, r4 d1, r5 d1 d2, r6, r7]
      · rw [if_neg (fun h => d5 h.1)]
        refine Ev.step (fun k => ?_) hrec
        simp only [span_Take.j1]
        rw [if_pos trivial, if_neg c3, if_pos q0, if_pos q1, r1, if_neg d1, r2 d1, if_neg d2, hxx, r3, if_neg d3, if_neg d4, if_neg d5, if_pos hroom, r4 d1, r5 d1 d2, r6, r7]
    exact key
theorem Take_ref_l {b : List Int} (hb : Bytes b) (hlen : b.length ≤ 9223372036854775000) (c : Int) (hc : c ≤ 256) (hc0 : 0 ≤ c) : ∀ (m i : Nat) (pos : Int) (out : List Sp) (pe pi : Int), (i : Int) + m = c → out.length = i → 0 ≤ pe → pe ≤ 1099511627776 → (i = 0 → pi = 0) → (0 < i → (rd_T43 out ((i - 1 : Nat) : Int)).f2 = pi) →
    Ev (fun k => grapevineref08_Take.l0 k b c pos out pe (i : Int)) (takeS m b pos out pe pi) := by
  intro m
  have hcw : wrap64 c = c := wrap_ok (by omega) (by omega)
  induction m with
  | zero =>
    intro i pos out pe pi hi ho hp hp' hpi0 hpi
    refine Ev.done (fun k => ?_)
    simp only [grapevineref08_Take.l0]
    rw [hcw, if_neg (by omega)]
    rfl
  | succ m ih =>
    intro i pos out pe pi hi ho hp hp' hpi0 hpi
    obtain ⟨A1, A2⟩ := takeU_ok hb pos
    have EA := (Oct.TakeUint_ev hb hlen pos).2
    apply Oct.Ev.succ
    simp only [grapevineref08_Take.l0, hcw, if_pos (show (i : Int) < c by omega)]
    refine Ev.bind EA ?_
    simp only [takeS]
    generalize takeU b pos = a at A1 A2
    obtain ⟨v, p, e⟩ := a
    simp only at A1 A2 ⊢
    by_cases c1 : e = 0
    case neg =>
      simp only [if_neg c1]
      exact Ev.now _
    simp only [if_pos c1]
    obtain ⟨a1, a2, a3, a4, a5⟩ := A1 c1
    obtain ⟨B1, B2⟩ := takeU_ok hb p
    have EB := (Oct.TakeUint_ev hb hlen p).2
    refine Ev.bind EB ?_
    generalize takeU b p = a at B1 B2
    obtain ⟨w, q, f⟩ := a
    simp only at B1 B2 ⊢
    by_cases c2 : f = 0
    case neg =>
      simp only [if_neg c2]
      exact Ev.now _
    subst c2
    simp only [if_true]
    obtain ⟨b1, b2, b3, b4, b5⟩ := B1 rfl
    by_cases c3 : q ≥ b.length
    · rw [if_pos c3]
      simp only [if_pos (show q = (b.length : Int) by omega)]
      exact Ev.now _
    rw [if_neg c3]
    simp only [if_neg (show ¬ q = (b.length : Int) by omega)]
    have hx := Oct.rd_bytes hb q.toNat (by omega)
    rw [show ((q.toNat : Nat) : Int) = q from by omega] at hx
    generalize hxx : rd b q = x at hx
    have q0 : 0 ≤ q := by omega
    have q1 : q < b.length := by omega
    have hroom : out.length < 5864062014805 := by omega
    have hi1 : ((i + 1 : Nat) : Int) + m = c := by omega
    have ho1 : ∀ s : Sp, (out ++ [s]).length = i + 1 := fun s => by rw [List.length_append, List.length_singleton, ho]
    have hlast : ∀ s : Sp, rd_T43 (out ++ [s]) ((i + 1 - 1 : Nat) : Int) = s := fun s => by rw [Nat.add_sub_cancel, ← ho]; exact rd_last out s
    have n1 : v > 1099511627776 → pe + v + w + 1 > 1099511627776 := fun h => by omega
    have n2 : w > 1099511627776 → pe + v + w + 1 > 1099511627776 := fun h => by omega
    have n3 : pe + 1 + v + w > 1099511627776 → pe + v + w + 1 > 1099511627776 := fun h => by omega
    have n3' : ¬ pe + 1 + v + w > 1099511627776 → ¬ pe + v + w + 1 > 1099511627776 ∧ 0 ≤ pe + 1 + v + w ∧ pe + 1 + v + w ≤ 1099511627776 := fun h => by omega
    have n4 : x < 1 → (x < 1 ∨ x > 3) := fun h => .inl h
    have n5 : x > 3 → (x < 1 ∨ x > 3) := fun h => .inr h
    have n6 : ¬ x < 1 → ¬ x > 3 → ¬ (x < 1 ∨ x > 3) := fun h h' hh => hh.elim h h'
    have s1 : (i : Int) > 0 → (0 : Int) ≤ ((i - 1 : Nat) : Int) ∧ ((i - 1 : Nat) : Int) < (out.length : Int) ∧ 0 < i := fun h => ⟨by omega, by omega, by omega⟩
    have s2 : ¬ (i : Int) > 0 → i = 0 := fun h => by omega
    have s3 : ¬ (i : Int) > 0 → ¬ x < 1 → ¬ x = pi := fun h h' => by have := hpi0 (s2 h); omega
    have r8 : (i : Int) > 0 → wrap64 ((i : Int) - 1) = ((i - 1 : Nat) : Int) := fun h => pred_wrap (by omega) (by omega)
    have r3 : wrap64 x = x := wrap_ok (by omega) (by omega)
    have r4 : ¬ v > 1099511627776 → wrap64 (wrap64 (pe + 1) + wrap64 v) = pe + 1 + v := fun h => by
      rw [wrap_ok (x := pe + 1) (by omega) (by omega), wrap_ok (x := v) (by omega) (by omega), wrap_ok (by omega) (by omega)]
    have r5 : ¬ v > 1099511627776 → ¬ w > 1099511627776 → wrap64 (pe + 1 + v + wrap64 w) = pe + 1 + v + w := fun h h' => by
      rw [wrap_ok (x := w) (by omega) (by omega), wrap_ok (by omega) (by omega)]
    have r6 : wrap64 (q + 1) = q + 1 := wrap_ok (by omega) (by omega)
    have r7 : wrap64 ((i : Int) + 1) = ((i + 1 : Nat) : Int) := by rw [wrap_ok (by omega) (by omega)]; omega
    by_cases d1 : v > 1099511627776
    · rw [if_pos (n1 d1)]
      simp only [if_pos d1]
      refine Ev.done (fun k => ?_)
      simp only [grapevineref08_Take.j1]
      rw [if_pos trivial]
    simp only [if_neg d1]
    by_cases d2 : w > 1099511627776
    · rw [if_pos (n2 d2), decide_eq_true d2]
      refine Ev.done (fun k => ?_)
      simp only [grapevineref08_Take.j1]
      rw [if_pos trivial]
    rw [decide_eq_false d2]
    by_cases d7 : pe + 1 + v + w > 1099511627776
    · rw [if_pos (n3 d7)]
      refine Ev.done (fun k => ?_)
      simp only [grapevineref08_Take.j1]
      rw [if_neg Bool.false_ne_true, if_pos q0, if_pos q1, r4 d1, r5 d1 d2, if_pos d7]
    obtain ⟨n7, n8, n9⟩ := n3' d7
    rw [if_neg n7]
    by_cases d3 : x < 1
    · rw [if_pos (n4 d3)]
      refine Ev.done (fun k => ?_)
      simp only [grapevineref08_Take.j1]
      rw [if_neg Bool.false_ne_true, if_pos q0, if_pos q1, r4 d1, r5 d1 d2, if_neg d7, hxx, r3, if_pos d3]
    by_cases d4 : x > 3
    · rw [if_pos (n5 d4)]
      refine Ev.done (fun k => ?_)
      simp only [grapevineref08_Take.j1]
      rw [if_neg Bool.false_ne_true, if_pos q0, if_pos q1, r4 d1, r5 d1 d2, if_neg d7, hxx, r3, if_neg d3, if_pos d4]
    rw [if_neg (n6 d3 d4)]
    have hrec := ih (i + 1) (q + 1) (out ++ [⟨pe + 1 + v, pe + 1 + v + w, x⟩]) (pe + 1 + v + w) x hi1 (ho1 _) n8 n9 (fun h => by cases h) (fun _ => by rw [hlast])
    by_cases d8 : (i : Int) > 0
    · obtain ⟨t1, t2, t3⟩ := s1 d8
      by_cases d5 : v = 0
      · by_cases d6 : x = pi
        · rw [if_pos ⟨d5, d6⟩]
          refine Ev.done (fun k => ?_)
          simp only [grapevineref08_Take.j1]
          rw [if_neg Bool.false_ne_true, if_pos q0, if_pos q1, r4 d1, r5 d1 d2, if_neg d7, hxx, r3, if_neg d3, if_neg d4, if_pos d8, if_pos d5, r8 d8, if_pos t1, if_pos t2, hpi t3, if_pos d6]
        · rw [if_neg (fun h => d6 h.2)]
          refine Ev.step (fun k => ?_) hrec
          simp only [grapevineref08_Take.j1]
          rw [if_neg Bool.false_ne_true, if_pos q0, if_pos q1, r4 d1, r5 d1 d2, if_neg d7, hxx, r3, if_neg d3, if_neg d4, if_pos d8, if_pos d5, r8 d8, if_pos t1, if_pos t2, hpi t3, if_neg d6, if_pos hroom, r6, r7]
      · rw [if_neg (fun h => d5 h.1)]
        refine Ev.step (fun k => ?_) hrec
        simp only [grapevineref08_Take.j1]
        rw [if_neg Bool.false_ne_true, if_pos q0, if_pos q1, r4 d1, r5 d1 d2, if_neg d7, hxx, r3, if_neg d3, if_neg d4, if_pos d8, if_neg d5, if_pos hroom, r6, r7]
    · rw [if_neg (fun h => s3 d8 d3 h.2)]
      refine Ev.step (fun k => ?_) hrec
      simp only [grapevineref08_Take.j1]
      rw [if_neg Bool.false_ne_true, if_pos q0, if_pos q1, r4 d1, r5 d1 d2, if_neg d7, hxx, r3, if_neg d3, if_neg d4, if_neg d8, if_pos hroom, r6, r7]
/-- What Take comes to. -/
def takeR (b : List Int) (t : Int) : List Sp × Int × Int := if (takeU b t).2.2 = 0 then (if (takeU b t).1 > 256 then ([], 0, 6) else takeS (takeU b t).1.toNat b (takeU b t).2.1 [] 0 0) else ([], 0, (takeU b t).2.2)
theorem Take_ev {b : List Int} (hb : Bytes b) (hlen : b.length ≤ 9223372036854775000) (t : Int) : Ev (fun k => span_Take.f k b t) (takeR b t) ∧ Ev (fun k => grapevineref08_Take.f k b t) (takeR b t) := by
  have hspan : ∀ c p : Int, 0 ≤ c → c ≤ 256 → Ev (fun k => span_Take.l0 k b p ([] : List S43) (wrap64 c) 0 0 0 0) (takeS c.toNat b p [] 0 0) := fun c p h h' => by
    rw [wrap_ok (by omega) (by omega)]
    exact Take_span_l hb hlen c h' c.toNat 0 p [] 0 0 0 (by omega) rfl (by omega) (by omega)
  have href : ∀ c p : Int, 0 ≤ c → c ≤ 256 → Ev (fun k => grapevineref08_Take.l0 k b c p ([] : List S43) 0 0) (takeS c.toNat b p [] 0 0) := fun c p h h' =>
    Take_ref_l hb hlen c h' h c.toNat 0 p [] 0 0 (by omega) rfl (by omega) (by omega) (fun _ => rfl) (fun h => absurd h (Nat.lt_irrefl 0))
  obtain ⟨A1, A2⟩ := takeU_ok hb t
  obtain ⟨E1, E2⟩ := Oct.TakeUint_ev hb hlen t
  unfold takeR
  constructor
  · refine Ev.bind E1 ?_
    generalize takeU b t = a at A1 A2
    obtain ⟨v, p, e⟩ := a
    simp only at A1 A2 ⊢
    by_cases c1 : e = 0
    · simp only [if_pos c1]
      by_cases c2 : v > 256
      · simp only [if_pos c2]; exact Ev.now _
      · simp only [if_neg c2]; exact hspan v p (A1 c1).2.1 (by omega)
    · simp only [if_neg c1]; exact Ev.now _
  · refine Ev.bind E2 ?_
    generalize takeU b t = a at A1 A2
    obtain ⟨v, p, e⟩ := a
    simp only at A1 A2 ⊢
    by_cases c1 : e = 0
    · simp only [if_pos c1]
      by_cases c2 : v > 256
      · simp only [if_pos c2]; exact Ev.now _
      · simp only [if_neg c2]; exact href v p (A1 c1).2.1 (by omega)
    · simp only [if_neg c1]; exact Ev.now _
end Go.Proofs.Ytpeacoppclmmlaa.PS
