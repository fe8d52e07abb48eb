/-
  PLAIN LAW: a map as bytes (span.Put and the reference's Put): what is written.
-/
import Derived.Test.YtpeacoppclmmlaaPBParA
import Derived.Test.YtpeacoppclmmlaaPBOctU
import Derived.Test.YtpeacoppclmmlaaPBPPx2
import Derived.Test.YtpeacoppclmmlaaPBPPx10
set_option linter.unusedSimpArgs false
set_option linter.unusedVariables false
namespace Go.Proofs.Ytpeacoppclmmlaa.PP
open Go.RowKit Go.Proofs.YtpeacoppclmmlaaW.PrintWords Go.Proofs.YtpeacoppclmmlaaW.PrintMore

open Oct (uint uintN)

theorem uint_length (x : Int) : (uint x).length ≤ 10 ∧ 0 < (uint x).length := by
  have := Oct.uintN_length 9 x
  unfold uint
  omega
/-- The bytes of the spans behind a place. -/
def putL : Int → List Sp → List Int
  | _, [] => []
  | pe, s :: l => uint (s.f0 - pe - 1) ++ uint (s.f1 - s.f0) ++ [s.f2 % 256] ++ putL s.f1 l
theorem putL_length (l : List Sp) : ∀ pe, (putL pe l).length ≤ 21 * l.length := by
  induction l with
  | nil => intro pe; simp [putL]
  | cons s l ih =>
    intro pe
    have h1 := (uint_length (s.f0 - pe - 1)).1
    have h2 := (uint_length (s.f1 - s.f0)).1
    have h3 := ih s.f1
    simp only [putL, List.length_append, List.length_cons, List.length_nil]
    omega
theorem Put_ev_l {l : List Sp} (hl : l.length ≤ 256) : ∀ (m i : Nat) (out : List Int) (pe pi : Int), i + m = l.length → rightB pe pi (l.drop i) = true → 0 ≤ pe → pe ≤ 1099511627776 → (i = 0 → pe = 0) → (0 < i → pe = (rd_T43 l ((i - 1 : Nat) : Int)).f1) → out.length + 21 * m < 140737488355328 →
    Ev (fun k => span_Put.l0 k out pe l (l.length : Int) (i : Int)) (out ++ putL pe (l.drop i), 0) ∧ Ev (fun k => grapevineref08_Put.l0 k l out (i : Int)) (out ++ putL pe (l.drop i), 0) := by
  intro m
  induction m with
  | zero =>
    intro i out pe pi hi h hp hp' h0 h1 ho
    rw [List.drop_of_length_le (by omega)]
    simp only [putL, List.append_nil]
    constructor
    · refine Ev.done (fun k => ?_)
      simp only [span_Put.l0]
      rw [if_neg (by omega)]
    · refine Ev.done (fun k => ?_)
      simp only [grapevineref08_Put.l0]
      rw [if_neg (by omega)]
  | succ m ih =>
    intro i out pe pi hi h hp hp' h0 h1 ho
    have hlt : i < l.length := by omega
    rw [drop_rd l i hlt] at h ⊢
    generalize hs : rd_T43 l (i : Int) = s at h
    obtain ⟨⟨g1, g2, g3⟩, hr⟩ := rightB_cons.1 h
    have u1 := (uint_length (s.f0 - pe - 1)).1
    have u2 := (uint_length (s.f1 - s.f0)).1
    have hprev : 0 < i + 1 → s.f1 = (rd_T43 l ((i + 1 - 1 : Nat) : Int)).f1 := fun _ => by rw [Nat.add_sub_cancel, hs]
    have hroom : (out ++ uint (s.f0 - pe - 1) ++ uint (s.f1 - s.f0) ++ [s.f2 % 256]).length + 21 * m < 140737488355328 := by
      rw [List.length_append, List.length_append, List.length_append, List.length_singleton]
      omega
    obtain ⟨i1, i2⟩ := ih (i + 1) (out ++ uint (s.f0 - pe - 1) ++ uint (s.f1 - s.f0) ++ [s.f2 % 256]) s.f1 s.f2 (by omega) hr (by omega) (by omega) (fun h => by cases h) hprev hroom
    have ep : out ++ putL pe (s :: l.drop (i + 1)) = (out ++ uint (s.f0 - pe - 1) ++ uint (s.f1 - s.f0) ++ [s.f2 % 256]) ++ putL s.f1 (l.drop (i + 1)) := by simp [putL]
    rw [ep]
    have E1 := Oct.Uint_ev (s.f0 - pe - 1) (by omega) (by omega)
    have E2 := Oct.Uint_ev (s.f1 - s.f0) (by omega) (by omega)
    have p1 : out.length + (uint (s.f0 - pe - 1)).length < 140737488355328 := by omega
    have p2 : (out ++ uint (s.f0 - pe - 1)).length + (uint (s.f1 - s.f0)).length < 140737488355328 := by rw [List.length_append]; omega
    have p3 : (out ++ uint (s.f0 - pe - 1) ++ uint (s.f1 - s.f0)).length < 140737488355328 := by rw [List.length_append, List.length_append]; omega
    have q1 : (i : Int) < (l.length : Int) := by omega
    have q2 : (0 : Int) ≤ (i : Int) := by omega
    have qn : ¬ (i : Int) > 0 → pe = 0 := fun h => h0 (by omega)
    have qp : (i : Int) > 0 → pe = (rd_T43 l ((i - 1 : Nat) : Int)).f1 ∧ wrap64 ((i : Int) - 1) = ((i - 1 : Nat) : Int) ∧ (0 : Int) ≤ ((i - 1 : Nat) : Int) ∧ ((i - 1 : Nat) : Int) < (l.length : Int) := fun h => ⟨h1 (by omega), pred_wrap (by omega) (by omega), by omega, by omega⟩
    have w0 : pe = 0 → IntKind.u64.wrap (wrap64 ((wrap64 (s.f0)) - 1)) = s.f0 - pe - 1 := fun h => by
      rw [wrap_ok (x := s.f0) (by omega) (by omega), wrap_ok (by omega) (by omega), Oct.wrapu_ok (by omega) (by omega), h]; omega
    have w1 : IntKind.u64.wrap (wrap64 ((wrap64 (s.f0 - pe)) - 1)) = s.f0 - pe - 1 := by
      rw [wrap_ok (x := s.f0 - pe) (by omega) (by omega), wrap_ok (by omega) (by omega), Oct.wrapu_ok (by omega) (by omega)]
    have w2 : IntKind.u64.wrap (wrap64 (s.f1 - s.f0)) = s.f1 - s.f0 := by
      rw [wrap_ok (by omega) (by omega), Oct.wrapu_ok (by omega) (by omega)]
    have hw := cast_succ_wrap hlt (show l.length ≤ 9223372036854775807 from Nat.le_trans hl (by decide))
    constructor
    · apply Oct.Ev.succ
      simp only [span_Put.l0, if_pos q1, if_pos q2, hs, w1, w2, hw]
      refine Ev.bind E1.1 ?_
      simp only [if_pos p1, Option.bind_some]
      refine Ev.bind E2.1 ?_
      simp only [if_pos p2, Option.bind_some, if_pos p3]
      exact i1
    · apply Oct.Ev.succ
      simp only [grapevineref08_Put.l0, if_pos q1]
      by_cases c : (i : Int) > 0
      · obtain ⟨r1, r2, r3, r4⟩ := qp c
        simp only [if_pos c, r2, if_pos r3, if_pos r4, if_pos q2, hs, ← r1, w1, w2, hw]
        refine Ev.bind E1.2 ?_
        simp only [if_pos p1, Option.bind_some]
        refine Ev.bind E2.2 ?_
        simp only [if_pos p2, Option.bind_some, if_pos p3]
        exact i2
      · simp only [if_neg c, if_pos q2, hs, w0 (qn c), w2, hw]
        refine Ev.bind E1.2 ?_
        simp only [if_pos p1, Option.bind_some]
        refine Ev.bind E2.2 ?_
        simp only [if_pos p2, Option.bind_some, if_pos p3]
        exact i2
/-- What Put comes to. -/
def putR (l : List Sp) : List Int × Int := if rightB 0 0 l = true then (if (l.length : Int) > 256 then ([], 6) else (uint (l.length : Int) ++ putL 0 l, 0)) else ([], 2)
theorem Put_ev (l : List Sp) (hl : l.length ≤ 9223372036854775807) : Ev (fun k => span_Put.f k l) (putR l) ∧ Ev (fun k => grapevineref08_Put.f k l) (putR l) := by
  unfold putR
  by_cases c : rightB 0 0 l = true
  · by_cases c2 : (l.length : Int) > 256
    · rw [if_pos c, if_pos c2]
      exact ⟨Ev.bind (Right_ev l hl) (Ev.congr (fun k => by rw [if_pos c, if_pos c2]) (Ev.now _)), Ev.bind (RRight_ev l hl) (Ev.congr (fun k => by rw [if_pos c, if_pos c2]) (Ev.now _))⟩
    · rw [if_pos c, if_neg c2]
      have hu := (uint_length (l.length : Int)).1
      obtain ⟨i1, i2⟩ := Put_ev_l (l := l) (by omega) l.length 0 (uint (l.length : Int)) 0 0 (by omega) c (by omega) (by omega) (fun _ => rfl) (fun h => by omega) (by omega)
      have E := Oct.Uint_ev (l.length : Int) (by omega) (by omega)
      have w : IntKind.u64.wrap (l.length : Int) = (l.length : Int) := Oct.wrapu_ok (by omega) (by omega)
      constructor
      · refine Ev.bind (Right_ev l hl) ?_
        simp only [if_pos c, if_neg c2, w]
        exact Ev.bind E.1 i1
      · refine Ev.bind (RRight_ev l hl) ?_
        simp only [if_pos c, if_neg c2, w]
        exact Ev.bind E.2 i2
  · rw [if_neg c]
    exact ⟨Ev.bind (Right_ev l hl) (Ev.congr (fun k => by rw [if_neg c]) (Ev.now _)), Ev.bind (RRight_ev l hl) (Ev.congr (fun k => by rw [if_neg c]) (Ev.now _))⟩
end Go.Proofs.Ytpeacoppclmmlaa.PP
