/-
  PLAIN LAW: SpanBack.
-/
import Derived.Test.YtpeacoppclmmlaaCSpanU
import Derived.Test.YtpeacoppclmmlaaCPSQSpanBack
set_option linter.unusedSimpArgs false
set_option linter.unusedVariables false
namespace Go.Proofs.Ytpeacoppclmmlaa.Pure
open Go.Proofs.Ytpeacoppclmmlaa.PS.Oct (uint uintN)
open Go.RowKit Go.Proofs.YtpeacoppclmmlaaW.PrintWords Go.Proofs.YtpeacoppclmmlaaW.PrintLast Go.Proofs.YtpeacoppclmmlaaW.PrintMore Go.Proofs.Ytpeacoppclmmlaa.Open Go.Proofs.Ytpeacoppclmmlaa.PS
theorem bulk_le (x : List Int) : x.length ≤ sumOf (fun _ : Int => 1) x := by
  induction x with
  | nil => exact Nat.zero_le _
  | cons a x ih => simp only [sumOf, List.length_cons] at ih ⊢; omega
theorem uintN_bytes : ∀ (n : Nat) (x : Int), 0 ≤ x → Oct.Bytes (uintN n x) := by
  intro n
  induction n with
  | zero => intro x h z hz; simp only [uintN, List.mem_singleton] at hz; omega
  | succ n ih =>
    intro x h z hz
    simp only [uintN] at hz
    split at hz
    · rcases List.mem_cons.1 hz with rfl | hz
      · omega
      · exact ih (x / 128) (by omega) z hz
    · rw [List.mem_singleton] at hz; omega
theorem uint_bytes (x : Int) (h : 0 ≤ x) : Oct.Bytes (uint x) := uintN_bytes 9 x h
theorem putL_bytes (l : List Sp) : ∀ pe pi, rightB pe pi l = true → Oct.Bytes (putL pe l) := by
  induction l with
  | nil => intro pe pi _ z hz; simp [putL] at hz
  | cons s l ih =>
    intro pe pi h z hz
    obtain ⟨⟨g1, g2, g3⟩, hr⟩ := rightB_cons.1 h
    simp only [putL, List.mem_append, List.mem_singleton] at hz
    rcases hz with ((hz | hz) | hz) | hz
    · exact uint_bytes _ (by omega) z hz
    · exact uint_bytes _ (by omega) z hz
    · omega
    · exact ih _ _ hr z hz
theorem SpanBack : grapevinelaw08_SpanBack.PureQ := by
  intro l x y hl hx hy hb
  have ll : l.length ≤ 9223372036854775807 := hl.1
  have bx := Oct.bytes_of hx.2
  have by_ := Oct.bytes_of hy.2
  have sx := bulk_le x
  have sy := bulk_le y
  have rx : x.length ≤ 1048576 := by
    have h : m44 x = sumOf (fun _ : Int => 1) x + 1 := rfl
    omega
  have ry : y.length ≤ 1048576 := by
    have h : m44 y = sumOf (fun _ : Int => 1) y + 1 := rfl
    omega
  refine Ev.rounds (g := fun k => grapevinelaw08_SpanBack.f k l x y) ?_
  refine Ev.bind (Put_ev l ll).1 ?_
  unfold putR
  by_cases c : rightB 0 0 l = true
  · by_cases c2 : (l.length : Int) > 256
    · rw [if_pos c, if_pos c2]
      simp only [if_neg (show ¬ (6 : Int) = 0 by decide)]
      refine Ev.bind live_ev ?_
      simp only [if_true, List.length_nil, if_pos (show ((0 : Nat) : Int) = 0 from rfl)]
      refine Ev.bind (Right_ev l ll) ?_
      rw [c]
      exact Ev.now _
    · rw [if_pos c, if_neg c2]
      have u1 := (uint_length (l.length : Int)).1
      have u2 := putL_length l 0
      have bu : Oct.Bytes (uint (l.length : Int)) := uint_bytes _ (by omega)
      have bp : Oct.Bytes (putL 0 l) := putL_bytes l 0 0 c
      simp only [if_true]
      generalize hw : uint (l.length : Int) ++ putL 0 l = w
      have wl : w.length = (uint (l.length : Int)).length + (putL 0 l).length := by rw [← hw, List.length_append]
      have s1 : ([] : List Int).length + x.length < 140737488355328 := by rw [List.length_nil]; omega
      have s2 : ([] ++ x).length + w.length < 140737488355328 := by rw [List.nil_append]; omega
      have s3 : ([] ++ x ++ w).length + y.length < 140737488355328 := by rw [List.nil_append, List.length_append]; omega
      simp only [Option.bind_some, if_pos s1, if_pos s2, if_pos s3]
      have hbb : Oct.Bytes (([] ++ x ++ w) ++ y) := by
        intro z hz
        rw [List.nil_append, ← hw] at hz
        simp only [List.mem_append] at hz
        rcases hz with ((hz | hz | hz) | hz)
        · exact bx z hz
        · exact bu z hz
        · exact bp z hz
        · exact by_ z hz
      have hlen : (([] ++ x ++ w) ++ y).length = x.length + w.length + y.length := by rw [List.nil_append, List.length_append, List.length_append]
      have ht := take_put (b := ([] ++ x ++ w) ++ y) (r := y) hbb (l := l) (t := (x.length : Int)) (by omega) (by omega) c (by omega) (by rw [Int.toNat_natCast, List.nil_append, List.append_assoc, List.drop_left, hw])
      refine Ev.bind (Take_ev hbb (by omega) (x.length : Int)).1 ?_
      rw [ht]
      refine Ev.bind live_ev ?_
      have hq : (x.length : Int) + ((uint (l.length : Int)).length : Int) + ((putL 0 l).length : Int) = wrap64 ((x.length : Int) + (w.length : Int)) := by
        rw [wrap_ok (by omega) (by omega)]; omega
      simp only [if_true, if_pos hq]
      exact Ev.bind (Same_self l ll) (Ev.now _)
  · rw [if_neg c]
    simp only [if_neg (show ¬ (2 : Int) = 0 by decide)]
    refine Ev.bind live_ev ?_
    simp only [if_true, List.length_nil, if_pos (show ((0 : Nat) : Int) = 0 from rfl)]
    refine Ev.bind (Right_ev l ll) ?_
    rw [Bool.eq_false_iff.2 c]
    exact Ev.now _
end Go.Proofs.Ytpeacoppclmmlaa.Pure
