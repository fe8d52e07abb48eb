/-
  PLAIN LAW: scanning: all seals that are found; both scans tell the same.
-/
import Derived.Test.YtnbhlaoblnalpaaDoorGSealC
import Derived.Test.YtnbhlaoblnalpaaDoorGPEx5
import Derived.Test.YtnbhlaoblnalpaaDoorGPEx6
set_option linter.unusedSimpArgs false
set_option linter.unusedVariables false
namespace Go.Proofs.YtnbhlaoblnalpaaDoor.PE
open Go.RowKit Go.Proofs.YtnbhlaoblnalpaaDoorW.PrintWords Go.Proofs.YtnbhlaoblnalpaaDoorW.PrintMore Go.Proofs.YtnbhlaoblnalpaaDoor.Crc

theorem openT_ok {t : List Int} {a : Int} (ht : IsB t) (h : (openT t a).2.2 = 0) : a + 8 ≤ (openT t a).2.1 ∧ (openT t a).2.1 ≤ a + t.length := by
  have b2 := rd_b ht 2
  have b3 := rd_b ht 3
  unfold openT at *
  split at h
  · simp at h
  split at h
  · simp at h
  split at h
  · simp at h
  split at h
  · simp at h
  split at h
  · simp at h
  split at h
  · rename_i g1 g2 g3 g4 g5 g6
    simp only [if_neg g1, if_neg g2, if_neg g3, if_neg g4, if_neg g5, if_pos g6]
    omega
  · simp at h
theorem openR_ok {l : List Int} {a : Int} (hl : IsB l) (h : (openR l a).2.2 = 0) : 0 ≤ a ∧ a + 8 ≤ (openR l a).2.1 ∧ (openR l a).2.1 ≤ l.length := by
  unfold openR at *
  by_cases g : a < 0 ∨ (l.length : Int) < a
  · rw [if_pos g] at h; simp at h
  · rw [if_neg g] at h ⊢
    have := openT_ok (IsB_drop hl _) h
    rw [List.length_drop] at this
    omega

def scanR (l : List Int) : Nat → List S39 → Int → Int → List S39 × Int × Int
  | 0, out, nn, _ => (out, nn, 0)
  | d + 1, out, nn, a => if a < (l.length : Int) then (if (openR l a).2.2 = 0 then scanR l d (out ++ [⟨(openR l a).1.1, (openR l a).1.2.1, (openR l a).1.2.2⟩]) nn (openR l a).2.1 else scanR l d out (nn + 1) (a + 1)) else (out, nn, 0)
theorem Scan_l {l : List Int} (hl : IsB l) (hn : l.length ≤ 16384) : ∀ (d : Nat) (out : List S39) (n a : Int), 0 ≤ a → a ≤ l.length → (l.length : Int) ≤ a + d → (out.length : Int) ≤ a → 0 ≤ n → n ≤ a →
    Ev (fun k => seal_Scan.l0 k l out n a) (scanR l d out n a) ∧ Ev (fun k => grapevineref01_Scan.l0 k l out n a) (scanR l d out n a) := by
  intro d
  induction d with
  | zero =>
    intro out n a h0 h1 h2 ho hn0 hna
    constructor
    · refine Ev.done (fun k => ?_)
      simp only [seal_Scan.l0, if_neg (show ¬ a < (l.length : Int) by omega)]
      rfl
    · refine Ev.done (fun k => ?_)
      simp only [grapevineref01_Scan.l0, if_neg (show ¬ a < (l.length : Int) by omega)]
      rfl
  | succ d ih =>
    intro out n a h0 h1 h2 ho hn0 hna
    by_cases hc : a < (l.length : Int)
    case neg =>
      have e : scanR l (d + 1) out n a = (out, n, 0) := by simp only [scanR, if_neg hc]
      rw [e]
      constructor
      · refine Ev.done (fun k => ?_)
        simp only [seal_Scan.l0, if_neg hc]
      · refine Ev.done (fun k => ?_)
        simp only [grapevineref01_Scan.l0, if_neg hc]
    by_cases hk : (openR l a).2.2 = 0
    · have hok := openR_ok hl hk
      have e : scanR l (d + 1) out n a = scanR l d (out ++ [⟨(openR l a).1.1, (openR l a).1.2.1, (openR l a).1.2.2⟩]) n (openR l a).2.1 := by simp only [scanR, if_pos hc, if_pos hk]
      have h := ih (out ++ [⟨(openR l a).1.1, (openR l a).1.2.1, (openR l a).1.2.2⟩]) n (openR l a).2.1 (by omega) (by omega) (by omega) (by simp only [List.length_append, List.length_cons, List.length_nil]; omega) hn0 (by omega)
      rw [e]
      have hlen : out.length < 3518437208883 := by omega
      constructor
      · apply Ev.succ
        simp only [seal_Scan.l0, if_pos hc]
        refine Ev.bind (Open_ev hl (by omega)) ?_
        simp only [flat, if_pos hk, if_pos hlen]
        exact h.1
      · apply Ev.succ
        simp only [grapevineref01_Scan.l0, if_pos hc]
        refine Ev.bind (refOpen_ev hl (by omega)) ?_
        simp only [flat, if_pos hk, if_pos hlen]
        exact h.2
    · have e : scanR l (d + 1) out n a = scanR l d out (n + 1) (a + 1) := by simp only [scanR, if_pos hc, if_neg hk]
      have h := ih out (n + 1) (a + 1) (by omega) (by omega) (by omega) (by omega) (by omega) (by omega)
      have w1 : wrap64 (n + 1) = n + 1 := wrap_ok (by omega) (by omega)
      have w2 : wrap64 (a + 1) = a + 1 := wrap_ok (by omega) (by omega)
      rw [e]
      constructor
      · apply Ev.succ
        simp only [seal_Scan.l0, if_pos hc, w1, w2]
        refine Ev.bind (Open_ev hl (by omega)) ?_
        simp only [flat]
        simp only [hk, if_false]
        exact h.1
      · apply Ev.succ
        simp only [grapevineref01_Scan.l0, if_pos hc, w1, w2]
        refine Ev.bind (refOpen_ev hl (by omega)) ?_
        simp only [flat]
        simp only [hk, if_false]
        exact h.2
def scanF (l : List Int) : List S39 × Int × Int := if 16384 < l.length then ([], 0, 6) else scanR l l.length [] 0 0
theorem Scan_ev {l : List Int} (hl : IsB l) : Ev (fun k => seal_Scan.f k l) (scanF l) ∧ Ev (fun k => grapevineref01_Scan.f k l) (scanF l) := by
  unfold seal_Scan.f grapevineref01_Scan.f scanF
  by_cases h : 16384 < l.length
  · simp only [if_pos h, if_pos (show (l.length : Int) > 16384 by omega)]
    exact ⟨Ev.now _, Ev.now _⟩
  · simp only [if_neg h, if_neg (show ¬ (l.length : Int) > 16384 by omega)]
    exact Scan_l hl (by omega) l.length [] 0 0 (by omega) (by omega) (by omega) (by simp) (by omega) (by omega)
theorem SameAll_ev (l : List S39) (hn : l.length ≤ 9223372036854775807) : Ev (fun k => grapevineref01_SameAll.f k l l) true := by
  unfold grapevineref01_SameAll.f
  simp only [if_true]
  have key : ∀ (d : Nat) (i : Int), 0 ≤ i → i + d = l.length → Ev (fun k => grapevineref01_SameAll.l0 k l l i) true := by
    intro d
    induction d with
    | zero =>
      intro i h0 h1
      refine Ev.done (fun k => ?_)
      simp only [grapevineref01_SameAll.l0, if_neg (show ¬ i < (l.length : Int) by omega)]
    | succ d ih =>
      intro i h0 h1
      have hw : wrap64 (i + 1) = i + 1 := wrap_ok (by omega) (by omega)
      have e : ∀ x y z, grapevineref01_Same.f x y z x y z = some true := by intro x y z; simp [grapevineref01_Same.f]
      have h := ih (i + 1) (by omega) (by omega)
      apply Ev.succ
      simp only [grapevineref01_SameAll.l0, if_pos (show i < (l.length : Int) by omega), if_pos h0, e, Option.bind_some, if_true, hw]
      exact h
  exact key l.length 0 (by omega) (by omega)
end Go.Proofs.YtnbhlaoblnalpaaDoor.PE
