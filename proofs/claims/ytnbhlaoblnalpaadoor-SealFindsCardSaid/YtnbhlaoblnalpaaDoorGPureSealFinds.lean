/-
  PLAIN LAW: SealFinds.
-/
import Derived.Test.YtnbhlaoblnalpaaDoorGSealF
import Derived.Test.YtnbhlaoblnalpaaDoorGPEQSealFinds
set_option linter.unusedSimpArgs false
set_option linter.unusedVariables false
namespace Go.Proofs.YtnbhlaoblnalpaaDoor.Pure
open Go.RowKit Go.Proofs.YtnbhlaoblnalpaaDoorW.PrintWords Go.Proofs.YtnbhlaoblnalpaaDoorW.PrintLast Go.Proofs.YtnbhlaoblnalpaaDoorW.PrintMore Go.Proofs.YtnbhlaoblnalpaaDoor.Open Go.Proofs.YtnbhlaoblnalpaaDoor.PE Go.Proofs.YtnbhlaoblnalpaaDoor.Crc

/-- what stands ahead: bytes that are no mark, 500 at most -/
theorem finds_l0 {l : List Int} (hl : IsB l) (hn : l.length ≤ 140737488351232) : ∀ (d : Nat) (i : Int) (x : List Int), 0 ≤ i → i + d = 500 → IsB x → (∀ y ∈ x, y ≠ 167) → (x.length : Int) ≤ i →
    ∃ A, Ev (fun k => grapevinelaw01_SealFinds.l0 k l x i) A ∧ IsB A ∧ (∀ y ∈ A, y ≠ 167) ∧ A.length ≤ 500 := by
  intro d
  induction d with
  | zero =>
    intro i x h0 h1 hx hm hlen
    refine ⟨x, Ev.done (fun k => ?_), hx, hm, by omega⟩
    simp only [grapevinelaw01_SealFinds.l0]
    by_cases c : i < (l.length : Int)
    · rw [if_pos c, if_neg (by omega)]
    · rw [if_neg c]
  | succ d ih =>
    intro i x h0 h1 hx hm hlen
    by_cases c : i < (l.length : Int)
    case neg =>
      refine ⟨x, Ev.done (fun k => ?_), hx, hm, by omega⟩
      simp only [grapevinelaw01_SealFinds.l0, if_neg c]
    have k1 : i < 500 := by omega
    have hb := rd_b hl i
    by_cases c2 : rd l i = 167
    · obtain ⟨A, h2, h3⟩ := ih (i + 1) x (by omega) (by omega) hx hm (by omega)
      have hw : wrap64 (i + 1) = i + 1 := wrap_ok (by omega) (by omega)
      refine ⟨A, Ev.succ ?_, h3⟩
      simp only [grapevinelaw01_SealFinds.l0, if_pos c, if_pos k1, if_pos h0, if_pos c2, hw]
      exact h2
    · obtain ⟨A, h2, h3⟩ := ih (i + 1) (x ++ [rd l i]) (by omega) (by omega) (IsB_append hx (IsB_cons hb.1 hb.2 IsB_nil)) (fun y hy => (List.mem_append.1 hy).elim (hm y) (fun h => by simp at h; rw [h]; exact c2)) (by simp; omega)
      have k2 : x.length < 140737488355328 := by omega
      have hw : wrap64 (i + 1) = i + 1 := wrap_ok (by omega) (by omega)
      refine ⟨A, Ev.succ ?_, h3⟩
      simp only [grapevinelaw01_SealFinds.l0, if_pos c, if_pos k1, if_pos h0, if_neg c2, if_pos k2, hw]
      exact h2

theorem finds_l1 {l : List (List Int)} (hl : ∀ b ∈ l, IsB b) {A : List Int} : ∀ (d : Nat) (i : Int) (x : List Int) (ws : List S39), 0 ≤ i → i + d = 20 → IsB x → x.length ≤ 8000 → (ws.length : Int) ≤ i → (∃ R, x = A ++ R ∧ Chain A.length R ws) →
    ∃ x' ws', Ev (fun k => grapevinelaw01_SealFinds.l1 k l x ws i) (x', ws') ∧ IsB x' ∧ x'.length ≤ 8000 ∧ ws'.length ≤ 20 ∧ (∃ R, x' = A ++ R ∧ Chain A.length R ws') := by
  intro d
  induction d with
  | zero =>
    intro i x ws h0 h1 hx hxl hw hR
    refine ⟨x, ws, Ev.done (fun k => ?_), hx, hxl, by omega, hR⟩
    simp only [grapevinelaw01_SealFinds.l1]
    by_cases c : i < (l.length : Int)
    · rw [if_pos c, if_neg (by omega)]
    · rw [if_neg c]
  | succ d ih =>
    intro i x ws h0 h1 hx hxl hw hR
    by_cases c : i < (l.length : Int)
    case neg =>
      refine ⟨x, ws, Ev.done (fun k => ?_), hx, hxl, by omega, hR⟩
      simp only [grapevinelaw01_SealFinds.l1, if_neg c]
    have k1 : i < 20 := by omega
    have hb : IsB (rd_L2 l i) := by
      have hlt : i.toNat < l.length := by omega
      have e : rd_L2 l i = l[i.toNat] := by
        unfold rd_L2
        rw [List.getD_eq_getElem?_getD, List.getElem?_eq_getElem hlt]
        rfl
      rw [e]
      exact hl _ (List.getElem_mem hlt)
    have hk0 : 0 ≤ i % 256 := by omega
    have hk1 : i % 256 < 256 := by omega
    have hs := Seal_ev (kind := i % 256) hk0 hk1 hb
    generalize hbb : rd_L2 l i = b at hb hs
    obtain ⟨x1, w1, g1, g2⟩ := ih (i + 1) x ws (by omega) (by omega) hx hxl (by omega) hR
    have hlen := sealdS_length (i % 256) b
    by_cases c2 : 4096 < b.length
    · have hw2 : wrap64 (i + 1) = i + 1 := wrap_ok (by omega) (by omega)
      refine ⟨x1, w1, Ev.succ ?_, g2⟩
      simp only [grapevinelaw01_SealFinds.l1, if_pos c, if_pos k1, if_pos h0, hbb, hw2]
      unfold sealR at hs
      rw [if_pos c2] at hs
      refine Ev.bind hs ?_
      simp only [show ¬ ((6 : Int) = 0) by omega, if_false]
      exact g1
    unfold sealR at hs
    rw [if_neg c2] at hs
    by_cases c3 : x.length + (b.length + 8) ≤ 8000
    · obtain ⟨R, hxR, hC⟩ := hR
      obtain ⟨x2, w2, g3, g4⟩ := ih (i + 1) (x ++ sealdS (i % 256) b) (ws ++ [⟨i % 256, (x.length : Int), b⟩]) (by omega) (by omega) (IsB_append hx (sealdS_b hk0 hk1 hb)) (by rw [List.length_append, hlen]; omega) (by simp; omega)
        ⟨R ++ sealdS (i % 256) b, by rw [hxR, List.append_assoc], by
          have h := Chain.snoc (kind := i % 256) (b := b) (by omega) hC (q := x.length) (by rw [hxR, List.length_append])
          exact h⟩
      have k2 : x.length + (sealdS (i % 256) b).length < 140737488355328 ∧ ws.length < 3518437208882 := ⟨by omega, by omega⟩
      have k3 : (x.length : Int) + ((sealdS (i % 256) b).length : Int) ≤ 8000 := by omega
      have b1_ : -9223372036854775808 ≤ (x.length : Int) + ((sealdS (i % 256) b).length : Int) := by omega
      have b2_ : (x.length : Int) + ((sealdS (i % 256) b).length : Int) ≤ 9223372036854775807 := by omega
      have hw3 : wrap64 (i + 1) = i + 1 := wrap_ok (by omega) (by omega)
      have hw2 : wrap64 ((x.length : Int) + ((sealdS (i % 256) b).length : Int)) = (x.length : Int) + ((sealdS (i % 256) b).length : Int) := wrap_ok b1_ b2_
      refine ⟨x2, w2, Ev.succ ?_, g4⟩
      simp only [grapevinelaw01_SealFinds.l1, if_pos c, if_pos k1, if_pos h0, hbb, hw3]
      refine Ev.bind hs ?_
      simp only [if_true, hw2, if_pos k3, if_pos k2]
      exact g3
    · have k3 : ¬ (x.length : Int) + ((sealdS (i % 256) b).length : Int) ≤ 8000 := by omega
      have b1_ : -9223372036854775808 ≤ (x.length : Int) + ((sealdS (i % 256) b).length : Int) := by omega
      have b2_ : (x.length : Int) + ((sealdS (i % 256) b).length : Int) ≤ 9223372036854775807 := by omega
      have hw3 : wrap64 (i + 1) = i + 1 := wrap_ok (by omega) (by omega)
      have hw2 : wrap64 ((x.length : Int) + ((sealdS (i % 256) b).length : Int)) = (x.length : Int) + ((sealdS (i % 256) b).length : Int) := wrap_ok b1_ b2_
      refine ⟨x1, w1, Ev.succ ?_, g2⟩
      simp only [grapevinelaw01_SealFinds.l1, if_pos c, if_pos k1, if_pos h0, hbb, hw3]
      refine Ev.bind hs ?_
      simp only [if_true, hw2, if_neg k3]
      exact g1

theorem finds_g {A R T x : List Int} {ws : List S39} (hx : IsB x) (hxl : x.length ≤ 8001) (hws : ws.length ≤ 20) (hA : ∀ y ∈ A, y ≠ 167) (hC : Chain A.length R ws) (hT : T = [] ∨ T = [167]) (he : x = A ++ R ++ T) :
    Ev (fun k => grapevinelaw01_SealFinds.g k x ws (A.length : Int) (T.length : Int)) true := by
  have h1 := (Scan_ev hx).1
  have h2 : scanF x = (ws, (A.length : Int) + T.length, 0) := by
    unfold scanF
    rw [if_neg (by omega)]
    have h := scan_all (l := x) x.length A R T ws [] 0 0 hA (by rw [Nat.zero_add]; exact hC) hT (by rw [List.drop_zero]; exact he) (by rw [← he]; omega) (by rw [← he]; exact Nat.le_refl _)
    simpa using h
  rw [h2] at h1
  have hTl : T.length ≤ 1 := by rcases hT with rfl | rfl <;> simp
  have hAl : A.length ≤ x.length := by rw [he]; simp
  have hw : wrap64 ((A.length : Int) + (T.length : Int)) = (A.length : Int) + (T.length : Int) := wrap_ok (by omega) (by omega)
  unfold grapevinelaw01_SealFinds.g
  refine Ev.bind h1 (Ev.bind lives_ev (Ev.bind (SameAll_ev ws (by omega)) ?_))
  simp only [hw]
  exact Ev.now _

theorem SealFinds : grapevinelaw01_SealFinds.PureQ := by
  intro l ls tn h hls htn hz
  obtain ⟨tb, kk⟩ := tn
  have hb := IsB_wf h.2
  obtain ⟨ht, hk⟩ := htn
  have htb := IsB_wf ht.2
  have hlsb : ∀ b ∈ ls, IsB b := fun b hm => IsB_wf (hls.2 b hm).2
  have hkr : 0 ≤ kk ∧ kk < 65536 := by
    simp only [Lit.wf, IntKind.min, IntKind.max, IntKind.signed, IntKind.bits, Bool.and_eq_true, decide_eq_true_eq] at hk
    simp at hk
    omega
  obtain ⟨A, a1, a2, a3, a4⟩ := finds_l0 hb (by omega) 500 0 [] (by omega) (by omega) IsB_nil (fun y hy => by simp at hy) (by simp)
  obtain ⟨x, ws, b1, b2, b3, b4, R, b5, b6⟩ := finds_l1 hlsb (A := A) 20 0 A [] (by omega) (by omega) a2 (by omega) (by simp) ⟨[], by simp, .nil⟩
  refine Ev.rounds (g := fun k => grapevinelaw01_SealFinds.f k l ls tb kk) ?_
  unfold grapevinelaw01_SealFinds.f
  refine Ev.bind a1 (Ev.bind b1 (Ev.bind (Seal_ev (kind := 9) (by omega) (by omega) htb) ?_))
  have g0 := finds_g (A := A) (R := R) (T := []) (x := x) b2 (by omega) b4 a3 b6 (.inl rfl) (by rw [b5, List.append_nil])
  have g1 := finds_g (A := A) (R := R) (T := [167]) (x := x ++ [167]) (IsB_append b2 (IsB_cons (by omega) (by omega) IsB_nil)) (by simp; omega) b4 a3 b6 (.inr rfl) (by rw [b5])
  unfold sealR
  by_cases hl : 4096 < tb.length
  · simp only [if_pos hl, show ¬ ((6 : Int) = 0) by omega, if_false]
    simpa using g0
  have hlen := sealdS_length 9 tb
  have hw : wrap64 kk = kk := wrap_ok (by omega) (by omega)
  have htm : Int.tmod kk ((sealdS 9 tb).length : Int) = kk % ((sealdS 9 tb).length : Int) := Int.tmod_eq_emod_of_nonneg (by omega)
  simp only [if_neg hl, if_true, if_pos (show 0 < (sealdS 9 tb).length by omega), hw, htm]
  have hm0 : 0 ≤ kk % ((sealdS 9 tb).length : Int) := Int.emod_nonneg _ (by omega)
  generalize kk % ((sealdS 9 tb).length : Int) = m at hm0
  have hr0 : rd (sealdS 9 tb) 0 = 167 := rfl
  by_cases hm : 0 < m
  · have e : Ev (fun k => grapevinelaw01_SealFinds.l2 k (sealdS 9 tb) m x 0 0) (x ++ [167], 1) := by
      apply Ev.succ
      have w1 : wrap64 (0 + 1) = 1 := by rw [wrap_ok (by omega) (by omega)]; rfl
      simp only [grapevinelaw01_SealFinds.l2, if_pos hm, show (0 : Int) < 1 by omega, if_true, if_pos (show (0 : Int) ≤ 0 ∧ (0 : Int) < ((sealdS 9 tb).length : Int) from ⟨by omega, by omega⟩), if_pos (show x.length < 140737488355328 by omega), hr0, w1]
      refine Ev.done (fun k => ?_)
      simp only [grapevinelaw01_SealFinds.l2, show ¬ ((1 : Int) < 1) by omega, if_false]
      split <;> rfl
    refine Ev.bind e ?_
    simpa using g1
  · have e : Ev (fun k => grapevinelaw01_SealFinds.l2 k (sealdS 9 tb) m x 0 0) (x, 0) := by
      refine Ev.done (fun k => ?_)
      simp only [grapevinelaw01_SealFinds.l2, if_neg hm]
    refine Ev.bind e ?_
    simpa using g0
end Go.Proofs.YtnbhlaoblnalpaaDoor.Pure
