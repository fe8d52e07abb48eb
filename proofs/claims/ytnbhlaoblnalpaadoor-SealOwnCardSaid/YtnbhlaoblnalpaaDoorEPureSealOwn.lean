/-
  PLAIN LAW: SealOwn.
-/
import Derived.Test.YtnbhlaoblnalpaaDoorESealD
import Derived.Test.YtnbhlaoblnalpaaDoorEPEQSealOwn
set_option linter.unusedSimpArgs false
set_option linter.unusedVariables false
namespace Go.Proofs.YtnbhlaoblnalpaaDoor.Pure
open Go.RowKit Go.Proofs.YtnbhlaoblnalpaaDoorW.PrintWords Go.Proofs.YtnbhlaoblnalpaaDoorW.PrintLast Go.Proofs.YtnbhlaoblnalpaaDoorW.PrintMore Go.Proofs.YtnbhlaoblnalpaaDoor.Open Go.Proofs.YtnbhlaoblnalpaaDoor.PE Go.Proofs.YtnbhlaoblnalpaaDoor.Crc
theorem own_l1 {l : List Int} {x : S39} (hx : x.f2 = l) : ∀ (d : Nat) (y : List Int) (i : Int), 0 ≤ i → i + d = y.length → y.length ≤ 9223372036854775807 → Ev (fun k => grapevinelaw01_SealOwn.l1 k l y [x] 0 i) true := by
  intro d
  induction d with
  | zero =>
    intro y i h0 h1 hn
    apply Ev.succ
    simp only [grapevinelaw01_SealOwn.l1, if_neg (show ¬ i < (y.length : Int) by omega)]
    refine Ev.bind lives_ev ?_
    have e : rd_T39 [x] 0 = x := rfl
    simp only [if_true, List.length_cons, List.length_nil, e, hx, beq_self_eq_true]
    exact Ev.now _
  | succ d ih =>
    intro y i h0 h1 hn
    have hw : wrap64 (i + 1) = i + 1 := wrap_ok (by omega) (by omega)
    have h := ih (y.set i.toNat 7) (i + 1) (by omega) (by rw [List.length_set]; omega) (by rw [List.length_set]; exact hn)
    apply Ev.succ
    simp only [grapevinelaw01_SealOwn.l1, if_pos (show i < (y.length : Int) by omega), if_pos h0, hw]
    exact h
theorem own_l0 {l s : List Int} {kind q0 q1 : Int} (hl : l.length ≤ 4096) (hs : IsB s) (hscan : scanF s = ([⟨kind, 0, l⟩], 0, 0)) (hsn : s.length ≤ 9223372036854775807) : ∀ (d : Nat) (y : List Int) (i : Int), 0 ≤ i → i + d = y.length → y.length ≤ 4096 → Ev (fun k => grapevinelaw01_SealOwn.l0 k l s (strOfNums s) 0 i q0 q1 y) true := by
  intro d
  induction d with
  | zero =>
    intro y i h0 h1 hn
    apply Ev.succ
    simp only [grapevinelaw01_SealOwn.l0, if_neg (show ¬ i < (y.length : Int) by omega), List.length_cons, List.length_nil, if_pos (show y.length + (0 + 1 + 1 + 1) < 140737488355328 by omega), if_true]
    have e : ((strOfNums s).toList != (strOfNums s).toList) = false := by simp
    rw [e]
    apply Ev.succ
    simp only [grapevinelaw01_SealOwn.j1, Bool.false_eq_true, if_false]
    have h2 := (Scan_ev hs).1
    rw [hscan] at h2
    refine Ev.bind h2 ?_
    exact own_l1 (l := l) (x := ⟨kind, 0, l⟩) rfl s.length s 0 (by omega) (by omega) hsn
  | succ d ih =>
    intro y i h0 h1 hn
    have hw : wrap64 (i + 1) = i + 1 := wrap_ok (by omega) (by omega)
    have h := ih (y.set i.toNat (Go.bits .xor .u8 (rd y i) 85)) (i + 1) (by omega) (by rw [List.length_set]; omega) (by rw [List.length_set]; exact hn)
    apply Ev.succ
    simp only [grapevinelaw01_SealOwn.l0, if_pos (show i < (y.length : Int) by omega), if_pos h0, hw]
    exact h
theorem SealOwn : grapevinelaw01_SealOwn.PureQ := by
  intro kind b hk h hz
  have hb := IsB_wf h.2
  obtain ⟨hk0, hk1⟩ := u8_wf hk
  refine Ev.rounds (g := fun k => grapevinelaw01_SealOwn.f k kind b) ?_
  unfold grapevinelaw01_SealOwn.f
  refine Ev.bind (Seal_ev hk0 hk1 hb) ?_
  unfold sealR
  by_cases hl : 4096 < b.length
  · simp only [if_pos hl, show ¬ ((6 : Int) = 0) by omega, if_false]
    exact Ev.bind lives_ev (Ev.now _)
  · simp only [if_neg hl, if_true]
    have hs := sealdS_b hk0 hk1 hb
    have hlen := sealdS_length kind b
    have ho := open_around (kind := kind) (b := b) [] [] (by omega)
    simp only [List.nil_append, List.append_nil, List.length_nil, Int.natCast_zero, Int.zero_add] at ho
    have ho' : openR (sealdS kind b) 0 = ((kind, 0, b), (b.length : Int) + 8, 0) := by simpa using ho
    have h2 := Open_ev (l := sealdS kind b) (a := 0) hs (by omega)
    rw [ho'] at h2
    refine Ev.bind h2 ?_
    simp only [flat]
    have hscan : scanF (sealdS kind b) = ([⟨kind, 0, b⟩], 0, 0) := by
      unfold scanF
      rw [if_neg (by omega), hlen]
      have e1 : scanR (sealdS kind b) (b.length + 8) [] 0 0 = scanR (sealdS kind b) (b.length + 7) [⟨kind, 0, b⟩] 0 ((b.length : Int) + 8) := by
        show scanR (sealdS kind b) (b.length + 7 + 1) [] 0 0 = _
        simp only [scanR, hlen, ho', if_pos (show (0 : Int) < ((b.length + 8 : Nat) : Int) by omega), if_true, List.nil_append]
      have e2 : scanR (sealdS kind b) (b.length + 7) [⟨kind, 0, b⟩] 0 ((b.length : Int) + 8) = ([⟨kind, 0, b⟩], 0, 0) := by
        show scanR (sealdS kind b) (b.length + 6 + 1) [⟨kind, 0, b⟩] 0 ((b.length : Int) + 8) = _
        simp only [scanR, hlen, if_neg (show ¬ (b.length : Int) + 8 < ((b.length + 8 : Nat) : Int) by omega)]
      rw [e1, e2]
    exact own_l0 (by omega) hs hscan (by omega) b.length b 0 (by omega) (by omega) (by omega)
end Go.Proofs.YtnbhlaoblnalpaaDoor.Pure
