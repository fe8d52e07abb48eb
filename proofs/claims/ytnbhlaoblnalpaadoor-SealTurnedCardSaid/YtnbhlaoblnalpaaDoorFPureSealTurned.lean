/-
  PLAIN LAW: SealTurned.
-/
import Derived.Test.YtnbhlaoblnalpaaDoorFSealE
import Derived.Test.YtnbhlaoblnalpaaDoorFPEQSealTurned
set_option linter.unusedSimpArgs false
set_option linter.unusedVariables false
namespace Go.Proofs.YtnbhlaoblnalpaaDoor.Pure
open Go.RowKit Go.Proofs.YtnbhlaoblnalpaaDoorW.PrintWords Go.Proofs.YtnbhlaoblnalpaaDoorW.PrintLast Go.Proofs.YtnbhlaoblnalpaaDoorW.PrintMore Go.Proofs.YtnbhlaoblnalpaaDoor.Open Go.Proofs.YtnbhlaoblnalpaaDoor.PE Go.Proofs.YtnbhlaoblnalpaaDoor.Crc
theorem SealTurned : grapevinelaw01_SealTurned.PureQ := by
  intro kind b tn hk h htn hz
  obtain ⟨a, ⟨b0, b1, b2, b3⟩⟩ := tn
  obtain ⟨hk0, hk1⟩ := u8_wf hk
  have hb := IsB_wf h.2
  obtain ⟨ha, g0, g1, g2, g3⟩ := htn
  have hbs : IsB [b0, b1, b2, b3] := IsB_cons (u8_wf g0).1 (u8_wf g0).2 (IsB_cons (u8_wf g1).1 (u8_wf g1).2 (IsB_cons (u8_wf g2).1 (u8_wf g2).2 (IsB_cons (u8_wf g3).1 (u8_wf g3).2 IsB_nil)))
  have har : 0 ≤ a ∧ a < 65536 := by
    simp only [Lit.wf, IntKind.min, IntKind.max, IntKind.signed, IntKind.bits, Bool.and_eq_true, decide_eq_true_eq] at ha
    simp at ha
    omega
  refine Ev.rounds (g := fun k => grapevinelaw01_SealTurned.f k kind b a b0 b1 b2 b3) ?_
  unfold grapevinelaw01_SealTurned.f
  refine Ev.bind (Seal_ev hk0 hk1 hb) ?_
  unfold sealR
  by_cases hl : 4096 < b.length
  · simp only [if_pos hl]
    refine Ev.bind lives_ev ?_
    exact Ev.now _
  have hlen := sealdS_length kind b
  simp only [if_neg hl, if_true, hlen, if_pos (show b.length + 8 = 8 + b.length ∧ b.length ≤ 4096 from ⟨by omega, by omega⟩)]
  have hw : wrap64 a = a := wrap_ok (by omega) (by omega)
  have htm : Int.tmod a ((b.length + 4 : Nat) : Int) = a % ((b.length + 4 : Nat) : Int) := Int.tmod_eq_emod_of_nonneg (by omega)
  have hm0 : 0 ≤ a % ((b.length + 4 : Nat) : Int) := Int.emod_nonneg _ (by omega)
  have hm1 : a % ((b.length + 4 : Nat) : Int) < ((b.length + 4 : Nat) : Int) := Int.emod_lt_of_pos _ (by omega)
  rw [hw, htm]
  generalize a % ((b.length + 4 : Nat) : Int) = f at hm0 hm1
  have hw2 : wrap64 (4 + f) = 4 + f := wrap_ok (by omega) (by omega)
  rw [hw2]
  obtain ⟨R, hR⟩ : ∃ R, R = b ++ fourI (crc (bodyS kind b)) := ⟨_, rfl⟩
  have hRl : R.length = b.length + 4 := by rw [hR, List.length_append, fourI_length]
  have hRb : IsB R := hR ▸ IsB_append hb (fourI_b _)
  have hsd : sealdS kind b = 167 :: kind :: ((b.length % 256 : Nat) : Int) :: ((b.length / 256 % 256 : Nat) : Int) :: R := by rw [hR]; rfl
  have hsp : sealdS kind b = ([167, kind, ((b.length % 256 : Nat) : Int), ((b.length / 256 % 256 : Nat) : Int)] ++ R.take f.toNat) ++ R.drop f.toNat := by
    rw [hsd, List.append_assoc, List.take_append_drop]; rfl
  have hpl : ([167, kind, ((b.length % 256 : Nat) : Int), ((b.length / 256 % 256 : Nat) : Int)] ++ R.take f.toNat : List Int).length = 4 + f.toNat := by
    rw [List.length_append, List.length_take]
    simp only [List.length_cons, List.length_nil]
    omega
  have ht := turn_ev (b0 := b0) (b1 := b1) (b2 := b2) (b3 := b3) (fr := 4 + f) (by omega) [b0, b1, b2, b3] 0 ([167, kind, ((b.length % 256 : Nat) : Int), ((b.length / 256 % 256 : Nat) : Int)] ++ R.take f.toNat) (R.drop f.toNat) false (by omega) (by simp) rfl (by rw [hpl]; omega) (by rw [hpl, List.length_drop]; omega)
  rw [← hsp] at ht
  obtain ⟨d, d', q, h1, h2, h3, h4, h5, h6⟩ := turn_parts [b0, b1, b2, b3] (R.drop f.toNat) hbs (IsB_drop hRb _)
  have hdq : IsB (d ++ q) := h1 ▸ IsB_drop hRb f.toNat
  have hd : IsB d := fun x hx => hdq x (by simp [hx])
  have hq : IsB q := fun x hx => hdq x (by simp [hx])
  refine Ev.bind ht ?_
  simp only [Bool.false_or]
  rw [h2]
  have hx' : IsB ([167, kind, ((b.length % 256 : Nat) : Int), ((b.length / 256 % 256 : Nat) : Int)] ++ R.take f.toNat ++ (d' ++ q)) :=
    IsB_append (IsB_append (IsB_cons (by omega) (by omega) (IsB_cons hk0 hk1 (IsB_cons (by omega) (by omega) (IsB_cons (by omega) (by omega) IsB_nil)))) (IsB_take hRb _)) (IsB_append h5 hq)
  have hdl : d.length + q.length = b.length + 4 - f.toNat := by
    have := congrArg List.length h1
    rw [List.length_drop, List.length_append] at this
    omega
  have h7 := Open_ev (l := [167, kind, ((b.length % 256 : Nat) : Int), ((b.length / 256 % 256 : Nat) : Int)] ++ R.take f.toNat ++ (d' ++ q)) (a := 0) hx' (by rw [List.length_append, hpl, List.length_append]; omega)
  refine Ev.bind h7 (Ev.bind lives_ev ?_)
  have hop := open_turned (kind := kind) (b := b) (p := R.take f.toNat) (d := d) (d' := d') (q := q) 0 hk0 hk1 hb (by omega) (by rw [← hR, List.append_assoc, ← h1, List.take_append_drop]) h5 h3 (by simp at h4; omega)
  have hoR : (openR ([167, kind, ((b.length % 256 : Nat) : Int), ((b.length / 256 % 256 : Nat) : Int)] ++ R.take f.toNat ++ (d' ++ q)) 0).2.2 = if d = d' then 0 else 5 := by
    unfold openR
    rw [if_neg (by omega)]
    have e : (([167, kind, ((b.length % 256 : Nat) : Int), ((b.length / 256 % 256 : Nat) : Int)] ++ R.take f.toNat ++ (d' ++ q) : List Int).drop (0 : Int).toNat) = 167 :: kind :: ((b.length % 256 : Nat) : Int) :: ((b.length / 256 % 256 : Nat) : Int) :: (R.take f.toNat ++ d' ++ q) := by simp
    rw [e]
    exact hop
  simp only [flat, hoR]
  by_cases hdd : d = d'
  · have e5 := h6.1 hdd
    rw [if_pos hdd, e5]
    exact Ev.now _
  · have e5 : turnT [b0, b1, b2, b3] (R.drop f.toNat) = true := by
      cases hh : turnT [b0, b1, b2, b3] (R.drop f.toNat) with
      | true => rfl
      | false => exact absurd (h6.2 hh) hdd
    rw [if_neg hdd, e5]
    exact Ev.now _
end Go.Proofs.YtnbhlaoblnalpaaDoor.Pure
