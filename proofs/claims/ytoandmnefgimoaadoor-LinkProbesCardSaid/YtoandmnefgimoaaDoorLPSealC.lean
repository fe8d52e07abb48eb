/-
  PLAIN LAW: what seal.Seal and seal.Open, and the reference's, tell.
-/
import Derived.Lib.Bytes
import Derived.Test.YtoandmnefgimoaaDoorLPSealB
import Derived.Test.YtoandmnefgimoaaDoorLPPLx12
import Derived.Test.YtoandmnefgimoaaDoorLPPLx14
import Derived.Test.YtoandmnefgimoaaDoorLPPLx24
set_option linter.unusedSimpArgs false
set_option linter.unusedVariables false
namespace Go.Proofs.YtoandmnefgimoaaDoor.PL
open Go.RowKit Go.Proofs.YtoandmnefgimoaaDoorW.PrintWords Go.Proofs.YtoandmnefgimoaaDoorW.PrintMore Go.Proofs.YtoandmnefgimoaaDoor.Crc
theorem four_int (n : Nat) : ([(n : Int) % 256, (n : Int) / 256 % 256, (n : Int) / 65536 % 256, (n : Int) / 16777216 % 256] : List Int) = fourI n := by
  simp only [fourI, List.cons.injEq, and_true]
  omega
theorem Seal_ev {kind : Int} {b : List Int} (h0 : 0 ≤ kind) (h1 : kind < 256) (hb : IsB b) : Ev (fun k => seal_Seal.f k kind b) (sealR kind b) := by
  unfold seal_Seal.f sealR
  by_cases h : 4096 < b.length
  · simp only [if_pos h, if_pos (show (b.length : Int) > 4096 by omega)]
    exact Ev.now _
  · simp only [if_neg h, if_neg (show ¬ (b.length : Int) > 4096 by omega)]
    have e1 : (kind :: ((b.length : Int) % 256) :: ((b.length : Int) / 256 % 256) :: b) = bodyS kind b := by
      simp only [bodyS, List.cons.injEq, and_true, true_and]; omega
    rw [e1]
    refine Ev.bind (Sum_ev (bodyS_b h0 h1 hb) (by rw [bodyS_length]; omega)) ?_
    rw [four_int]
    exact Ev.now _
def flat (x : (Int × Int × List Int) × Int × Int) : Int × Int × List Int × Int × Int := (x.1.1, x.1.2.1, x.1.2.2, x.2.1, x.2.2)
theorem wrapi_ok {x : Int} (h : -9223372036854775808 ≤ x) (h' : x ≤ 9223372036854775807) : IntKind.i64.wrap x = x := by
  simp only [IntKind.wrap, IntKind.bits, IntKind.signed]
  simp
  omega
theorem or_bytes {a b : Nat} (ha : a < 256) (hb : b < 256) : Go.bits .or .i64 (a : Int) ((b * 256 : Nat) : Int) = ((a + 256 * b : Nat) : Int) := by
  have e1 : a ||| b * 256 = a + 256 * b := by
    have := Nat.two_pow_add_eq_or_of_lt (i := 8) (b := a) (by omega) b
    rw [Nat.or_comm, Nat.mul_comm b 256, ← show 2 ^ 8 * b + a = 256 * b ||| a from this]
    omega
  have e : (BitVec.ofInt 64 (a : Int) ||| BitVec.ofInt 64 ((b * 256 : Nat) : Int)).toNat = a + 256 * b := by
    rw [BitVec.toNat_or, BitVec.ofInt_natCast, BitVec.ofInt_natCast, BitVec.toNat_ofNat, BitVec.toNat_ofNat, Nat.mod_eq_of_lt (by omega), Nat.mod_eq_of_lt (by omega), e1]
  show IntKind.i64.wrap (((BitVec.ofInt 64 (a : Int) ||| BitVec.ofInt 64 ((b * 256 : Nat) : Int)).toNat : Nat) : Int) = _
  rw [e, wrapi_ok (by omega) (by omega)]
theorem rd_b {l : List Int} (hl : IsB l) (i : Int) : 0 ≤ rd l i ∧ rd l i < 256 := by
  unfold rd
  rw [List.getD_eq_getElem?_getD]
  cases h : l[i.toNat]? with
  | none => simp
  | some x => exact hl x (List.mem_of_getElem? h)
theorem open_n {t : List Int} (ht : IsB t) : seal_Open.n t = rd t 2 + 256 * rd t 3 := by
  have h2 := rd_b ht 2
  have h3 := rd_b ht 3
  unfold seal_Open.n
  rw [wrap_ok (by omega) (by omega), wrap_ok (x := rd t 3) (by omega) (by omega), wrap_ok (by omega) (by omega)]
  obtain ⟨a, ea⟩ : ∃ a : Nat, rd t 2 = (a : Int) := ⟨(rd t 2).toNat, by omega⟩
  obtain ⟨b, eb⟩ : ∃ b : Nat, rd t 3 = (b : Int) := ⟨(rd t 3).toNat, by omega⟩
  have := or_bytes (a := a) (b := b) (by omega) (by omega)
  rw [ea, eb]
  rw [show ((b : Int) * 256) = ((b * 256 : Nat) : Int) by omega, this]
  omega
theorem take4 {t : List Int} {i : Int} (h0 : 0 ≤ i) (h : i + 4 ≤ t.length) : (t.drop i.toNat).take 4 = [rd t i, rd t (i + 1), rd t (i + 2), rd t (i + 3)] := by
  rw [rd_drop h0 (by omega), rd_drop (i := i + 1) (by omega) (by omega), rd_drop (i := i + 1 + 1) (by omega) (by omega), rd_drop (i := i + 1 + 1 + 1) (by omega) (by omega)]
  simp only [List.take_succ_cons, List.take_zero]
  rw [show i + 1 + 1 = i + 2 by omega, show i + 2 + 1 = i + 3 by omega]
theorem four_iff {s : Nat} {a b c d : Int} : fourI s = [a, b, c, d] ↔ a = (s : Int) % 256 ∧ b = (s : Int) / 256 % 256 ∧ c = (s : Int) / 65536 % 256 ∧ d = (s : Int) / 16777216 % 256 := by
  rw [← four_int]
  simp only [List.cons.injEq, and_true]
  constructor
  · rintro ⟨rfl, rfl, rfl, rfl⟩; simp
  · rintro ⟨rfl, rfl, rfl, rfl⟩; simp
theorem Open_ev {l : List Int} {a : Int} (hl : IsB l) (hn : l.length ≤ 4611686018427387904) : Ev (fun k => seal_Open.f k l a) (flat (openR l a)) := by
  unfold seal_Open.f openR
  by_cases h1 : a < 0
  · simp only [if_pos h1, if_pos (show a < 0 ∨ (l.length : Int) < a from .inl h1)]
    exact Ev.now _
  by_cases h2 : a > (l.length : Int)
  · simp only [if_neg h1, if_pos h2, if_pos (show a < 0 ∨ (l.length : Int) < a from .inr h2)]
    exact Ev.now _
  simp only [if_neg h1, if_neg h2, if_neg (show ¬ (a < 0 ∨ (l.length : Int) < a) by omega)]
  obtain ⟨t, ht⟩ : ∃ t, t = l.drop a.toNat := ⟨_, rfl⟩
  have hb : IsB t := ht ▸ IsB_drop hl _
  have htl : t.length = l.length - a.toNat := by rw [ht, List.length_drop]
  simp only [← ht, open_n hb]
  unfold openT
  by_cases h3 : t.length = 0
  · simp only [if_pos h3, if_pos (show ((t.length : Nat) : Int) = 0 by omega)]
    exact Ev.now _
  by_cases h4 : rd t 0 = 167
  case neg =>
    simp only [if_neg h3, if_neg (show ¬ ((t.length : Nat) : Int) = 0 by omega), if_neg h4, if_pos (show rd t 0 ≠ 167 from h4)]
    exact Ev.now _
  simp only [if_neg h3, if_neg (show ¬ ((t.length : Nat) : Int) = 0 by omega), if_pos h4, if_neg (show ¬ rd t 0 ≠ 167 by simpa using h4)]
  by_cases h5 : t.length < 4
  · simp only [if_pos h5, if_pos (show ((t.length : Nat) : Int) < 4 by omega)]
    exact Ev.now _
  have b2 := rd_b hb 2
  have b3 := rd_b hb 3
  obtain ⟨n, hn'⟩ : ∃ n, n = rd t 2 + 256 * rd t 3 := ⟨_, rfl⟩
  have hn0 : 0 ≤ n := by omega
  simp only [if_neg h5, if_neg (show ¬ ((t.length : Nat) : Int) < 4 by omega), ← hn']
  by_cases h6 : 4096 < n
  · simp only [if_pos h6, if_pos (show n > 4096 from h6)]
    exact Ev.now _
  simp only [if_neg h6, if_neg (show ¬ n > 4096 from h6), if_pos hn0]
  by_cases h7 : (t.length : Int) < n + 8
  · simp only [if_pos h7]
    exact Ev.now _
  simp only [if_neg h7]
  unfold seal_Open.t
  have ey : (t.take (4 + n).toNat).drop 1 = (t.drop 1).take (n + 3).toNat := by
    rw [List.drop_take, show (4 + n).toNat - 1 = (n + 3).toNat by omega]
  have hyb : IsB ((t.drop 1).take (n + 3).toNat) := IsB_take (IsB_drop hb _) _
  have hyl : ((t.drop 1).take (n + 3).toNat).length ≤ 9223372036854775807 := by rw [List.length_take, List.length_drop]; omega
  rw [ey]
  refine Ev.bind (Sum_ev hyb hyl) ?_
  have e4 := take4 (t := t) (i := n + 4) (by omega) (by omega)
  rw [e4]
  have w1 : wrap64 (a + n) = a + n := wrap_ok (by omega) (by omega)
  have w2 : wrap64 (a + n + 8) = a + n + 8 := wrap_ok (by omega) (by omega)
  rw [w1, w2, show 4 + n = n + 4 by omega, show 5 + n = n + 4 + 1 by omega, show 6 + n = n + 4 + 2 by omega, show 7 + n = n + 4 + 3 by omega]
  generalize hs : (more 0 (nats ((t.drop 1).take (n + 3).toNat)) : Nat) = s
  have hcr : crc ((t.drop 1).take (n + 3).toNat) = s := hs
  rw [hcr]
  by_cases e : fourI s = [rd t (n + 4), rd t (n + 4 + 1), rd t (n + 4 + 2), rd t (n + 4 + 3)]
  · obtain ⟨p1, p2, p3, p4⟩ := four_iff.1 e
    simp only [if_pos e, if_pos p1, if_pos p2, if_pos p3, if_pos p4]
    exact Ev.now _
  · simp only [if_neg e]
    have hne := fun h => e (four_iff.2 h)
    by_cases p1 : rd t (n + 4) = (s : Int) % 256
    · by_cases p2 : rd t (n + 4 + 1) = (s : Int) / 256 % 256
      · by_cases p3 : rd t (n + 4 + 2) = (s : Int) / 65536 % 256
        · have p4 : ¬ rd t (n + 4 + 3) = (s : Int) / 16777216 % 256 := fun p4 => hne ⟨p1, p2, p3, p4⟩
          simp only [if_pos p1, if_pos p2, if_pos p3, if_neg p4]
          exact Ev.now _
        · simp only [if_pos p1, if_pos p2, if_neg p3]
          exact Ev.now _
      · simp only [if_pos p1, if_neg p2]
        exact Ev.now _
    · simp only [if_neg p1]
      exact Ev.now _
end Go.Proofs.YtoandmnefgimoaaDoor.PL
