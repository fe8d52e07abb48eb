/-
  PLAIN LAW: frames: what is pulled is read back.
-/
import Derived.Test.YtoandmnefgimoaaDoorLPSealC
import Derived.Test.YtoandmnefgimoaaDoorLPOctTL
import Derived.Test.YtoandmnefgimoaaDoorLPPLx7
import Derived.Test.YtoandmnefgimoaaDoorLPPLx13
import Derived.Test.YtoandmnefgimoaaDoorLPPLx20
import Derived.Test.YtoandmnefgimoaaDoorLPPLx22
set_option linter.unusedSimpArgs false
set_option linter.unusedVariables false
namespace Go.Proofs.YtoandmnefgimoaaDoor.PL
open Go.RowKit Go.Proofs.YtoandmnefgimoaaDoorW.PrintWords Go.Proofs.YtoandmnefgimoaaDoorW.PrintMore Go.Proofs.YtoandmnefgimoaaDoor.Crc
namespace Lnk
open Oct (uint uintN tk takeU)
theorem uint_len (x : Int) : (uint x).length ≤ 10 ∧ 0 < (uint x).length := Oct.uintN_length 9 x
theorem tk_uintN (r : List Int) : ∀ (j i : Nat) (w n p : Int), i + j = 9 → 0 ≤ w → (0 < i → 0 < w) → 0 ≤ n → w < 128 ^ (j + 1) → (i = 9 → w ≤ 1) → (i < 9 → w < 2 * 128 ^ j) →
    tk (uintN j w ++ r) n i p = (n + w * 128 ^ i, p + (uintN j w).length, 0) := by
  intro j
  induction j with
  | zero =>
    intro i w n p hi h0 h1 hn hw h9 h8
    have := h9 (by omega)
    simp only [uintN, List.cons_append, List.nil_append, tk]
    have e : w % 256 = w := by omega
    rw [e, if_neg (by omega), if_neg (by omega), if_neg (by omega), show w % 128 = w from by omega]
    simp
  | succ j ih =>
    intro i w n p hi h0 h1 hn hw h9 h8
    simp only [uintN]
    by_cases c : w ≥ 128
    · rw [if_pos c]
      simp only [List.cons_append, tk]
      have hpj := Oct.pow_pos j
      have e1 : w < 128 ^ (j + 1) * 128 := by rw [← Int.pow_succ]; exact hw
      have e2 : w < 2 * (128 ^ j * 128) := by rw [← Int.pow_succ]; exact h8 (by omega)
      have hb9 : i + 1 = 9 → w / 128 ≤ 1 := fun h => by
        have : j = 0 := by omega
        subst this
        have e2 : w < 2 * (1 * 128) := by simpa using e2
        omega
      rw [if_neg (by omega), if_pos (by omega), ih (i + 1) (w / 128) _ (p + 1) (by omega) (by omega) (fun _ => by omega) (Int.add_nonneg hn (Int.mul_nonneg (by omega) (Int.le_of_lt (Oct.pow_pos i)))) (by omega) hb9 (fun _ => by omega)]
      rw [show (w % 128 + 128) % 128 = w % 128 from by omega, List.length_cons]
      have e3 : n + w % 128 * 128 ^ i + w / 128 * 128 ^ (i + 1) = n + w * 128 ^ i := by
        have : w * 128 ^ i = (w % 128 + w / 128 * 128) * 128 ^ i := by rw [show w % 128 + w / 128 * 128 = w from by omega]
        rw [this, Int.add_mul, Int.pow_succ, Int.mul_comm (128 ^ i) 128, ← Int.mul_assoc, Int.add_assoc]
      rw [e3]
      refine Prod.ext rfl (Prod.ext ?_ rfl)
      show p + 1 + ((uintN j (w / 128)).length : Int) = p + (((uintN j (w / 128)).length + 1 : Nat) : Int)
      omega
    · rw [if_neg c]
      simp only [List.cons_append, List.nil_append, tk]
      have e : w % 256 = w := by omega
      rw [e, if_neg (by omega), if_neg c, if_neg (by omega), show w % 128 = w from by omega]
      simp
theorem takeU_uint {b r : List Int} {t x : Int} (ht : 0 ≤ t) (htl : t ≤ b.length) (h : b.drop t.toNat = uint x ++ r) (h0 : 0 ≤ x) (h1 : x < 18446744073709551616) : takeU b t = (x, t + (uint x).length, 0) := by
  unfold takeU
  rw [if_neg (by omega), h]
  have p10 : (128 : Int) ^ (9 + 1) = 1180591620717411303424 := by decide
  have p9 : (128 : Int) ^ 9 = 9223372036854775808 := by decide
  have := tk_uintN r 9 0 x 0 t (by omega) h0 (fun h => by omega) (by omega) (by omega) (fun h => by omega) (fun _ => by omega)
  unfold uint
  rw [this]
  simp
theorem uintN_b : ∀ (j : Nat) (w : Int), 0 ≤ w → IsB (uintN j w) := by
  intro j
  induction j with
  | zero => intro w h; unfold uintN; exact IsB_cons (by omega) (by omega) IsB_nil
  | succ j ih =>
    intro w h
    unfold uintN
    split
    · exact IsB_cons (by omega) (by omega) (ih _ (by omega))
    · exact IsB_cons (by omega) (by omega) IsB_nil
theorem uint_b {x : Int} (h : 0 ≤ x) : IsB (uint x) := uintN_b 9 x h
theorem num_ev {out : List Int} {n : Int} (h0 : 0 ≤ n) (h1 : n < 18446744073709551616) (hl : out.length ≤ 100) : Ev (fun k => parcel_Put.num k out n) (out ++ uint n) := by
  unfold parcel_Put.num
  rw [show n % 18446744073709551616 = n by omega]
  refine Ev.bind (Oct.Uint_ev n h0 h1).1 ?_
  have := uint_len n
  rw [if_pos (by omega)]
  exact Ev.now _
theorem nums_ev {o t m : Int} (ho : 0 ≤ o ∧ o < 18446744073709551616) (ht : 0 ≤ t ∧ t < 18446744073709551616) (hm : 0 ≤ m ∧ m < 18446744073709551616) : Ev (fun k => parcel_Put.nums k [] [o, t, m]) (uint o ++ uint t ++ uint m) := by
  have l1 := uint_len o
  have l2 := uint_len t
  unfold parcel_Put.nums
  refine Ev.bind (num_ev ho.1 ho.2 (by simp)) ?_
  unfold parcel_Put.nums
  refine Ev.bind (num_ev ht.1 ht.2 (by simp; omega)) ?_
  unfold parcel_Put.nums
  refine Ev.bind (num_ev hm.1 hm.2 (by simp; omega)) ?_
  unfold parcel_Put.nums
  rw [List.nil_append]
  exact Ev.now _
def body (o t m : Int) : List Int := uint o ++ uint t ++ uint m
theorem body_len (o t m : Int) : (body o t m).length ≤ 30 := by
  have l1 := uint_len o
  have l2 := uint_len t
  have l3 := uint_len m
  simp only [body, List.length_append]
  omega
theorem body_b {o t m : Int} (ho : 0 ≤ o) (ht : 0 ≤ t) (hm : 0 ≤ m) : IsB (body o t m) := IsB_append (IsB_append (uint_b ho) (uint_b ht)) (uint_b hm)
theorem pull_ev {o t m K : Int} (hK : 0 ≤ K ∧ K < 256) (ho : 0 ≤ o ∧ o < 18446744073709551616) (ht : 0 ≤ t ∧ t < 18446744073709551616) (hm : 0 ≤ m ∧ m < 18446744073709551616) : Ev (fun k => link_Link_Pull.F k o t m K []) (sealdS K (body o t m)) := by
  unfold link_Link_Pull.F
  refine Ev.bind (nums_ev ho ht hm) ?_
  have hl := body_len o t m
  unfold body at hl
  have hc : (uint o ++ uint t ++ uint m).length + ([] : List Int).length < 140737488355328 := by rw [List.length_nil]; omega
  simp only [if_pos hc, List.append_nil]
  refine Ev.bind (Seal_ev hK.1 hK.2 (body_b ho.1 ht.1 hm.1)) ?_
  unfold sealR
  rw [if_neg (by omega)]
  exact Ev.now _
theorem sealOpen_ev {K : Int} {b : List Int} (hK : 0 ≤ K ∧ K < 256) (hb : IsB b) (hl : b.length ≤ 4096) : Ev (fun k => seal_Open.f k (sealdS K b) 0) (K, 0, b, (b.length : Int) + 8, 0) := by
  have h := Open_ev (l := sealdS K b) (a := 0) (sealdS_b hK.1 hK.2 hb) (by rw [sealdS_length]; omega)
  have h2 := open_around (kind := K) (b := b) [] [] hl
  simp only [List.nil_append, List.append_nil, List.length_nil] at h2
  rw [show ((0 : Nat) : Int) = 0 from rfl] at h2
  rw [h2] at h
  have e : flat ((K, (0 : Int), b), (0 : Int) + b.length + 8, 0) = (K, 0, b, (b.length : Int) + 8, 0) := by simp [flat]
  rw [e] at h
  exact h
theorem onums_ev {o t m : Int} {rest : List Int} (ho : 1 ≤ o ∧ o ≤ 1073741824) (ht : 0 ≤ t ∧ t ≤ 1073741824) (hm : 1 ≤ m ∧ m ≤ 1099511627776) (hr : IsB rest) (hl : rest.length ≤ 4096) :
    Ev (fun k => link_open.nums k (body o t m ++ rest) [0, 1, 2] 0 false 0 0 0) (0, ((body o t m).length : Int), false, o, t, m) := by
  have hb := IsB_append (body_b (o := o) (t := t) (m := m) (by omega) (by omega) (by omega)) hr
  have hB : Oct.Bytes (body o t m ++ rest) := hb
  have hln := body_len o t m
  have hlen : (body o t m ++ rest).length ≤ 9223372036854775000 := by rw [List.length_append]; omega
  have l1 := uint_len o
  have l2 := uint_len t
  have l3 := uint_len m
  have hbl : (body o t m).length = (uint o).length + (uint t).length + (uint m).length := by simp only [body, List.length_append]
  have w1 : wrap64 o = o := Oct.wrap_ok (by omega) (by omega)
  have w2 : wrap64 t = t := Oct.wrap_ok (by omega) (by omega)
  have w3 : wrap64 m = m := Oct.wrap_ok (by omega) (by omega)
  have g1 : link_open.big 0 o = false := by unfold link_open.big link_open.most; simp; omega
  have g2 : link_open.big 1 t = false := by unfold link_open.big link_open.most; simp; omega
  have g3 : link_open.big 2 m = false := by unfold link_open.big link_open.most; simp; omega
  have t1 : takeU (body o t m ++ rest) 0 = (o, ((uint o).length : Int), 0) := by
    rw [takeU_uint (r := uint t ++ uint m ++ rest) (x := o) (by omega) (by omega) (by simp [body, List.append_assoc]) (by omega) (by omega)]
    simp
  have t2 : takeU (body o t m ++ rest) ((uint o).length : Int) = (t, (((uint o).length + (uint t).length : Nat) : Int), 0) := by
    rw [takeU_uint (r := uint m ++ rest) (x := t) (by omega) (by rw [List.length_append]; omega) (by simp [body, List.append_assoc]) (by omega) (by omega)]
    simp
  have t3 : takeU (body o t m ++ rest) (((uint o).length + (uint t).length : Nat) : Int) = (m, ((body o t m).length : Int), 0) := by
    have hd : (body o t m ++ rest).drop ((uint o).length + (uint t).length) = uint m ++ rest := by
      rw [body, ← List.length_append, List.append_assoc (uint o ++ uint t), List.drop_left]
    rw [takeU_uint (r := rest) (x := m) (by omega) (by rw [List.length_append]; omega) (by rw [Int.toNat_natCast]; exact hd) (by omega) (by omega), hbl]
    simp
  unfold link_open.nums
  refine Ev.bind (Oct.TakeUint_ev hB hlen 0).1 ?_
  rw [t1]
  simp only [if_true, g1, w1, Bool.or_false]
  unfold link_open.nums
  refine Ev.bind (Oct.TakeUint_ev hB hlen _).1 ?_
  rw [t2]
  simp only [if_true, g2, w2, Bool.or_false]
  unfold link_open.nums
  refine Ev.bind (Oct.TakeUint_ev hB hlen _).1 ?_
  rw [t3]
  simp only [if_true, g3, w3, Bool.or_false]
  unfold link_open.nums
  exact Ev.now _
theorem open_ev {o t m K : Int} (hK : K = 2 ∨ K = 3) (ho : 1 ≤ o ∧ o ≤ 1073741824) (ht : 0 ≤ t ∧ t ≤ 1073741824) (hm : 1 ≤ m ∧ m ≤ 1099511627776) :
    Ev (fun k => link_open.F k (sealdS K (body o t m))) (0, some ⟨K, o, t, m, 0, 0, 0, 0, 0, 0, [], []⟩) := by
  have hln := body_len o t m
  have hb := body_b (o := o) (t := t) (m := m) (by omega) (by omega) (by omega)
  unfold link_open.F
  refine Ev.bind (sealOpen_ev (by omega) hb (by omega)) ?_
  simp only [if_true]
  have h1 : ¬ ((body o t m).length : Int) + 8 < ((sealdS K (body o t m)).length : Int) := by rw [sealdS_length]; omega
  have h2 : ¬ K < 1 := by omega
  have h3 : ¬ K > 3 := by omega
  simp only [if_neg h1, if_neg h2, if_neg h3]
  have h := onums_ev (rest := []) ho ht hm IsB_nil (by simp)
  rw [List.append_nil] at h
  refine Ev.bind h ?_
  simp only [if_true, Bool.false_eq_true, if_false]
  unfold link_open.fin
  have h4 : 0 ≤ ((body o t m).length : Int) ∧ ((body o t m).length : Int) ≤ ((body o t m).length : Int) := ⟨by omega, Int.le_refl _⟩
  have h5 : ¬ K = 1 := by omega
  have h6 : ¬ (((body o t m).drop ((body o t m).length : Int).toNat).length : Int) > 0 := by rw [List.length_drop]; omega
  simp only [if_pos h4, if_neg h5, if_neg h6]
  exact Ev.now _
end Lnk
end Go.Proofs.YtoandmnefgimoaaDoor.PL
