/-
  PLAIN LAW: frames: what is pulled is read back.
-/
import Derived.Test.YtoandmnefgimoaaDoorLBSealAll
import Derived.Test.YtoandmnefgimoaaDoorLBOctAll
import Derived.Test.YtoandmnefgimoaaDoorLBPLx7
import Derived.Test.YtoandmnefgimoaaDoorLBPLx13
import Derived.Test.YtoandmnefgimoaaDoorLBPLx20
import Derived.Test.YtoandmnefgimoaaDoorLBPLx22
set_option linter.unusedSimpArgs false
set_option linter.unusedVariables false
namespace Go.Proofs.YtoandmnefgimoaaDoor.PL
open Go.RowKit Go.Proofs.YtoandmnefgimoaaDoorW.PrintWords Go.Proofs.YtoandmnefgimoaaDoorW.PrintMore Go.Proofs.YtoandmnefgimoaaDoor.Crc
namespace Lnk
open Oct (uint uintN tk takeU)
theorem uint_len (x : Int) : (uint x).length ≤ 10 ∧ 0 < (uint x).length := Oct.uintN_length 9 x
theorem uintN_b : ∀ (j : Nat) (w : Int), 0 ≤ w → IsB (uintN j w) := by
  intro j
  induction j with
  | zero => intro w h; unfold uintN; exact IsB_cons (by omega) (by omega) IsB_nil
  | succ j ih =>
    intro w h
    unfold uintN
    split
    · exact IsB_cons (by omega) (by omega) (ih _ (by omega))
    · exact IsB_cons (by omega) (by omega) IsB_nil
theorem uint_b {x : Int} (h : 0 ≤ x) : IsB (uint x) := uintN_b 9 x h
theorem num_ev {out : List Int} {n : Int} (h0 : 0 ≤ n) (h1 : n < 18446744073709551616) (hl : out.length ≤ 100) : Ev (fun k => parcel_Put.num k out n) (out ++ uint n) := by
  unfold parcel_Put.num
  rw [show n % 18446744073709551616 = n by omega]
  refine Ev.bind (Oct.Uint_ev n h0 h1).1 ?_
  have := uint_len n
  rw [if_pos (by omega)]
  exact Ev.now _
theorem nums_ev {o t m : Int} (ho : 0 ≤ o ∧ o < 18446744073709551616) (ht : 0 ≤ t ∧ t < 18446744073709551616) (hm : 0 ≤ m ∧ m < 18446744073709551616) : Ev (fun k => parcel_Put.nums k [] [o, t, m]) (uint o ++ uint t ++ uint m) := by
  have l1 := uint_len o
  have l2 := uint_len t
  unfold parcel_Put.nums
  refine Ev.bind (num_ev ho.1 ho.2 (by simp)) ?_
  unfold parcel_Put.nums
  refine Ev.bind (num_ev ht.1 ht.2 (by simp; omega)) ?_
  unfold parcel_Put.nums
  refine Ev.bind (num_ev hm.1 hm.2 (by simp; omega)) ?_
  unfold parcel_Put.nums
  rw [List.nil_append]
  exact Ev.now _
def body (o t m : Int) : List Int := uint o ++ uint t ++ uint m
theorem body_len (o t m : Int) : (body o t m).length ≤ 30 := by
  have l1 := uint_len o
  have l2 := uint_len t
  have l3 := uint_len m
  simp only [body, List.length_append]
  omega
theorem body_b {o t m : Int} (ho : 0 ≤ o) (ht : 0 ≤ t) (hm : 0 ≤ m) : IsB (body o t m) := IsB_append (IsB_append (uint_b ho) (uint_b ht)) (uint_b hm)
end Lnk
end Go.Proofs.YtoandmnefgimoaaDoor.PL
