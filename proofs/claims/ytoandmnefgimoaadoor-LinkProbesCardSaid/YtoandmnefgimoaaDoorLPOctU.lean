/-
  PLAIN LAW: numbers as bytes: what is written.
-/
import Derived.Test.YtoandmnefgimoaaDoorLPPLx0
import Derived.Test.YtoandmnefgimoaaDoorLPPLx6
import Derived.Test.YtoandmnefgimoaaDoorLPPLx23
set_option linter.unusedSimpArgs false
set_option linter.unusedVariables false
namespace Go.Proofs.YtoandmnefgimoaaDoor.PL
open Go.RowKit Go.Proofs.YtoandmnefgimoaaDoorW.PrintWords Go.Proofs.YtoandmnefgimoaaDoorW.PrintMore
namespace Oct
theorem Ev.succ {α : Type} {g : Nat → Option α} {r : α} (h : Ev (fun k => g (k + 1)) r) : Ev g r := Ev.step (f := fun k => g (k + 1)) (fun _ => rfl) h
theorem Ev.done {α : Type} {g : Nat → Option α} {r : α} (h : ∀ k, g (k + 1) = some r) : Ev g r := Ev.step (f := fun _ => some r) h (Ev.now r)
theorem wrap_ok {x : Int} (h : -9223372036854775808 ≤ x) (h' : x ≤ 9223372036854775807) : wrap64 x = x := by
  unfold wrap64; omega
theorem wrapu_ok {x : Int} (h : 0 ≤ x) (h' : x < 18446744073709551616) : IntKind.u64.wrap x = x := by
  simp only [IntKind.wrap, IntKind.bits, IntKind.signed]
  simp
  omega
theorem or128 : ∀ y : Nat, y < 256 → Go.bits .or .u8 (y : Int) 128 = ((y % 128 + 128 : Nat) : Int) := by decide +kernel
theorem and127 : ∀ y : Nat, y < 256 → Go.bits .and .u8 (y : Int) 127 = ((y % 128 : Nat) : Int) := by decide +kernel
theorem or_u64 (a b : Nat) (ha : a < 18446744073709551616) (hb : b < 18446744073709551616) : Go.bits .or .u64 (a : Int) (b : Int) = ((a ||| b : Nat) : Int) := by
  have hab : a ||| b < 2 ^ 64 := Nat.or_lt_two_pow ha hb
  have e : (BitVec.ofInt 64 (a : Int) ||| BitVec.ofInt 64 (b : Int)).toNat = a ||| b := by
    rw [BitVec.toNat_or, BitVec.ofInt_natCast, BitVec.ofInt_natCast, BitVec.toNat_ofNat, BitVec.toNat_ofNat, Nat.mod_eq_of_lt ha, Nat.mod_eq_of_lt hb]
  show IntKind.u64.wrap (((BitVec.ofInt 64 (a : Int) ||| BitVec.ofInt 64 (b : Int)).toNat : Nat) : Int) = _
  rw [e, wrapu_ok (by omega) (by omega)]
def uintN : Nat → Int → List Int
  | 0, x => [x % 256]
  | n + 1, x => if x ≥ 128 then (x % 128 + 128) :: uintN n (x / 128) else [x % 256]
def uint (x : Int) : List Int := uintN 9 x
theorem uintN_length (n : Nat) : ∀ x, (uintN n x).length ≤ n + 1 ∧ 0 < (uintN n x).length := by
  induction n with
  | zero => intro x; simp [uintN]
  | succ n ih =>
    intro x
    simp only [uintN]
    split
    · have := ih (x / 128); simp only [List.length_cons]; omega
    · simp
theorem Uint_ev_l : ∀ (n : Nat) (x : Int) (out : List Int), 0 ≤ x → x < 128 ^ (n + 1) → x < 18446744073709551616 → out.length + n + 1 < 140737488355328 →
    Ev (fun k => octet_Uint.l0 k x out) (out ++ uintN n x) ∧ Ev (fun k => grapevineref02_Uint.l0 k x out) (out ++ uintN n x) := by
  intro n
  induction n with
  | zero =>
    intro x out h0 h1 h2 ho
    simp only [uintN]
    constructor
    · refine Ev.done (fun k => ?_)
      simp only [octet_Uint.l0]
      rw [if_neg (by omega), if_pos (by omega)]
    · refine Ev.done (fun k => ?_)
      simp only [grapevineref02_Uint.l0]
      rw [if_neg (by omega), if_pos (by omega)]
  | succ n ih =>
    intro x out h0 h1 h2 ho
    by_cases c : x ≥ 128
    · have h3 : x / 128 < 128 ^ (n + 1) := by
        have : x < 128 ^ (n + 1) * 128 := by rw [← Int.pow_succ]; exact h1
        omega
      obtain ⟨i1, i2⟩ := ih (x / 128) (out ++ [x % 128 + 128]) (by omega) h3 (by omega) (by simp only [List.length_append, List.length_singleton]; omega)
      simp only [uintN, if_pos c]
      rw [show out ++ (x % 128 + 128) :: uintN n (x / 128) = (out ++ [x % 128 + 128]) ++ uintN n (x / 128) from by simp]
      constructor
      · refine Ev.step (fun k => ?_) i1
        simp only [octet_Uint.l0]
        rw [if_pos c, if_pos (by omega)]
        have e : Go.bits .or .u8 (x % 256) 128 = x % 128 + 128 := by
          have h := or128 (x % 256).toNat (by omega)
          rw [show (((x % 256).toNat : Nat) : Int) = x % 256 from by omega] at h
          rw [h]
          omega
        rw [e]
      · refine Ev.step (fun k => ?_) i2
        simp only [grapevineref02_Uint.l0]
        rw [if_pos (by omega), if_pos (by omega)]
        have e1 : Int.tmod x 128 = x % 128 := Int.tmod_eq_emod_of_nonneg h0
        have e2 : Int.tdiv x 128 = x / 128 := Int.tdiv_eq_ediv_of_nonneg h0
        rw [e1, e2, wrapu_ok (x := 128 + x % 128) (by omega) (by omega), wrapu_ok (x := x / 128) (by omega) (by omega), show (128 + x % 128) % 256 = x % 128 + 128 from by omega]
    · simp only [uintN, if_neg c]
      constructor
      · refine Ev.done (fun k => ?_)
        simp only [octet_Uint.l0]
        rw [if_neg (by omega), if_pos (by omega)]
      · refine Ev.done (fun k => ?_)
        simp only [grapevineref02_Uint.l0]
        rw [if_neg (by omega), if_pos (by omega)]
theorem Uint_ev (x : Int) (h0 : 0 ≤ x) (h1 : x < 18446744073709551616) : Ev (fun k => octet_Uint.f k x) (uint x) ∧ Ev (fun k => grapevineref02_Uint.f k x) (uint x) := by
  have h := Uint_ev_l 9 x [] h0 (by have : (128 : Int) ^ (9 + 1) = 1180591620717411303424 := by decide
                                    omega) h1 (by simp)
  rw [List.nil_append] at h
  exact h
end Oct
end Go.Proofs.YtoandmnefgimoaaDoor.PL
