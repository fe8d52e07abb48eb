import Derived.Test.YtoandmnefgimoaaDoorLBPLx0
import Derived.Test.YtoandmnefgimoaaDoorLBPLx6
import Derived.Test.YtoandmnefgimoaaDoorLBPLx23
import Derived.Test.YtoandmnefgimoaaDoorLBPLx14
section
set_option linter.unusedSimpArgs false
set_option linter.unusedVariables false
namespace Go.Proofs.YtoandmnefgimoaaDoor.PL
open Go.RowKit Go.Proofs.YtoandmnefgimoaaDoorW.PrintWords Go.Proofs.YtoandmnefgimoaaDoorW.PrintMore
namespace Oct
theorem Ev.succ {α : Type} {g : Nat → Option α} {r : α} (h : Ev (fun k => g (k + 1)) r) : Ev g r := Ev.step (f := fun k => g (k + 1)) (fun _ => rfl) h
theorem Ev.done {α : Type} {g : Nat → Option α} {r : α} (h : ∀ k, g (k + 1) = some r) : Ev g r := Ev.step (f := fun _ => some r) h (Ev.now r)
theorem wrap_ok {x : Int} (h : -9223372036854775808 ≤ x) (h' : x ≤ 9223372036854775807) : wrap64 x = x := by
  unfold wrap64; omega
theorem wrapu_ok {x : Int} (h : 0 ≤ x) (h' : x < 18446744073709551616) : IntKind.u64.wrap x = x := by
  simp only [IntKind.wrap, IntKind.bits, IntKind.signed]
  simp
  omega
theorem or128 : ∀ y : Nat, y < 256 → Go.bits .or .u8 (y : Int) 128 = ((y % 128 + 128 : Nat) : Int) := by decide +kernel
theorem and127 : ∀ y : Nat, y < 256 → Go.bits .and .u8 (y : Int) 127 = ((y % 128 : Nat) : Int) := by decide +kernel
theorem or_u64 (a b : Nat) (ha : a < 18446744073709551616) (hb : b < 18446744073709551616) : Go.bits .or .u64 (a : Int) (b : Int) = ((a ||| b : Nat) : Int) := by
  have hab : a ||| b < 2 ^ 64 := Nat.or_lt_two_pow ha hb
  have e : (BitVec.ofInt 64 (a : Int) ||| BitVec.ofInt 64 (b : Int)).toNat = a ||| b := by
    rw [BitVec.toNat_or, BitVec.ofInt_natCast, BitVec.ofInt_natCast, BitVec.toNat_ofNat, BitVec.toNat_ofNat, Nat.mod_eq_of_lt ha, Nat.mod_eq_of_lt hb]
  show IntKind.u64.wrap (((BitVec.ofInt 64 (a : Int) ||| BitVec.ofInt 64 (b : Int)).toNat : Nat) : Int) = _
  rw [e, wrapu_ok (by omega) (by omega)]
def uintN : Nat → Int → List Int
  | 0, x => [x % 256]
  | n + 1, x => if x ≥ 128 then (x % 128 + 128) :: uintN n (x / 128) else [x % 256]
def uint (x : Int) : List Int := uintN 9 x
theorem uintN_length (n : Nat) : ∀ x, (uintN n x).length ≤ n + 1 ∧ 0 < (uintN n x).length := by
  induction n with
  | zero => intro x; simp [uintN]
  | succ n ih =>
    intro x
    simp only [uintN]
    split
    · have := ih (x / 128); simp only [List.length_cons]; omega
    · simp
theorem Uint_ev_l : ∀ (n : Nat) (x : Int) (out : List Int), 0 ≤ x → x < 128 ^ (n + 1) → x < 18446744073709551616 → out.length + n + 1 < 140737488355328 →
    Ev (fun k => octet_Uint.l0 k x out) (out ++ uintN n x) ∧ Ev (fun k => grapevineref02_Uint.l0 k x out) (out ++ uintN n x) := by
  intro n
  induction n with
  | zero =>
    intro x out h0 h1 h2 ho
    simp only [uintN]
    constructor
    · refine Ev.done (fun k => ?_)
      simp only [octet_Uint.l0]
      rw [if_neg (by omega), if_pos (by omega)]
    · refine Ev.done (fun k => ?_)
      simp only [grapevineref02_Uint.l0]
      rw [if_neg (by omega), if_pos (by omega)]
  | succ n ih =>
    intro x out h0 h1 h2 ho
    by_cases c : x ≥ 128
    · have h3 : x / 128 < 128 ^ (n + 1) := by
        have : x < 128 ^ (n + 1) * 128 := by rw [← Int.pow_succ]; exact h1
        omega
      obtain ⟨i1, i2⟩ := ih (x / 128) (out ++ [x % 128 + 128]) (by omega) h3 (by omega) (by simp only [List.length_append, List.length_singleton]; omega)
      simp only [uintN, if_pos c]
      rw [show out ++ (x % 128 + 128) :: uintN n (x / 128) = (out ++ [x % 128 + 128]) ++ uintN n (x / 128) from by simp]
      constructor
      · refine Ev.step (fun k => ?_) i1
        simp only [octet_Uint.l0]
        rw [if_pos c, if_pos (by omega)]
        have e : Go.bits .or .u8 (x % 256) 128 = x % 128 + 128 := by
          have h := or128 (x % 256).toNat (by omega)
          rw [show (((x % 256).toNat : Nat) : Int) = x % 256 from by omega] at h
          rw [h]
          omega
        rw [e]
      · refine Ev.step (fun k => ?_) i2
        simp only [grapevineref02_Uint.l0]
        rw [if_pos (by omega), if_pos (by omega)]
        have e1 : Int.tmod x 128 = x % 128 := Int.tmod_eq_emod_of_nonneg h0
        have e2 : Int.tdiv x 128 = x / 128 := Int.tdiv_eq_ediv_of_nonneg h0
        rw [e1, e2, wrapu_ok (x := 128 + x % 128) (by omega) (by omega), wrapu_ok (x := x / 128) (by omega) (by omega), show (128 + x % 128) % 256 = x % 128 + 128 from by omega]
    · simp only [uintN, if_neg c]
      constructor
      · refine Ev.done (fun k => ?_)
        simp only [octet_Uint.l0]
        rw [if_neg (by omega), if_pos (by omega)]
      · refine Ev.done (fun k => ?_)
        simp only [grapevineref02_Uint.l0]
        rw [if_neg (by omega), if_pos (by omega)]
theorem Uint_ev (x : Int) (h0 : 0 ≤ x) (h1 : x < 18446744073709551616) : Ev (fun k => octet_Uint.f k x) (uint x) ∧ Ev (fun k => grapevineref02_Uint.f k x) (uint x) := by
  have h := Uint_ev_l 9 x [] h0 (by have : (128 : Int) ^ (9 + 1) = 1180591620717411303424 := by decide
                                    omega) h1 (by simp)
  rw [List.nil_append] at h
  exact h
end Oct
end Go.Proofs.YtoandmnefgimoaaDoor.PL

end

section
set_option linter.unusedSimpArgs false
set_option linter.unusedVariables false
namespace Go.Proofs.YtoandmnefgimoaaDoor.PL
open Go.RowKit Go.Proofs.YtoandmnefgimoaaDoorW.PrintWords Go.Proofs.YtoandmnefgimoaaDoorW.PrintMore
mutual
def grapevineref02_TakeUint.j0 : Nat → List Int → Int → Bool → Option (Int × Int × Int)
  | 0, _, _, _ => none
  | k + 1, x0, x1, x18 => if x18 = true then (some (0, 0, 2)) else (grapevineref02_TakeUint.l0 k x0 x1 0 1 0)
def grapevineref02_TakeUint.l0 : Nat → List Int → Int → Int → Int → Int → Option (Int × Int × Int)
  | 0, _, _, _, _, _ => none
  | k + 1, x0, x1, x7, x8, x9 => if x9 < 10 then (if (wrap64 (x1 + x9)) ≥ (x0.length : Int) then (some (0, 0, 3)) else (if 0 ≤ (wrap64 (x1 + x9)) then (if (wrap64 (x1 + x9)) < (x0.length : Int) then (if x9 = 9 then (grapevineref02_TakeUint.j2 k x0 x1 x7 x8 x9 (rd x0 (wrap64 (x1 + x9))) (decide ((rd x0 (wrap64 (x1 + x9))) > 1))) else (grapevineref02_TakeUint.j2 k x0 x1 x7 x8 x9 (rd x0 (wrap64 (x1 + x9))) false)) else (none)) else (none))) else (some (0, 0, 6))
def grapevineref02_TakeUint.j2 : Nat → List Int → Int → Int → Int → Int → Int → Bool → Option (Int × Int × Int)
  | 0, _, _, _, _, _, _, _ => none
  | k + 1, x0, x1, x7, x8, x9, x10, x40 => if x40 = true then (some (0, 0, 6)) else (if x10 < 128 then (if x10 = 0 then (if x9 > 0 then (some (0, 0, 4)) else (some (IntKind.u64.wrap (x7 + (IntKind.u64.wrap ((IntKind.u64.wrap (Int.tmod x10 128)) * x8))), wrap64 ((wrap64 (x1 + x9)) + 1), 0))) else (some (IntKind.u64.wrap (x7 + (IntKind.u64.wrap ((IntKind.u64.wrap (Int.tmod x10 128)) * x8))), wrap64 ((wrap64 (x1 + x9)) + 1), 0))) else (grapevineref02_TakeUint.l0 k x0 x1 (IntKind.u64.wrap (x7 + (IntKind.u64.wrap ((IntKind.u64.wrap (Int.tmod x10 128)) * x8)))) (IntKind.u64.wrap (x8 * 128)) (wrap64 (x9 + 1))))
end
def grapevineref02_TakeUint.f (k : Nat) (l0 : List Int) (a1 : Int) : Option (Int × Int × Int) := if a1 < 0 then (grapevineref02_TakeUint.j0 k l0 a1 true) else (grapevineref02_TakeUint.j0 k l0 a1 (decide (a1 > (l0.length : Int))))
namespace Oct
def tk : List Int → Int → Nat → Int → Int × Int × Int
  | [], _, _, _ => (0, 0, 3)
  | x :: r, n, i, p => if i = 9 ∧ x > 1 then (0, 0, 6) else if x ≥ 128 then tk r (n + x % 128 * 128 ^ i) (i + 1) (p + 1) else if x = 0 ∧ i > 0 then (0, 0, 4) else (n + x % 128 * 128 ^ i, p + 1, 0)
def Bytes (b : List Int) : Prop := ∀ x ∈ b, 0 ≤ x ∧ x < 256
theorem bytes_of {b : List Int} (h : ∀ x ∈ b, (Lit.int .u8 x).wf = true) : Bytes b := fun x hx => by
  have := h x hx
  simp only [Lit.wf, IntKind.min, IntKind.max, IntKind.signed, IntKind.bits, Bool.and_eq_true, decide_eq_true_eq] at this
  simp at this
  omega
theorem bytes_drop {b : List Int} (h : Bytes b) (n : Nat) : Bytes (b.drop n) := fun x hx => h x (List.mem_of_mem_drop hx)
theorem rd_drop (l : List Int) (i : Nat) (h : i < l.length) : l.drop i = rd l (i : Int) :: l.drop (i + 1) := by
  have e : rd l (i : Int) = l[i] := by
    unfold rd
    rw [Int.toNat_natCast, List.getD_eq_getElem?_getD, List.getElem?_eq_getElem h]
    rfl
  rw [e]
  exact List.drop_eq_getElem_cons h
theorem rd_bytes {b : List Int} (h : Bytes b) (i : Nat) (hi : i < b.length) : 0 ≤ rd b (i : Int) ∧ rd b (i : Int) < 256 := by
  have := bytes_drop h i (rd b (i : Int)) (by rw [rd_drop b i hi]; simp)
  exact this
theorem pow128 (i : Nat) : (128 : Int) ^ i = ((2 ^ (7 * i) : Nat) : Int) := by
  rw [Nat.pow_mul]; norm_cast
theorem pow_le_9 : ∀ i : Nat, i < 9 → (128 : Int) ^ i ≤ 72057594037927936 := by decide
theorem pow_le_10 : ∀ i : Nat, i < 10 → (128 : Int) ^ i ≤ 9223372036854775808 := by decide
theorem pow_le {i : Nat} (h : i ≤ 8) : (128 : Int) ^ i ≤ 72057594037927936 := pow_le_9 i (by omega)
theorem pow_pos (i : Nat) : (0 : Int) < 128 ^ i := Int.pow_pos (by decide)
theorem fits {n x : Int} {i : Nat} (h0 : 0 ≤ n) (h1 : n < 128 ^ i) (hi : i ≤ 9) (hx : 0 ≤ x ∧ x < 256) (h9 : i = 9 → x ≤ 1) : n + x % 128 * 128 ^ i < 18446744073709551616 ∧ 0 ≤ x % 128 * 128 ^ i ∧ (i ≤ 8 → n + x % 128 * 128 ^ i < 128 ^ (i + 1)) := by
  have hp := pow_pos i
  have hm : 0 ≤ x % 128 ∧ x % 128 ≤ 127 := by omega
  have h2 : 0 ≤ x % 128 * 128 ^ i := Int.mul_nonneg hm.1 (by omega)
  rcases Nat.lt_or_ge i 9 with c | c
  · have h3 : x % 128 * 128 ^ i ≤ 127 * 128 ^ i := Int.mul_le_mul_of_nonneg_right hm.2 (by omega)
    have h4 := pow_le (show i ≤ 8 by omega)
    refine ⟨by omega, h2, fun _ => ?_⟩
    rw [Int.pow_succ]
    omega
  · have e : i = 9 := by omega
    subst e
    have h9 := h9 rfl
    have h3 : x % 128 * 128 ^ 9 ≤ 1 * 128 ^ 9 := Int.mul_le_mul_of_nonneg_right (by omega) (by omega)
    have e : (128 : Int) ^ 9 = 9223372036854775808 := by decide
    rw [e] at h1 h2 h3 ⊢
    exact ⟨by omega, h2, fun h => by omega⟩
theorem acc_eq {n x : Int} {i : Nat} (h0 : 0 ≤ n) (h1 : n < 128 ^ i) (hi : i ≤ 9) (hx : 0 ≤ x ∧ x < 256) (h9 : i = 9 → x ≤ 1) : octet_TakeUint.acc n x i = n + x % 128 * 128 ^ i := by
  obtain ⟨f1, f2, f3⟩ := fits h0 h1 hi hx h9
  have ea : Go.bits .and .u8 x 127 = x % 128 := by
    have h := and127 x.toNat (by omega)
    rw [show ((x.toNat : Nat) : Int) = x from by omega] at h
    rw [h]
    omega
  unfold octet_TakeUint.acc
  rw [ea, wrapu_ok (x := x % 128) (by omega) (by omega)]
  rw [show ((2 : Int) ^ (7 * i)) = 128 ^ i from by rw [Int.pow_mul, show (2 : Int) ^ 7 = 128 from by decide]]
  rw [wrapu_ok f2 (by omega)]
  have hn : n < 18446744073709551616 := by
    have := fits h0 h1 hi (x := 0) ⟨by omega, by omega⟩ (fun _ => by omega)
    omega
  have hor := or_u64 n.toNat (x % 128 * 128 ^ i).toNat (by omega) (by omega)
  rw [show ((n.toNat : Nat) : Int) = n from by omega, show (((x % 128 * 128 ^ i).toNat : Nat) : Int) = x % 128 * 128 ^ i from by omega] at hor
  rw [hor]
  have e1 : (x % 128 * 128 ^ i).toNat = 2 ^ (7 * i) * (x % 128).toNat := by
    rw [pow128]
    have : x % 128 * ((2 ^ (7 * i) : Nat) : Int) = ((2 ^ (7 * i) * (x % 128).toNat : Nat) : Int) := by
      rw [Int.natCast_mul, Int.mul_comm, show (((x % 128).toNat : Nat) : Int) = x % 128 from by omega]
    rw [this, Int.toNat_natCast]
  have hlt : n.toNat < 2 ^ (7 * i) := by
    rw [pow128] at h1
    omega
  rw [e1, Nat.or_comm, ← Nat.two_pow_add_eq_or_of_lt hlt, ← e1]
  omega
theorem TakeUint_ev_l {b : List Int} (hb : Bytes b) (hlen : b.length ≤ 9223372036854775000) (t : Nat) : ∀ (m i : Nat) (n : Int), i + m = 10 → t + i ≤ b.length → i ≤ 9 → 0 ≤ n → n < 128 ^ i →
    Ev (fun k => octet_TakeUint.l0 k b (t : Int) n i) (tk (b.drop (t + i)) n i ((t : Int) + i)) ∧ Ev (fun k => grapevineref02_TakeUint.l0 k b (t : Int) n (128 ^ i) (i : Int)) (tk (b.drop (t + i)) n i ((t : Int) + i)) := by
  intro m
  induction m with
  | zero => intro i n hi; omega
  | succ m ih =>
    intro i n hi ht hi9 h0 h1
    rcases Nat.lt_or_ge (t + i) b.length with hlt | hge
    case inr =>
      rw [List.drop_of_length_le hge]
      simp only [tk]
      constructor
      · refine Ev.done (fun k => ?_)
        simp only [octet_TakeUint.l0]
        rw [if_pos (by omega)]
      · refine Ev.done (fun k => ?_)
        simp only [grapevineref02_TakeUint.l0]
        rw [if_pos (by omega), wrap_ok (by omega) (by omega), if_pos (by omega)]
    have hr := rd_drop b (t + i) hlt
    have hx := rd_bytes hb (t + i) hlt
    rw [show (((t + i : Nat)) : Int) = (t : Int) + i from by omega] at hr hx
    rw [hr]
    generalize hxx : rd b ((t : Int) + i) = x at hx
    have hw : wrap64 ((t : Int) + i) = (t : Int) + i := wrap_ok (by omega) (by omega)
    simp only [tk]
    by_cases c9 : i = 9 ∧ x > 1
    · rw [if_pos c9]
      constructor
      · refine Ev.done (fun k => ?_)
        simp only [octet_TakeUint.l0]
        rw [if_neg (by omega), hxx, if_pos c9]
      · apply Ev.succ
        simp only [grapevineref02_TakeUint.l0]
        refine Ev.done (fun k => ?_)
        rw [hw, if_pos (by omega), if_neg (by omega), if_pos (by omega), if_pos (by omega), if_pos (by omega), hxx, decide_eq_true c9.2]
        simp only [grapevineref02_TakeUint.j2]
        rw [if_pos trivial]
    rw [if_neg c9]
    have h9 : i = 9 → x ≤ 1 := fun h => by
      by_cases hh : x > 1
      · exact absurd ⟨h, hh⟩ c9
      · omega
    obtain ⟨f1, f2, f3⟩ := fits h0 h1 hi9 hx h9
    have hacc := acc_eq h0 h1 hi9 hx h9
    have hp := pow_pos i
    have hpi : (128 : Int) ^ i ≤ 9223372036854775808 := pow_le_10 i (by omega)
    have em : Int.tmod x 128 = x % 128 := Int.tmod_eq_emod_of_nonneg hx.1
    have hsum : IntKind.u64.wrap (n + (IntKind.u64.wrap ((IntKind.u64.wrap (Int.tmod x 128)) * 128 ^ i))) = n + x % 128 * 128 ^ i := by
      rw [em, wrapu_ok (x := x % 128) (by omega) (by omega), wrapu_ok f2 (by omega), wrapu_ok (by omega) f1]
    have href : ∀ k, grapevineref02_TakeUint.l0 (k + 1) b (t : Int) n (128 ^ i) (i : Int) = grapevineref02_TakeUint.j2 k b (t : Int) n (128 ^ i) (i : Int) x false := by
      intro k
      simp only [grapevineref02_TakeUint.l0]
      rw [hw, if_pos (by omega), if_neg (by omega), if_pos (by omega), if_pos (by omega), hxx]
      by_cases h : i = 9
      · rw [if_pos (by omega), decide_eq_false (by have := h9 h; omega)]
      · rw [if_neg (by omega)]
    by_cases c : x ≥ 128
    · have hi8 : i ≤ 8 := by
        rcases Nat.lt_or_ge i 9 with h | h
        · omega
        · have := h9 (by omega); omega
      rw [if_pos c]
      obtain ⟨i1, i2⟩ := ih (i + 1) (n + x % 128 * 128 ^ i) (by omega) (by omega) (by omega) (by omega) (f3 hi8)
      rw [show t + (i + 1) = t + i + 1 from by omega, show (t : Int) + ((i + 1 : Nat) : Int) = (t : Int) + i + 1 from by omega] at i1 i2
      constructor
      · refine Ev.step (fun k => ?_) i1
        simp only [octet_TakeUint.l0]
        rw [if_neg (by omega), hxx, if_neg c9, if_pos c, hacc]
      · refine Ev.step href (Ev.step (fun k => ?_) i2)
        simp only [grapevineref02_TakeUint.j2]
        have hp8 := pow_le hi8
        rw [if_neg (by simp), if_neg (by omega), hsum, wrapu_ok (x := 128 ^ i * 128) (by omega) (by omega), ← Int.pow_succ, wrap_ok (x := (i : Int) + 1) (by omega) (by omega), show (i : Int) + 1 = ((i + 1 : Nat) : Int) from by omega]
    · rw [if_neg c]
      by_cases cz : x = 0 ∧ i > 0
      · rw [if_pos cz]
        constructor
        · refine Ev.done (fun k => ?_)
          simp only [octet_TakeUint.l0]
          rw [if_neg (by omega), hxx, if_neg c9, if_neg c, if_pos cz]
        · refine Ev.step href (Ev.done (fun k => ?_))
          simp only [grapevineref02_TakeUint.j2]
          rw [if_neg (by simp), if_pos (by omega), if_pos cz.1, if_pos (by omega)]
      · rw [if_neg cz]
        constructor
        · refine Ev.done (fun k => ?_)
          simp only [octet_TakeUint.l0]
          rw [if_neg (by omega), hxx, if_neg c9, if_neg c, if_neg cz, hacc]
        · refine Ev.step href (Ev.done (fun k => ?_))
          simp only [grapevineref02_TakeUint.j2]
          rw [if_neg (by simp), if_pos (by omega), hsum, hw, wrap_ok (x := (t : Int) + i + 1) (by omega) (by omega)]
          by_cases h : x = 0
          · rw [if_pos h, if_neg (fun hh => cz ⟨h, by omega⟩)]
          · rw [if_neg h]
def takeU (b : List Int) (t : Int) : Int × Int × Int := if t < 0 ∨ t > b.length then (0, 0, 2) else tk (b.drop t.toNat) 0 0 t
theorem TakeUint_ev {b : List Int} (hb : Bytes b) (hlen : b.length ≤ 9223372036854775000) (t : Int) : Ev (fun k => octet_TakeUint.f k b t) (takeU b t) ∧ Ev (fun k => grapevineref02_TakeUint.f k b t) (takeU b t) := by
  unfold takeU
  by_cases c : t < 0
  · rw [if_pos (.inl c)]
    constructor
    · exact Ev.congr (fun k => by unfold octet_TakeUint.f; rw [if_pos c]) (Ev.now _)
    · refine Ev.congr (f := fun k => grapevineref02_TakeUint.j0 k b t true) (fun k => by unfold grapevineref02_TakeUint.f; rw [if_pos c]) (Ev.done (fun k => by simp only [grapevineref02_TakeUint.j0]; rw [if_pos trivial]))
  · by_cases c2 : t > b.length
    · rw [if_pos (.inr c2)]
      constructor
      · exact Ev.congr (fun k => by unfold octet_TakeUint.f; rw [if_neg c, if_pos c2]) (Ev.now _)
      · refine Ev.congr (f := fun k => grapevineref02_TakeUint.j0 k b t true) (fun k => by unfold grapevineref02_TakeUint.f; rw [if_neg c, decide_eq_true c2]) (Ev.done (fun k => by simp only [grapevineref02_TakeUint.j0]; rw [if_pos trivial]))
    · rw [if_neg (by omega)]
      obtain ⟨h1, h2⟩ := TakeUint_ev_l hb hlen t.toNat 10 0 0 (by omega) (by omega) (by omega) (by omega) (by decide)
      rw [Nat.add_zero, show ((t.toNat : Nat) : Int) = t from by omega, show t + ((0 : Nat) : Int) = t from by omega] at h1 h2
      constructor
      · exact Ev.congr (fun k => by unfold octet_TakeUint.f; rw [if_neg c, if_neg c2]) h1
      · refine Ev.congr (f := fun k => grapevineref02_TakeUint.j0 k b t false) (fun k => by unfold grapevineref02_TakeUint.f; rw [if_neg c, decide_eq_false c2]) (Ev.step (fun k => ?_) h2)
        simp only [grapevineref02_TakeUint.j0]
        rw [if_neg (by simp)]
        rfl
end Oct
end Go.Proofs.YtoandmnefgimoaaDoor.PL

end
