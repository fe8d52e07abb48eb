import Derived.Test.YtpeacoppclmmlaaPOPPx0
import Derived.Test.YtpeacoppclmmlaaPOPPx2
import Derived.Test.YtpeacoppclmmlaaPOPPx9
import Derived.Test.YtpeacoppclmmlaaPOPPx17
import Derived.Test.YtpeacoppclmmlaaPOPPx22
import Derived.Test.YtpeacoppclmmlaaPOPPx7
import Derived.Test.YtpeacoppclmmlaaPOPPx3
import Derived.Test.YtpeacoppclmmlaaPOPPx4
import Derived.Test.YtpeacoppclmmlaaPOPPx8
import Derived.Test.YtpeacoppclmmlaaPOPPx10
import Derived.Test.YtpeacoppclmmlaaPOPPx6
import Derived.Test.YtpeacoppclmmlaaPOPPx11
import Derived.Test.YtpeacoppclmmlaaPOPPOpens
import Derived.Test.YtpeacoppclmmlaaPOPPx18
import Derived.Test.YtpeacoppclmmlaaPOPPx19
import Derived.Test.YtpeacoppclmmlaaPOPPx20
import Derived.Test.YtpeacoppclmmlaaPOPPx21
import Derived.Test.YtpeacoppclmmlaaPOPPx23
import Derived.Test.YtpeacoppclmmlaaPOPPx24
section
namespace Go.Proofs.Ytpeacoppclmmlaa.PP
open Go.RowKit Go.Proofs.YtpeacoppclmmlaaW.PrintWords

abbrev Sp := S43
def okS (pe pi : Int) (s : Sp) : Prop := (1 ≤ s.f2 ∧ s.f2 ≤ 3 ∧ 1 ≤ s.f0 ∧ s.f0 ≤ s.f1 ∧ s.f1 ≤ 1099511627776) ∧ pe < s.f0 ∧ ¬ (s.f0 = pe + 1 ∧ s.f2 = pi)
instance (pe pi : Int) (s : Sp) : Decidable (okS pe pi s) := by unfold okS; infer_instance
theorem okS_iff {pe pi : Int} {s : Sp} : okS pe pi s ↔ ((1 ≤ s.f2 ∧ s.f2 ≤ 3 ∧ 1 ≤ s.f0 ∧ s.f0 ≤ s.f1 ∧ s.f1 ≤ 1099511627776) ∧ pe < s.f0 ∧ ¬ (s.f0 = pe + 1 ∧ s.f2 = pi)) := Iff.rfl
def rightB : Int → Int → List Sp → Bool
  | _, _, [] => true
  | pe, pi, s :: l => decide (okS pe pi s) && rightB s.f1 s.f2 l
def atS : List Sp → Int → Int
  | [], _ => 0
  | s :: l, t => if s.f0 ≤ t ∧ t ≤ s.f1 then s.f2 else atS l t
theorem rightB_cons {pe pi : Int} {s : Sp} {l : List Sp} : rightB pe pi (s :: l) = true ↔ okS pe pi s ∧ rightB s.f1 s.f2 l = true := by
  simp [rightB, Bool.and_eq_true]
theorem atS_cons (s : Sp) (l : List Sp) (t : Int) : atS (s :: l) t = if s.f0 ≤ t ∧ t ≤ s.f1 then s.f2 else atS l t := rfl

/-! ### a map's end -/
def lastE (pe : Int) : List Sp → Int
  | [] => pe
  | s :: l => lastE s.f1 l
def lastI (pi : Int) : List Sp → Int
  | [] => pi
  | s :: l => lastI s.f2 l
theorem lastE_snoc (l : List Sp) (s : Sp) : ∀ pe, lastE pe (l ++ [s]) = s.f1 := by
  induction l with
  | nil => intro; rfl
  | cons x l ih => intro pe; exact ih _
theorem lastI_snoc (l : List Sp) (s : Sp) : ∀ pi, lastI pi (l ++ [s]) = s.f2 := by
  induction l with
  | nil => intro; rfl
  | cons x l ih => intro pe; exact ih _
theorem right_snoc (l : List Sp) (s : Sp) : ∀ pe pi, rightB pe pi (l ++ [s]) = true ↔ rightB pe pi l = true ∧ okS (lastE pe l) (lastI pi l) s := by
  induction l with
  | nil => intro pe pi; simp [rightB, lastE, lastI]
  | cons x l ih =>
    intro pe pi
    rw [List.cons_append, rightB_cons, rightB_cons, ih]
    simp only [lastE, lastI, and_assoc]
theorem lastE_ge {l : List Sp} : ∀ {pe pi : Int}, rightB pe pi l = true → pe ≤ lastE pe l ∧ (lastE pe l ≤ 1099511627776 ∨ l = []) := by
  induction l with
  | nil => intros; exact ⟨Int.le_refl _, .inr rfl⟩
  | cons s l ih =>
    intro pe pi h
    obtain ⟨⟨h1, h2, h3⟩, hr⟩ := rightB_cons.1 h
    have := ih hr
    simp only [lastE]
    refine ⟨by omega, .inl ?_⟩
    rcases this.2 with h | h
    · exact h
    · subst h; simp only [lastE]; omega
/-! ### reading by places -/
theorem rd_at (l : List Sp) (i : Nat) (h : i < l.length) : rd_T43 l (i : Int) = l[i] := by
  unfold rd_T43
  rw [Int.toNat_natCast, List.getD_eq_getElem?_getD, List.getElem?_eq_getElem h]
  rfl
theorem drop_rd (l : List Sp) (i : Nat) (h : i < l.length) : l.drop i = rd_T43 l (i : Int) :: l.drop (i + 1) := by
  rw [rd_at l i h]
  exact List.drop_eq_getElem_cons h
theorem rd_last (l : List Sp) (s : Sp) : rd_T43 (l ++ [s]) (l.length : Int) = s := by
  rw [rd_at _ _ (by simp)]
  simp
theorem wrap_ok {x : Int} (h : -9223372036854775808 ≤ x) (h' : x ≤ 9223372036854775807) : wrap64 x = x := by
  unfold wrap64; omega
end Go.Proofs.Ytpeacoppclmmlaa.PP

end

section
set_option linter.unusedSimpArgs false
set_option linter.unusedVariables false
namespace Go.Proofs.Ytpeacoppclmmlaa.PP
open Go.RowKit Go.Proofs.YtpeacoppclmmlaaW.PrintWords Go.Proofs.YtpeacoppclmmlaaW.PrintMore

namespace Oct
theorem Ev.succ {α : Type} {g : Nat → Option α} {r : α} (h : Ev (fun k => g (k + 1)) r) : Ev g r := Ev.step (f := fun k => g (k + 1)) (fun _ => rfl) h
theorem Ev.done {α : Type} {g : Nat → Option α} {r : α} (h : ∀ k, g (k + 1) = some r) : Ev g r := Ev.step (f := fun _ => some r) h (Ev.now r)
theorem wrap_ok {x : Int} (h : -9223372036854775808 ≤ x) (h' : x ≤ 9223372036854775807) : wrap64 x = x := by
  unfold wrap64; omega
theorem wrapu_ok {x : Int} (h : 0 ≤ x) (h' : x < 18446744073709551616) : IntKind.u64.wrap x = x := by
  simp only [IntKind.wrap, IntKind.bits, IntKind.signed]
  simp
  omega

/-! ### bits -/
theorem or128 : ∀ y : Nat, y < 256 → Go.bits .or .u8 (y : Int) 128 = ((y % 128 + 128 : Nat) : Int) := by decide +kernel
theorem and127 : ∀ y : Nat, y < 256 → Go.bits .and .u8 (y : Int) 127 = ((y % 128 : Nat) : Int) := by decide +kernel
theorem or_u64 (a b : Nat) (ha : a < 18446744073709551616) (hb : b < 18446744073709551616) : Go.bits .or .u64 (a : Int) (b : Int) = ((a ||| b : Nat) : Int) := by
  have hab : a ||| b < 2 ^ 64 := Nat.or_lt_two_pow ha hb
  have e : (BitVec.ofInt 64 (a : Int) ||| BitVec.ofInt 64 (b : Int)).toNat = a ||| b := by
    rw [BitVec.toNat_or, BitVec.ofInt_natCast, BitVec.ofInt_natCast, BitVec.toNat_ofNat, BitVec.toNat_ofNat, Nat.mod_eq_of_lt ha, Nat.mod_eq_of_lt hb]
  show IntKind.u64.wrap (((BitVec.ofInt 64 (a : Int) ||| BitVec.ofInt 64 (b : Int)).toNat : Nat) : Int) = _
  rw [e, wrapu_ok (by omega) (by omega)]

/-! ### writing -/
/-- The bytes of a number: seven bits a byte, the lesser ones first, 128 more but for the last. -/
def uintN : Nat → Int → List Int
  | 0, x => [x % 256]
  | n + 1, x => if x ≥ 128 then (x % 128 + 128) :: uintN n (x / 128) else [x % 256]
def uint (x : Int) : List Int := uintN 9 x
theorem uintN_length (n : Nat) : ∀ x, (uintN n x).length ≤ n + 1 ∧ 0 < (uintN n x).length := by
  induction n with
  | zero => intro x; simp [uintN]
  | succ n ih =>
    intro x
    simp only [uintN]
    split
    · have := ih (x / 128); simp only [List.length_cons]; omega
    · simp
theorem Uint_ev_l : ∀ (n : Nat) (x : Int) (out : List Int), 0 ≤ x → x < 128 ^ (n + 1) → x < 18446744073709551616 → out.length + n + 1 < 140737488355328 →
    Ev (fun k => octet_Uint.l0 k x out) (out ++ uintN n x) ∧ Ev (fun k => grapevineref02_Uint.l0 k x out) (out ++ uintN n x) := by
  intro n
  induction n with
  | zero =>
    intro x out h0 h1 h2 ho
    simp only [uintN]
    constructor
    · refine Ev.done (fun k => ?_)
      simp only [octet_Uint.l0]
      rw [if_neg (by omega), if_pos (by omega)]
    · refine Ev.done (fun k => ?_)
      simp only [grapevineref02_Uint.l0]
      rw [if_neg (by omega), if_pos (by omega)]
  | succ n ih =>
    intro x out h0 h1 h2 ho
    by_cases c : x ≥ 128
    · have h3 : x / 128 < 128 ^ (n + 1) := by
        have : x < 128 ^ (n + 1) * 128 := by rw [← Int.pow_succ]; exact h1
        omega
      obtain ⟨i1, i2⟩ := ih (x / 128) (out ++ [x % 128 + 128]) (by omega) h3 (by omega) (by simp only [List.length_append, List.length_singleton]; omega)
      simp only [uintN, if_pos c]
      rw [show out ++ (x % 128 + 128) :: uintN n (x / 128) = (out ++ [x % 128 + 128]) ++ uintN n (x / 128) from by simp]
      constructor
      · refine Ev.step (fun k => ?_) i1
        simp only [octet_Uint.l0]
        rw [if_pos c, if_pos (by omega)]
        have e : Go.bits .or .u8 (x % 256) 128 = x % 128 + 128 := by
          have h := or128 (x % 256).toNat (by omega)
          rw [show (((x % 256).toNat : Nat) : Int) = x % 256 from by omega] at h
          rw [h]
          omega
        rw [e]
      · refine Ev.step (fun k => ?_) i2
        simp only [grapevineref02_Uint.l0]
        rw [if_pos (by omega), if_pos (by omega)]
        have e1 : Int.tmod x 128 = x % 128 := Int.tmod_eq_emod_of_nonneg h0
        have e2 : Int.tdiv x 128 = x / 128 := Int.tdiv_eq_ediv_of_nonneg h0
        rw [e1, e2, wrapu_ok (x := 128 + x % 128) (by omega) (by omega), wrapu_ok (x := x / 128) (by omega) (by omega), show (128 + x % 128) % 256 = x % 128 + 128 from by omega]
    · simp only [uintN, if_neg c]
      constructor
      · refine Ev.done (fun k => ?_)
        simp only [octet_Uint.l0]
        rw [if_neg (by omega), if_pos (by omega)]
      · refine Ev.done (fun k => ?_)
        simp only [grapevineref02_Uint.l0]
        rw [if_neg (by omega), if_pos (by omega)]
theorem Uint_ev (x : Int) (h0 : 0 ≤ x) (h1 : x < 18446744073709551616) : Ev (fun k => octet_Uint.f k x) (uint x) ∧ Ev (fun k => grapevineref02_Uint.f k x) (uint x) := by
  have h := Uint_ev_l 9 x [] h0 (by have : (128 : Int) ^ (9 + 1) = 1180591620717411303424 := by decide
                                    omega) h1 (by simp)
  rw [List.nil_append] at h
  exact h

end Oct
end Go.Proofs.Ytpeacoppclmmlaa.PP

end

section
set_option linter.unusedSimpArgs false
set_option linter.unusedVariables false
namespace Go.Proofs.Ytpeacoppclmmlaa.PP
open Go.RowKit Go.Proofs.YtpeacoppclmmlaaW.PrintWords Go.Proofs.YtpeacoppclmmlaaW.PrintMore

namespace Oct
/-! ### reading -/
/-- What is read from the bytes that are left: n so far, i bytes of it, at the place p. -/
def tk : List Int → Int → Nat → Int → Int × Int × Int
  | [], _, _, _ => (0, 0, 3)
  | x :: r, n, i, p => if i = 9 ∧ x > 1 then (0, 0, 6) else if x ≥ 128 then tk r (n + x % 128 * 128 ^ i) (i + 1) (p + 1) else if x = 0 ∧ i > 0 then (0, 0, 4) else (n + x % 128 * 128 ^ i, p + 1, 0)
def Bytes (b : List Int) : Prop := ∀ x ∈ b, 0 ≤ x ∧ x < 256
theorem bytes_of {b : List Int} (h : ∀ x ∈ b, (Lit.int .u8 x).wf = true) : Bytes b := fun x hx => by
  have := h x hx
  simp only [Lit.wf, IntKind.min, IntKind.max, IntKind.signed, IntKind.bits, Bool.and_eq_true, decide_eq_true_eq] at this
  simp at this
  omega
theorem bytes_drop {b : List Int} (h : Bytes b) (n : Nat) : Bytes (b.drop n) := fun x hx => h x (List.mem_of_mem_drop hx)
theorem rd_drop (l : List Int) (i : Nat) (h : i < l.length) : l.drop i = rd l (i : Int) :: l.drop (i + 1) := by
  have e : rd l (i : Int) = l[i] := by
    unfold rd
    rw [Int.toNat_natCast, List.getD_eq_getElem?_getD, List.getElem?_eq_getElem h]
    rfl
  rw [e]
  exact List.drop_eq_getElem_cons h
theorem rd_bytes {b : List Int} (h : Bytes b) (i : Nat) (hi : i < b.length) : 0 ≤ rd b (i : Int) ∧ rd b (i : Int) < 256 := by
  have := bytes_drop h i (rd b (i : Int)) (by rw [rd_drop b i hi]; simp)
  exact this
theorem pow128 (i : Nat) : (128 : Int) ^ i = ((2 ^ (7 * i) : Nat) : Int) := by
  rw [Nat.pow_mul]; norm_cast
theorem pow_le_9 : ∀ i : Nat, i < 9 → (128 : Int) ^ i ≤ 72057594037927936 := by decide
theorem pow_le_10 : ∀ i : Nat, i < 10 → (128 : Int) ^ i ≤ 9223372036854775808 := by decide
theorem pow_le {i : Nat} (h : i ≤ 8) : (128 : Int) ^ i ≤ 72057594037927936 := pow_le_9 i (by omega)
theorem pow_pos (i : Nat) : (0 : Int) < 128 ^ i := Int.pow_pos (by decide)
theorem fits {n x : Int} {i : Nat} (h0 : 0 ≤ n) (h1 : n < 128 ^ i) (hi : i ≤ 9) (hx : 0 ≤ x ∧ x < 256) (h9 : i = 9 → x ≤ 1) : n + x % 128 * 128 ^ i < 18446744073709551616 ∧ 0 ≤ x % 128 * 128 ^ i ∧ (i ≤ 8 → n + x % 128 * 128 ^ i < 128 ^ (i + 1)) := by
  have hp := pow_pos i
  have hm : 0 ≤ x % 128 ∧ x % 128 ≤ 127 := by omega
  have h2 : 0 ≤ x % 128 * 128 ^ i := Int.mul_nonneg hm.1 (by omega)
  rcases Nat.lt_or_ge i 9 with c | c
  · have h3 : x % 128 * 128 ^ i ≤ 127 * 128 ^ i := Int.mul_le_mul_of_nonneg_right hm.2 (by omega)
    have h4 := pow_le (show i ≤ 8 by omega)
    refine ⟨by omega, h2, fun _ => ?_⟩
    rw [Int.pow_succ]
    omega
  · have e : i = 9 := by omega
    subst e
    have h9 := h9 rfl
    have h3 : x % 128 * 128 ^ 9 ≤ 1 * 128 ^ 9 := Int.mul_le_mul_of_nonneg_right (by omega) (by omega)
    have e : (128 : Int) ^ 9 = 9223372036854775808 := by decide
    rw [e] at h1 h2 h3 ⊢
    exact ⟨by omega, h2, fun h => by omega⟩
theorem acc_eq {n x : Int} {i : Nat} (h0 : 0 ≤ n) (h1 : n < 128 ^ i) (hi : i ≤ 9) (hx : 0 ≤ x ∧ x < 256) (h9 : i = 9 → x ≤ 1) : octet_TakeUint.acc n x i = n + x % 128 * 128 ^ i := by
  obtain ⟨f1, f2, f3⟩ := fits h0 h1 hi hx h9
  have ea : Go.bits .and .u8 x 127 = x % 128 := by
    have h := and127 x.toNat (by omega)
    rw [show ((x.toNat : Nat) : Int) = x from by omega] at h
    rw [h]
    omega
  unfold octet_TakeUint.acc
  rw [ea, wrapu_ok (x := x % 128) (by omega) (by omega)]
  rw [show ((2 : Int) ^ (7 * i)) = 128 ^ i from by rw [Int.pow_mul, show (2 : Int) ^ 7 = 128 from by decide]]
  rw [wrapu_ok f2 (by omega)]
  have hn : n < 18446744073709551616 := by
    have := fits h0 h1 hi (x := 0) ⟨by omega, by omega⟩ (fun _ => by omega)
    omega
  have hor := or_u64 n.toNat (x % 128 * 128 ^ i).toNat (by omega) (by omega)
  rw [show ((n.toNat : Nat) : Int) = n from by omega, show (((x % 128 * 128 ^ i).toNat : Nat) : Int) = x % 128 * 128 ^ i from by omega] at hor
  rw [hor]
  have e1 : (x % 128 * 128 ^ i).toNat = 2 ^ (7 * i) * (x % 128).toNat := by
    rw [pow128]
    have : x % 128 * ((2 ^ (7 * i) : Nat) : Int) = ((2 ^ (7 * i) * (x % 128).toNat : Nat) : Int) := by
      rw [Int.natCast_mul, Int.mul_comm, show (((x % 128).toNat : Nat) : Int) = x % 128 from by omega]
    rw [this, Int.toNat_natCast]
  have hlt : n.toNat < 2 ^ (7 * i) := by
    rw [pow128] at h1
    omega
  rw [e1, Nat.or_comm, ← Nat.two_pow_add_eq_or_of_lt hlt, ← e1]
  omega
theorem TakeUint_ev_l {b : List Int} (hb : Bytes b) (hlen : b.length ≤ 9223372036854775000) (t : Nat) : ∀ (m i : Nat) (n : Int), i + m = 10 → t + i ≤ b.length → i ≤ 9 → 0 ≤ n → n < 128 ^ i →
    Ev (fun k => octet_TakeUint.l0 k b (t : Int) n i) (tk (b.drop (t + i)) n i ((t : Int) + i)) ∧ Ev (fun k => grapevineref02_TakeUint.l0 k b (t : Int) n (128 ^ i) (i : Int)) (tk (b.drop (t + i)) n i ((t : Int) + i)) := by
  intro m
  induction m with
  | zero => intro i n hi; omega
  | succ m ih =>
    intro i n hi ht hi9 h0 h1
    rcases Nat.lt_or_ge (t + i) b.length with hlt | hge
    case inr =>
      rw [List.drop_of_length_le hge]
      simp only [tk]
      constructor
      · refine Ev.done (fun k => ?_)
        simp only [octet_TakeUint.l0]
        rw [if_pos (by omega)]
      · refine Ev.done (fun k => ?_)
        simp only [grapevineref02_TakeUint.l0]
        rw [if_pos (by omega), wrap_ok (by omega) (by omega), if_pos (by omega)]
    have hr := rd_drop b (t + i) hlt
    have hx := rd_bytes hb (t + i) hlt
    rw [show (((t + i : Nat)) : Int) = (t : Int) + i from by omega] at hr hx
    rw [hr]
    generalize hxx : rd b ((t : Int) + i) = x at hx
    have hw : wrap64 ((t : Int) + i) = (t : Int) + i := wrap_ok (by omega) (by omega)
    simp only [tk]
    by_cases c9 : i = 9 ∧ x > 1
    · rw [if_pos c9]
      constructor
      · refine Ev.done (fun k => ?_)
        simp only [octet_TakeUint.l0]
        rw [if_neg (by omega), hxx, if_pos c9]
      · apply Ev.succ
        simp only [grapevineref02_TakeUint.l0]
        refine Ev.done (fun k => ?_)
        rw [hw, if_pos (by omega), if_neg (by omega), if_pos (by omega), if_pos (by omega), if_pos (by omega), hxx, decide_eq_true c9.2]
        simp only [grapevineref02_TakeUint.j2]
        rw [if_pos trivial]
    rw [if_neg c9]
    have h9 : i = 9 → x ≤ 1 := fun h => by
      by_cases hh : x > 1
      · exact absurd ⟨h, hh⟩ c9
      · omega
    obtain ⟨f1, f2, f3⟩ := fits h0 h1 hi9 hx h9
    have hacc := acc_eq h0 h1 hi9 hx h9
    have hp := pow_pos i
    have hpi : (128 : Int) ^ i ≤ 9223372036854775808 := pow_le_10 i (by omega)
    have em : Int.tmod x 128 = x % 128 := Int.tmod_eq_emod_of_nonneg hx.1
    have hsum : IntKind.u64.wrap (n + (IntKind.u64.wrap ((IntKind.u64.wrap (Int.tmod x 128)) * 128 ^ i))) = n + x % 128 * 128 ^ i := by
      rw [em, wrapu_ok (x := x % 128) (by omega) (by omega), wrapu_ok f2 (by omega), wrapu_ok (by omega) f1]
    have href : ∀ k, grapevineref02_TakeUint.l0 (k + 1) b (t : Int) n (128 ^ i) (i : Int) = grapevineref02_TakeUint.j2 k b (t : Int) n (128 ^ i) (i : Int) x false := by
      intro k
      simp only [grapevineref02_TakeUint.l0]
      rw [hw, if_pos (by omega), if_neg (by omega), if_pos (by omega), if_pos (by omega), hxx]
      by_cases h : i = 9
      · rw [if_pos (by omega), decide_eq_false (by have := h9 h; omega)]
      · rw [if_neg (by omega)]
    by_cases c : x ≥ 128
    · have hi8 : i ≤ 8 := by
        rcases Nat.lt_or_ge i 9 with h | h
        · omega
        · have := h9 (by omega); omega
      rw [if_pos c]
      obtain ⟨i1, i2⟩ := ih (i + 1) (n + x % 128 * 128 ^ i) (by omega) (by omega) (by omega) (by omega) (f3 hi8)
      rw [show t + (i + 1) = t + i + 1 from by omega, show (t : Int) + ((i + 1 : Nat) : Int) = (t : Int) + i + 1 from by omega] at i1 i2
      constructor
      · refine Ev.step (fun k => ?_) i1
        simp only [octet_TakeUint.l0]
        rw [if_neg (by omega), hxx, if_neg c9, if_pos c, hacc]
      · refine Ev.step href (Ev.step (fun k => ?_) i2)
        simp only [grapevineref02_TakeUint.j2]
        have hp8 := pow_le hi8
        rw [if_neg (by simp), if_neg (by omega), hsum, wrapu_ok (x := 128 ^ i * 128) (by omega) (by omega), ← Int.pow_succ, wrap_ok (x := (i : Int) + 1) (by omega) (by omega), show (i : Int) + 1 = ((i + 1 : Nat) : Int) from by omega]
    · rw [if_neg c]
      by_cases cz : x = 0 ∧ i > 0
      · rw [if_pos cz]
        constructor
        · refine Ev.done (fun k => ?_)
          simp only [octet_TakeUint.l0]
          rw [if_neg (by omega), hxx, if_neg c9, if_neg c, if_pos cz]
        · refine Ev.step href (Ev.done (fun k => ?_))
          simp only [grapevineref02_TakeUint.j2]
          rw [if_neg (by simp), if_pos (by omega), if_pos cz.1, if_pos (by omega)]
      · rw [if_neg cz]
        constructor
        · refine Ev.done (fun k => ?_)
          simp only [octet_TakeUint.l0]
          rw [if_neg (by omega), hxx, if_neg c9, if_neg c, if_neg cz, hacc]
        · refine Ev.step href (Ev.done (fun k => ?_))
          simp only [grapevineref02_TakeUint.j2]
          rw [if_neg (by simp), if_pos (by omega), hsum, hw, wrap_ok (x := (t : Int) + i + 1) (by omega) (by omega)]
          by_cases h : x = 0
          · rw [if_pos h, if_neg (fun hh => cz ⟨h, by omega⟩)]
          · rw [if_neg h]
/-- What TakeUint comes to. -/
def takeU (b : List Int) (t : Int) : Int × Int × Int := if t < 0 ∨ t > b.length then (0, 0, 2) else tk (b.drop t.toNat) 0 0 t
theorem TakeUint_ev {b : List Int} (hb : Bytes b) (hlen : b.length ≤ 9223372036854775000) (t : Int) : Ev (fun k => octet_TakeUint.f k b t) (takeU b t) ∧ Ev (fun k => grapevineref02_TakeUint.f k b t) (takeU b t) := by
  unfold takeU
  by_cases c : t < 0
  · rw [if_pos (.inl c)]
    constructor
    · exact Ev.congr (fun k => by unfold octet_TakeUint.f; rw [if_pos c]) (Ev.now _)
    · refine Ev.congr (f := fun k => grapevineref02_TakeUint.j0 k b t true) (fun k => by unfold grapevineref02_TakeUint.f; rw [if_pos c]) (Ev.done (fun k => by simp only [grapevineref02_TakeUint.j0]; rw [if_pos trivial]))
  · by_cases c2 : t > b.length
    · rw [if_pos (.inr c2)]
      constructor
      · exact Ev.congr (fun k => by unfold octet_TakeUint.f; rw [if_neg c, if_pos c2]) (Ev.now _)
      · refine Ev.congr (f := fun k => grapevineref02_TakeUint.j0 k b t true) (fun k => by unfold grapevineref02_TakeUint.f; rw [if_neg c, decide_eq_true c2]) (Ev.done (fun k => by simp only [grapevineref02_TakeUint.j0]; rw [if_pos trivial]))
    · rw [if_neg (by omega)]
      obtain ⟨h1, h2⟩ := TakeUint_ev_l hb hlen t.toNat 10 0 0 (by omega) (by omega) (by omega) (by omega) (by decide)
      rw [Nat.add_zero, show ((t.toNat : Nat) : Int) = t from by omega, show t + ((0 : Nat) : Int) = t from by omega] at h1 h2
      constructor
      · exact Ev.congr (fun k => by unfold octet_TakeUint.f; rw [if_neg c, if_neg c2]) h1
      · refine Ev.congr (f := fun k => grapevineref02_TakeUint.j0 k b t false) (fun k => by unfold grapevineref02_TakeUint.f; rw [if_neg c, decide_eq_false c2]) (Ev.step (fun k => ?_) h2)
        simp only [grapevineref02_TakeUint.j0]
        rw [if_neg (by simp)]
        rfl
end Oct
end Go.Proofs.Ytpeacoppclmmlaa.PP

end

section
set_option linter.unusedSimpArgs false
set_option linter.unusedVariables false
namespace Go.Proofs.Ytpeacoppclmmlaa.PP
open Go.RowKit Go.Proofs.YtpeacoppclmmlaaW.PrintWords Go.Proofs.YtpeacoppclmmlaaW.PrintMore

theorem Ev.done {α : Type} {g : Nat → Option α} {r : α} (h : ∀ k, g (k + 1) = some r) : Ev g r := Ev.step (f := fun _ => some r) h (Ev.now r)
theorem cast_succ_wrap {i n : Nat} (h : i < n) (hn : n ≤ 9223372036854775807) : wrap64 ((i : Int) + 1) = ((i + 1 : Nat) : Int) := by
  rw [wrap_ok (by omega) (by omega)]; omega

/-! ### Right -/
theorem Right_ev_l (l : List Sp) (hl : l.length ≤ 9223372036854775807) : ∀ (m i : Nat) (a b c : Int), i + m = l.length → 0 ≤ b → b ≤ 1099511627776 →
    Ev (fun k => span_Right.l0 k l (l.length : Int) (i : Int) a b c) (rightB b c (l.drop i)) := by
  intro m
  induction m with
  | zero =>
    intro i a b c hi hb hb'
    rw [List.drop_of_length_le (by omega)]
    refine Ev.done (fun k => ?_)
    simp only [span_Right.l0]
    rw [if_neg (by omega)]
    rfl
  | succ m ih =>
    intro i a b c hi hb hb'
    have hlt : i < l.length := by omega
    rw [drop_rd l i hlt]
    generalize hs : rd_T43 l (i : Int) = s
    have hstep : ∀ k, span_Right.l0 (k + 1) l (l.length : Int) (i : Int) a b c = if okS b c s then span_Right.l0 k l (l.length : Int) ((i + 1 : Nat) : Int) s.f0 s.f1 s.f2 else some false := by
      intro k
      simp only [span_Right.l0]
      rw [if_pos (by omega), if_pos (by omega), if_pos (by omega), hs, cast_succ_wrap hlt hl, wrap_ok (x := b + 1) (by omega) (by omega)]
      by_cases h1 : s.f2 < 1
      · rw [if_pos h1, if_neg (fun hh => by have hh := okS_iff.1 hh; omega)]
      rw [if_neg h1]
      by_cases h2 : s.f2 > 3
      · rw [if_pos h2, if_neg (fun hh => by have hh := okS_iff.1 hh; omega)]
      rw [if_neg h2]
      by_cases h3 : s.f0 < 1
      · rw [if_pos h3, if_neg (fun hh => by have hh := okS_iff.1 hh; omega)]
      rw [if_neg h3]
      by_cases h4 : s.f0 > s.f1
      · rw [if_pos h4, if_neg (fun hh => by have hh := okS_iff.1 hh; omega)]
      rw [if_neg h4]
      by_cases h5 : s.f1 > 1099511627776
      · rw [if_pos h5, if_neg (fun hh => by have hh := okS_iff.1 hh; omega)]
      rw [if_neg h5]
      by_cases h6 : s.f0 ≤ b
      · rw [if_pos h6, if_neg (fun hh => by have hh := okS_iff.1 hh; omega)]
      rw [if_neg h6]
      by_cases h7 : s.f0 = b + 1
      · rw [if_pos h7]
        by_cases h8 : s.f2 = c
        · rw [if_pos h8, if_neg (fun hh => by have hh := okS_iff.1 hh; omega)]
        · rw [if_neg h8, if_pos (okS_iff.2 (by omega))]
      · rw [if_neg h7, if_pos (okS_iff.2 (by omega))]
    by_cases hok : okS b c s
    · have e : rightB b c (s :: l.drop (i + 1)) = rightB s.f1 s.f2 (l.drop (i + 1)) := by simp [rightB, hok]
      rw [e]
      refine Ev.step (f := fun k => span_Right.l0 k l (l.length : Int) ((i + 1 : Nat) : Int) s.f0 s.f1 s.f2) (fun k => ?_) (ih (i + 1) _ _ _ (by omega) (by have := hok.1; omega) (by have := hok.1; omega))
      rw [hstep, if_pos hok]
    · have e : rightB b c (s :: l.drop (i + 1)) = false := by simp [rightB, hok]
      rw [e]
      exact Ev.done (fun k => by rw [hstep, if_neg hok])
theorem Right_ev (l : List Sp) (hl : l.length ≤ 9223372036854775807) : Ev (fun k => span_Right.f k l) (rightB 0 0 l) := by
  have := Right_ev_l l hl l.length 0 0 0 0 (by omega) (by omega) (by omega)
  exact this

theorem Ev.step2 {α : Type} {g f : Nat → Option α} {r : α} (h : ∀ k, g (k + 2) = f k) (k : Ev f r) : Ev g r := Ev.step (f := fun k => g (k + 1)) (fun _ => rfl) (Ev.step (f := f) h k)
theorem Ev.done2 {α : Type} {g : Nat → Option α} {r : α} (h : ∀ k, g (k + 2) = some r) : Ev g r := Ev.step2 (f := fun _ => some r) h (Ev.now r)
theorem pred_wrap {i : Nat} (h : 0 < i) (hn : i ≤ 9223372036854775807) : wrap64 ((i : Int) - 1) = ((i - 1 : Nat) : Int) := by
  rw [wrap_ok (by omega) (by omega)]; omega

/-! ### Right -/
theorem RRight_ev_l (l : List Sp) (hl : l.length ≤ 9223372036854775807) : ∀ (m i : Nat) (pe pi : Int), i + m = l.length → (i = 0 → pe = 0 ∧ pi = 0) → (0 < i → pe = (rd_T43 l ((i - 1 : Nat) : Int)).f1 ∧ pi = (rd_T43 l ((i - 1 : Nat) : Int)).f2) →
    Ev (fun k => grapevineref08_Right.l0 k l (i : Int)) (rightB pe pi (l.drop i)) := by
  intro m
  induction m with
  | zero =>
    intro i pe pi hi _ _
    rw [List.drop_of_length_le (by omega)]
    refine Ev.done (fun k => ?_)
    simp only [grapevineref08_Right.l0]
    rw [if_neg (by omega)]
    rfl
  | succ m ih =>
    intro i pe pi hi h0 hp
    have hlt : i < l.length := by omega
    rw [drop_rd l i hlt]
    generalize hs : rd_T43 l (i : Int) = s
    have hj : ∀ k, grapevineref08_Right.j1 (k + 1) l (i : Int) true = some false := fun k => by simp only [grapevineref08_Right.j1]; rw [if_pos trivial]
    have hstep : ∀ k, grapevineref08_Right.l0 (k + 2) l (i : Int) = if okS pe pi s then grapevineref08_Right.l0 k l ((i + 1 : Nat) : Int) else some false := by
      intro k
      rw [show k + 2 = (k + 1) + 1 from rfl]
      simp only [grapevineref08_Right.l0]
      rw [if_pos (by omega), if_pos (by omega), hs]
      by_cases h1 : s.f2 < 1
      · rw [if_pos h1, hj, if_neg (fun hh => by have hh := okS_iff.1 hh; omega)]
      rw [if_neg h1]
      by_cases h2 : s.f2 > 3
      · rw [if_pos h2, hj, if_neg (fun hh => by have hh := okS_iff.1 hh; omega)]
      rw [if_neg h2]
      by_cases h3 : s.f0 < 1
      · rw [if_pos h3, hj, if_neg (fun hh => by have hh := okS_iff.1 hh; omega)]
      rw [if_neg h3]
      by_cases h4 : s.f1 < s.f0
      · rw [if_pos h4, hj, if_neg (fun hh => by have hh := okS_iff.1 hh; omega)]
      rw [if_neg h4]
      by_cases h5 : s.f1 > 1099511627776
      · rw [decide_eq_true h5, hj, if_neg (fun hh => by have hh := okS_iff.1 hh; omega)]
      rw [decide_eq_false h5]
      simp only [grapevineref08_Right.j1]
      rw [if_neg (by simp), cast_succ_wrap hlt hl]
      by_cases hi0 : i = 0
      · obtain ⟨rfl, rfl⟩ := h0 hi0
        rw [if_neg (by omega), if_pos (okS_iff.2 (by omega))]
      · obtain ⟨e1, e2⟩ := hp (by omega)
        rw [if_pos (by omega), if_pos (by omega), if_pos (by omega), pred_wrap (by omega) (by omega), if_pos (by omega), if_pos (by omega), hs, ← e1, ← e2, wrap_ok (x := s.f0 - 1) (by omega) (by omega)]
        by_cases h6 : s.f0 ≤ pe
        · rw [if_pos h6, if_neg (fun hh => by have hh := okS_iff.1 hh; omega)]
        rw [if_neg h6]
        by_cases h7 : s.f0 - 1 = pe
        · rw [if_pos h7]
          by_cases h8 : s.f2 = pi
          · rw [if_pos h8, if_neg (fun hh => by have hh := okS_iff.1 hh; omega)]
          · rw [if_neg h8, if_pos (okS_iff.2 (by omega))]
        · rw [if_neg h7, if_pos (okS_iff.2 (by omega))]
    by_cases hok : okS pe pi s
    · have e : rightB pe pi (s :: l.drop (i + 1)) = rightB s.f1 s.f2 (l.drop (i + 1)) := by simp [rightB, hok]
      rw [e]
      refine Ev.step2 (f := fun k => grapevineref08_Right.l0 k l ((i + 1 : Nat) : Int)) (fun k => ?_) (ih (i + 1) _ _ (by omega) (fun h => by omega) (fun _ => by rw [show i + 1 - 1 = i by omega, hs]; exact ⟨rfl, rfl⟩))
      rw [hstep, if_pos hok]
    · have e : rightB pe pi (s :: l.drop (i + 1)) = false := by simp [rightB, hok]
      rw [e]
      exact Ev.done2 (fun k => by rw [hstep, if_neg hok])
theorem RRight_ev (l : List Sp) (hl : l.length ≤ 9223372036854775807) : Ev (fun k => grapevineref08_Right.f k l) (rightB 0 0 l) :=
  RRight_ev_l l hl l.length 0 0 0 (by omega) (fun _ => ⟨rfl, rfl⟩) (fun h => by omega)

/-! ### At -/
theorem SAt_ev_l (l : List Sp) (t : Int) (hl : l.length ≤ 9223372036854775807) : ∀ (m i : Nat), i + m = l.length → Ev (fun k => span_At.l0 k t l (l.length : Int) (i : Int)) (atS (l.drop i) t) := by
  intro m
  induction m with
  | zero =>
    intro i hi
    rw [List.drop_of_length_le (by omega)]
    exact Ev.done (fun k => by simp only [span_At.l0]; rw [if_neg (by omega)]; rfl)
  | succ m ih =>
    intro i hi
    have hlt : i < l.length := by omega
    rw [drop_rd l i hlt]
    generalize hs : rd_T43 l (i : Int) = s
    by_cases h : s.f0 ≤ t ∧ t ≤ s.f1
    · refine Ev.done (fun k => ?_)
      simp only [span_At.l0]
      rw [if_pos (by omega), if_pos (by omega), if_pos (by omega), hs, if_pos (show t ≥ s.f0 from h.1), if_pos h.2, atS_cons, if_pos h]
    · refine Ev.step (f := fun k => span_At.l0 k t l (l.length : Int) ((i + 1 : Nat) : Int)) (fun k => ?_) (by rw [atS_cons, if_neg h]; exact ih (i + 1) (by omega))
      simp only [span_At.l0]
      rw [if_pos (by omega), if_pos (by omega), if_pos (by omega), hs, cast_succ_wrap hlt hl]
      by_cases h1 : s.f0 ≤ t
      · rw [if_pos (show t ≥ s.f0 from h1), if_neg (by omega)]
      · rw [if_neg (show ¬ t ≥ s.f0 by omega)]
theorem SAt_ev (l : List Sp) (t : Int) (hl : l.length ≤ 9223372036854775807) : Ev (fun k => span_At.f k l t) (atS l t) := SAt_ev_l l t hl l.length 0 (by omega)
end Go.Proofs.Ytpeacoppclmmlaa.PP

end

section
set_option linter.unusedSimpArgs false
set_option linter.unusedVariables false
namespace Go.Proofs.Ytpeacoppclmmlaa.PP
open Go.RowKit Go.Proofs.YtpeacoppclmmlaaW.PrintWords Go.Proofs.YtpeacoppclmmlaaW.PrintMore

theorem Ev.shift {α : Type} (n : Nat) {f : Nat → Option α} {r : α} (h : Ev f r) : Ev (fun k => f (k + n)) r := h.elim fun K hK => ⟨K, fun k hk => hK _ (by omega)⟩
theorem Ev.unshift {α : Type} (n : Nat) {g : Nat → Option α} {r : α} (h : Ev (fun k => g (k + n)) r) : Ev g r := h.elim fun K hK => ⟨K + n, fun k hk => by
  have e : k - n + n = k := by omega
  have := hK (k - n) (by omega)
  simpa only [e] using this⟩
abbrev It := S62
def numsOK (kd pub sub n fr to_ : Int) : Prop := 0 ≤ pub ∧ pub ≤ 2 ∧ (if kd = 1 ∨ kd = 2 then 1 ≤ fr ∧ fr ≤ to_ ∧ to_ ≤ 1099511627776 else 1 ≤ sub ∧ sub ≤ 32 ∧ 1 ≤ n ∧ n ≤ 1073741824 ∧ (kd = 3 ∨ kd = 5 → 0 ≤ fr ∧ fr ≤ 1099511627776))
instance (kd pub sub n fr to_ : Int) : Decidable (numsOK kd pub sub n fr to_) := by unfold numsOK; infer_instance
def spanOK (fr to_ : Int) (s : Sp) : Prop := s.f2 ≠ 1 ∧ fr ≤ s.f0 ∧ s.f1 ≤ to_
instance (fr to_ : Int) (s : Sp) : Decidable (spanOK fr to_ s) := by unfold spanOK; infer_instance
def itemsE (sp : List Sp) (to_ : Int) : Int → List It → Int
  | _, [] => 0
  | a, x :: xs => if x.f0 ≤ a ∨ x.f0 > to_ ∨ atS sp x.f0 ≠ 0 then 14 else if (x.f2.length : Int) > 400 then 6 else itemsE sp to_ x.f0 xs
def chk (kd pub sub n fr to_ : Int) (sp : List Sp) (it : List It) : Int :=
  if kd < 1 ∨ kd > 6 then 12 else if ¬ numsOK kd pub sub n fr to_ then 2 else if kd ≠ 1 then 0 else if (sp.length : Int) > 32 ∨ (it.length : Int) > 8 then 6
  else if ¬ (rightB 0 0 sp = true) then 4 else if ¬ (∀ s ∈ sp, spanOK fr to_ s) then 4 else itemsE sp to_ (fr - 1) it
/-! ### the numbers -/
theorem Numbers_eq (k : Nat) (kd pub sub n fr to_ : Int) (sp : List Sp) (it : List It) : parcel_numbers.f (k + 2) kd pub sub n fr to_ sp it = some (decide (numsOK kd pub sub n fr to_)) := by
  have key : ∀ (b : Bool) (p : Prop) [Decidable p], (b = true ↔ p) → some b = some (decide p) := fun b p _ h => congrArg some (by
    by_cases hp : p
    · rw [decide_eq_true hp, h.2 hp]
    · rw [decide_eq_false hp]; exact Bool.eq_false_iff.2 (fun hb => hp (h.1 hb)))
  unfold numsOK
  simp only [parcel_numbers.f, parcel_numbers.j0, parcel_numbers.j1, decide_eq_true_eq, beq_iff_eq, if_true]
  repeat' split
  all_goals (refine key _ _ ?_; simp only [decide_eq_true_eq, Bool.false_eq_true, true_iff, false_iff]; omega)
/-! ### the reference's heads -/
section
variable (k : Nat) (kd pub sub n fr to_ : Int) (sp : List Sp) (it : List It)
end
/-! ### the lists -/
theorem rdi_at (l : List It) (i : Nat) (h : i < l.length) : rd_T62 l (i : Int) = l[i] := by
  unfold rd_T62
  rw [Int.toNat_natCast, List.getD_eq_getElem?_getD, List.getElem?_eq_getElem h, Option.getD_some]
theorem drop_rdi (l : List It) (i : Nat) (h : i < l.length) : l.drop i = rd_T62 l (i : Int) :: l.drop (i + 1) := by
  rw [rdi_at l i h, List.drop_eq_getElem_cons h]
theorem Items_ev (kd pub sub n fr to_ : Int) (sp : List Sp) (it : List It) (hs : sp.length ≤ 9223372036854775807) (hi : it.length ≤ 9223372036854775807) : ∀ (m i : Nat) (a : Int), i + m = it.length →
    Ev (fun k => parcel_Check.l1 k a it (it.length : Int) (i : Int) kd pub sub n fr to_ sp it) (itemsE sp to_ a (it.drop i)) := by
  intro m
  induction m with
  | zero =>
    intro i a h
    rw [List.drop_of_length_le (by omega)]
    refine Ev.done (fun k => ?_)
    simp only [parcel_Check.l1]
    rw [if_neg (by omega)]
    rfl
  | succ m ih =>
    intro i a h
    have hlt : i < it.length := by omega
    rw [drop_rdi it i hlt]
    generalize hx : rd_T62 it (i : Int) = x
    have q1 : (i : Int) < (it.length : Int) := by omega
    have q2 : (0 : Int) ≤ (i : Int) := by omega
    have J : ∀ k, parcel_Check.j4 (k + 1) it (it.length : Int) (i : Int) true kd pub sub n fr to_ sp it x.f0 x.f1 x.f2 = some 14 := fun k => by
      simp only [parcel_Check.j4]
      rw [if_pos trivial]
    simp only [itemsE]
    by_cases h1 : x.f0 ≤ a
    · rw [if_pos (Or.inl h1)]
      refine Ev.done2 (fun k => ?_)
      rw [show k + 2 = (k + 1) + 1 from rfl]
      simp only [parcel_Check.l1, if_pos q1, if_pos q2, hx, if_pos h1, J]
    by_cases h2 : x.f0 > to_
    · rw [if_pos (Or.inr (Or.inl h2))]
      refine Ev.done2 (fun k => ?_)
      rw [show k + 2 = (k + 1) + 1 from rfl]
      simp only [parcel_Check.l1, if_pos q1, if_pos q2, hx, if_neg h1, if_pos h2, J]
    refine Ev.step (f := fun k => (span_At.f k sp x.f0).bind fun t => parcel_Check.j4 k it (it.length : Int) (i : Int) (t != 0) kd pub sub n fr to_ sp it x.f0 x.f1 x.f2) (fun k => ?_) ?_
    · simp only [parcel_Check.l1, if_pos q1, if_pos q2, hx, if_neg h1, if_neg h2]
    refine Ev.bind (SAt_ev sp x.f0 hs) ?_
    by_cases h3 : atS sp x.f0 = 0
    · rw [if_neg (by omega), show (atS sp x.f0 != 0) = false by simp [h3]]
      by_cases h4 : (x.f2.length : Int) > 400
      · rw [if_pos h4]
        refine Ev.done (fun k => ?_)
        simp only [parcel_Check.j4]
        rw [if_neg (by simp), if_pos h4]
      · rw [if_neg h4]
        refine Ev.step (f := fun k => parcel_Check.l1 k x.f0 it (it.length : Int) ((i + 1 : Nat) : Int) kd pub sub n fr to_ sp it) (fun k => ?_) (ih (i + 1) x.f0 (by omega))
        simp only [parcel_Check.j4]
        rw [if_neg (by simp), if_neg h4, cast_succ_wrap hlt hi]
    · rw [if_pos (Or.inr (Or.inr h3)), show (atS sp x.f0 != 0) = true by simp [h3]]
      exact Ev.done (fun k => J k)
/-! ### the spans -/
theorem Spans_ev (kd pub sub n fr to_ : Int) (sp : List Sp) (it : List It) (hs : sp.length ≤ 9223372036854775807) (hi : it.length ≤ 9223372036854775807) (hf : 1 ≤ fr) (hf2 : fr ≤ 1099511627776) : ∀ (m i : Nat), i + m = sp.length →
    Ev (fun k => parcel_Check.l0 k sp (sp.length : Int) (i : Int) kd pub sub n fr to_ sp it) (if ¬ (∀ s ∈ sp.drop i, spanOK fr to_ s) then 4 else itemsE sp to_ (fr - 1) it) := by
  intro m
  induction m with
  | zero =>
    intro i h
    rw [List.drop_of_length_le (by omega), if_neg (by simp)]
    refine Ev.step (f := fun k => parcel_Check.l1 k (fr - 1) it (it.length : Int) ((0 : Nat) : Int) kd pub sub n fr to_ sp it) (fun k => ?_) (Items_ev kd pub sub n fr to_ sp it hs hi it.length 0 (fr - 1) (by omega))
    simp only [parcel_Check.l0]
    rw [if_neg (by omega), wrap_ok (by omega) (by omega)]
    rfl
  | succ m ih =>
    intro i h
    have hlt : i < sp.length := by omega
    rw [drop_rd sp i hlt]
    generalize hx : rd_T43 sp (i : Int) = x
    have q1 : (i : Int) < (sp.length : Int) := by omega
    have q2 : (0 : Int) ≤ (i : Int) := by omega
    by_cases hok : spanOK fr to_ x
    · have e : (∀ s ∈ x :: sp.drop (i + 1), spanOK fr to_ s) ↔ (∀ s ∈ sp.drop (i + 1), spanOK fr to_ s) := by simp [hok]
      simp only [e]
      refine Ev.step (fun k => ?_) (ih (i + 1) (by omega))
      have ⟨o1, o2, o3⟩ := hok
      simp only [parcel_Check.l0, if_pos q1, if_pos q2, hx]
      rw [if_neg o1, if_neg (by omega), if_neg (by omega), cast_succ_wrap hlt hs]
    · rw [if_pos (by simp [hok])]
      refine Ev.done (fun k => ?_)
      simp only [parcel_Check.l0, if_pos q1, if_pos q2, hx]
      unfold spanOK at hok
      by_cases o1 : x.f2 = 1
      · rw [if_pos o1]
      rw [if_neg o1]
      by_cases o2 : x.f0 < fr
      · rw [if_pos o2]
      rw [if_neg o2, if_pos (by omega)]
theorem Check_ev (kd pub sub n fr to_ : Int) (sp : List Sp) (it : List It) :
    Ev (fun k => parcel_Check.f k kd pub sub n fr to_ sp it) (chk kd pub sub n fr to_ sp it) := by
  unfold chk
  have J0 : ∀ k, parcel_Check.j0 (k + 1) true kd pub sub n fr to_ sp it = some 12 := fun k => by simp only [parcel_Check.j0]; rw [if_pos trivial]
  by_cases hk : kd < 1 ∨ kd > 6
  · rw [if_pos hk]
    refine Ev.done (fun k => ?_)
    unfold parcel_Check.f
    by_cases h1 : kd < 1
    · rw [if_pos h1, J0]
    · rw [if_neg h1, decide_eq_true (by omega), J0]
  rw [if_neg hk]
  have e0 : ∀ k, parcel_Check.f (k + 3) kd pub sub n fr to_ sp it = (if numsOK kd pub sub n fr to_ then (if kd = 1 then parcel_Check.j1 (k + 2) (decide ((sp.length : Int) > 32 ∨ (it.length : Int) > 8)) kd pub sub n fr to_ sp it else some 0) else some 2) := by
    intro k
    unfold parcel_Check.f
    rw [if_neg (by omega), decide_eq_false (by omega), show k + 3 = (k + 2) + 1 from rfl]
    simp only [parcel_Check.j0, Numbers_eq, Option.bind_some]
    rw [if_neg (by simp)]
    by_cases hn : numsOK kd pub sub n fr to_
    · rw [decide_eq_true hn, if_pos rfl, if_pos hn]
      by_cases h1 : (sp.length : Int) > 32
      · rw [if_pos h1, decide_eq_true (Or.inl h1)]
      · rw [if_neg h1, show decide ((sp.length : Int) > 32 ∨ (it.length : Int) > 8) = decide ((it.length : Int) > 8) from decide_eq_decide.2 (by omega)]
    · rw [decide_eq_false hn, if_neg (by simp), if_neg hn]
  by_cases hn : numsOK kd pub sub n fr to_
  · rw [if_neg (by simp [hn])]
    by_cases h1 : kd = 1
    · rw [if_neg (by simp [h1])]
      have hnum := hn
      unfold numsOK at hnum
      rw [if_pos (by omega)] at hnum
      refine Ev.unshift 3 (Ev.congr (f := fun k => parcel_Check.j1 (k + 2) (decide ((sp.length : Int) > 32 ∨ (it.length : Int) > 8)) kd pub sub n fr to_ sp it) (fun k => by rw [e0, if_pos hn, if_pos h1]) (Ev.shift 2 (f := fun k => parcel_Check.j1 k (decide ((sp.length : Int) > 32 ∨ (it.length : Int) > 8)) kd pub sub n fr to_ sp it) ?_))
      by_cases h2 : (sp.length : Int) > 32 ∨ (it.length : Int) > 8
      · rw [if_pos h2, decide_eq_true h2]
        refine Ev.done (fun k => ?_)
        simp only [parcel_Check.j1]
        rw [if_pos trivial]
      · rw [if_neg h2, decide_eq_false h2]
        refine Ev.step (f := fun k => (span_Right.f k sp).bind fun t130 => (if t130 = true then (parcel_Check.l0 k sp (sp.length : Int) 0 kd pub sub n fr to_ sp it) else (some 4))) (fun k => by
          simp only [parcel_Check.j1]
          rw [if_neg (by simp)]) (Ev.bind (Right_ev sp (by omega)) ?_)
        by_cases h3 : rightB 0 0 sp = true
        · rw [if_neg (by simp [h3])]
          refine Ev.congr (fun k => if_pos h3) (Spans_ev kd pub sub n fr to_ sp it (by omega) (by omega) (by omega) (by omega) sp.length 0 (by omega))
        · rw [if_pos h3]
          exact Ev.congr (fun k => if_neg h3) (Ev.now _)
    · rw [if_pos h1]
      exact Ev.unshift 3 (Ev.congr (f := fun _ => some 0) (fun k => by rw [e0, if_pos hn, if_neg h1]) (Ev.now _))
  · rw [if_pos hn]
    exact Ev.unshift 3 (Ev.congr (f := fun _ => some 2) (fun k => by rw [e0, if_neg hn]) (Ev.now _))
end Go.Proofs.Ytpeacoppclmmlaa.PP

end

section
namespace Go.Proofs.Ytpeacoppclmmlaa.PP
open Go.RowKit Go.Proofs.YtpeacoppclmmlaaW.PrintWords Go.Proofs.YtpeacoppclmmlaaW.PrintMore
theorem live_rounds : grapevinelaw13_live.f 20 = some true := by decide +kernel
theorem live_ev : Ev (fun k => grapevinelaw13_live.f k) true := Ev.of grapevinelaw13_live.mono live_rounds
end Go.Proofs.Ytpeacoppclmmlaa.PP

end

section
set_option linter.unusedSimpArgs false
set_option linter.unusedVariables false
namespace Go.Proofs.Ytpeacoppclmmlaa.PP
open Go.RowKit Go.Proofs.YtpeacoppclmmlaaW.PrintWords Go.Proofs.YtpeacoppclmmlaaW.PrintMore

open Oct (uint uintN)

theorem uint_length (x : Int) : (uint x).length ≤ 10 ∧ 0 < (uint x).length := by
  have := Oct.uintN_length 9 x
  unfold uint
  omega
/-- The bytes of the spans behind a place. -/
def putL : Int → List Sp → List Int
  | _, [] => []
  | pe, s :: l => uint (s.f0 - pe - 1) ++ uint (s.f1 - s.f0) ++ [s.f2 % 256] ++ putL s.f1 l
theorem putL_length (l : List Sp) : ∀ pe, (putL pe l).length ≤ 21 * l.length := by
  induction l with
  | nil => intro pe; simp [putL]
  | cons s l ih =>
    intro pe
    have h1 := (uint_length (s.f0 - pe - 1)).1
    have h2 := (uint_length (s.f1 - s.f0)).1
    have h3 := ih s.f1
    simp only [putL, List.length_append, List.length_cons, List.length_nil]
    omega
theorem Put_ev_l {l : List Sp} (hl : l.length ≤ 256) : ∀ (m i : Nat) (out : List Int) (pe pi : Int), i + m = l.length → rightB pe pi (l.drop i) = true → 0 ≤ pe → pe ≤ 1099511627776 → (i = 0 → pe = 0) → (0 < i → pe = (rd_T43 l ((i - 1 : Nat) : Int)).f1) → out.length + 21 * m < 140737488355328 →
    Ev (fun k => span_Put.l0 k out pe l (l.length : Int) (i : Int)) (out ++ putL pe (l.drop i), 0) ∧ Ev (fun k => grapevineref08_Put.l0 k l out (i : Int)) (out ++ putL pe (l.drop i), 0) := by
  intro m
  induction m with
  | zero =>
    intro i out pe pi hi h hp hp' h0 h1 ho
    rw [List.drop_of_length_le (by omega)]
    simp only [putL, List.append_nil]
    constructor
    · refine Ev.done (fun k => ?_)
      simp only [span_Put.l0]
      rw [if_neg (by omega)]
    · refine Ev.done (fun k => ?_)
      simp only [grapevineref08_Put.l0]
      rw [if_neg (by omega)]
  | succ m ih =>
    intro i out pe pi hi h hp hp' h0 h1 ho
    have hlt : i < l.length := by omega
    rw [drop_rd l i hlt] at h ⊢
    generalize hs : rd_T43 l (i : Int) = s at h
    obtain ⟨⟨g1, g2, g3⟩, hr⟩ := rightB_cons.1 h
    have u1 := (uint_length (s.f0 - pe - 1)).1
    have u2 := (uint_length (s.f1 - s.f0)).1
    have hprev : 0 < i + 1 → s.f1 = (rd_T43 l ((i + 1 - 1 : Nat) : Int)).f1 := fun _ => by rw [Nat.add_sub_cancel, hs]
    have hroom : (out ++ uint (s.f0 - pe - 1) ++ uint (s.f1 - s.f0) ++ [s.f2 % 256]).length + 21 * m < 140737488355328 := by
      rw [List.length_append, List.length_append, List.length_append, List.length_singleton]
      omega
    obtain ⟨i1, i2⟩ := ih (i + 1) (out ++ uint (s.f0 - pe - 1) ++ uint (s.f1 - s.f0) ++ [s.f2 % 256]) s.f1 s.f2 (by omega) hr (by omega) (by omega) (fun h => by cases h) hprev hroom
    have ep : out ++ putL pe (s :: l.drop (i + 1)) = (out ++ uint (s.f0 - pe - 1) ++ uint (s.f1 - s.f0) ++ [s.f2 % 256]) ++ putL s.f1 (l.drop (i + 1)) := by simp [putL]
    rw [ep]
    have E1 := Oct.Uint_ev (s.f0 - pe - 1) (by omega) (by omega)
    have E2 := Oct.Uint_ev (s.f1 - s.f0) (by omega) (by omega)
    have p1 : out.length + (uint (s.f0 - pe - 1)).length < 140737488355328 := by omega
    have p2 : (out ++ uint (s.f0 - pe - 1)).length + (uint (s.f1 - s.f0)).length < 140737488355328 := by rw [List.length_append]; omega
    have p3 : (out ++ uint (s.f0 - pe - 1) ++ uint (s.f1 - s.f0)).length < 140737488355328 := by rw [List.length_append, List.length_append]; omega
    have q1 : (i : Int) < (l.length : Int) := by omega
    have q2 : (0 : Int) ≤ (i : Int) := by omega
    have qn : ¬ (i : Int) > 0 → pe = 0 := fun h => h0 (by omega)
    have qp : (i : Int) > 0 → pe = (rd_T43 l ((i - 1 : Nat) : Int)).f1 ∧ wrap64 ((i : Int) - 1) = ((i - 1 : Nat) : Int) ∧ (0 : Int) ≤ ((i - 1 : Nat) : Int) ∧ ((i - 1 : Nat) : Int) < (l.length : Int) := fun h => ⟨h1 (by omega), pred_wrap (by omega) (by omega), by omega, by omega⟩
    have w0 : pe = 0 → IntKind.u64.wrap (wrap64 ((wrap64 (s.f0)) - 1)) = s.f0 - pe - 1 := fun h => by
      rw [wrap_ok (x := s.f0) (by omega) (by omega), wrap_ok (by omega) (by omega), Oct.wrapu_ok (by omega) (by omega), h]; omega
    have w1 : IntKind.u64.wrap (wrap64 ((wrap64 (s.f0 - pe)) - 1)) = s.f0 - pe - 1 := by
      rw [wrap_ok (x := s.f0 - pe) (by omega) (by omega), wrap_ok (by omega) (by omega), Oct.wrapu_ok (by omega) (by omega)]
    have w2 : IntKind.u64.wrap (wrap64 (s.f1 - s.f0)) = s.f1 - s.f0 := by
      rw [wrap_ok (by omega) (by omega), Oct.wrapu_ok (by omega) (by omega)]
    have hw := cast_succ_wrap hlt (show l.length ≤ 9223372036854775807 from Nat.le_trans hl (by decide))
    constructor
    · apply Oct.Ev.succ
      simp only [span_Put.l0, if_pos q1, if_pos q2, hs, w1, w2, hw]
      refine Ev.bind E1.1 ?_
      simp only [if_pos p1, Option.bind_some]
      refine Ev.bind E2.1 ?_
      simp only [if_pos p2, Option.bind_some, if_pos p3]
      exact i1
    · apply Oct.Ev.succ
      simp only [grapevineref08_Put.l0, if_pos q1]
      by_cases c : (i : Int) > 0
      · obtain ⟨r1, r2, r3, r4⟩ := qp c
        simp only [if_pos c, r2, if_pos r3, if_pos r4, if_pos q2, hs, ← r1, w1, w2, hw]
        refine Ev.bind E1.2 ?_
        simp only [if_pos p1, Option.bind_some]
        refine Ev.bind E2.2 ?_
        simp only [if_pos p2, Option.bind_some, if_pos p3]
        exact i2
      · simp only [if_neg c, if_pos q2, hs, w0 (qn c), w2, hw]
        refine Ev.bind E1.2 ?_
        simp only [if_pos p1, Option.bind_some]
        refine Ev.bind E2.2 ?_
        simp only [if_pos p2, Option.bind_some, if_pos p3]
        exact i2
/-- What Put comes to. -/
def putR (l : List Sp) : List Int × Int := if rightB 0 0 l = true then (if (l.length : Int) > 256 then ([], 6) else (uint (l.length : Int) ++ putL 0 l, 0)) else ([], 2)
theorem Put_ev (l : List Sp) (hl : l.length ≤ 9223372036854775807) : Ev (fun k => span_Put.f k l) (putR l) ∧ Ev (fun k => grapevineref08_Put.f k l) (putR l) := by
  unfold putR
  by_cases c : rightB 0 0 l = true
  · by_cases c2 : (l.length : Int) > 256
    · rw [if_pos c, if_pos c2]
      exact ⟨Ev.bind (Right_ev l hl) (Ev.congr (fun k => by rw [if_pos c, if_pos c2]) (Ev.now _)), Ev.bind (RRight_ev l hl) (Ev.congr (fun k => by rw [if_pos c, if_pos c2]) (Ev.now _))⟩
    · rw [if_pos c, if_neg c2]
      have hu := (uint_length (l.length : Int)).1
      obtain ⟨i1, i2⟩ := Put_ev_l (l := l) (by omega) l.length 0 (uint (l.length : Int)) 0 0 (by omega) c (by omega) (by omega) (fun _ => rfl) (fun h => by omega) (by omega)
      have E := Oct.Uint_ev (l.length : Int) (by omega) (by omega)
      have w : IntKind.u64.wrap (l.length : Int) = (l.length : Int) := Oct.wrapu_ok (by omega) (by omega)
      constructor
      · refine Ev.bind (Right_ev l hl) ?_
        simp only [if_pos c, if_neg c2, w]
        exact Ev.bind E.1 i1
      · refine Ev.bind (RRight_ev l hl) ?_
        simp only [if_pos c, if_neg c2, w]
        exact Ev.bind E.2 i2
  · rw [if_neg c]
    exact ⟨Ev.bind (Right_ev l hl) (Ev.congr (fun k => by rw [if_neg c]) (Ev.now _)), Ev.bind (RRight_ev l hl) (Ev.congr (fun k => by rw [if_neg c]) (Ev.now _))⟩
end Go.Proofs.Ytpeacoppclmmlaa.PP

end

section
set_option linter.unusedSimpArgs false
set_option linter.unusedVariables false
namespace Go.Proofs.Ytpeacoppclmmlaa.PP
open Go.RowKit Go.Proofs.YtpeacoppclmmlaaW.PrintWords Go.Proofs.YtpeacoppclmmlaaW.PrintMore
open Oct (uint uintN)

/-- A number's bytes, as it stands in 64 bits. -/
def numB (n : Int) : List Int := uint (n % 18446744073709551616)
theorem numB_length (n : Int) : (numB n).length ≤ 10 := (uint_length _).1
def itemB (x : It) : List Int := numB x.f0 ++ numB (wrap64 x.f1) ++ numB (x.f2.length : Int) ++ x.f2
def itemsB : List It → List Int
  | [] => []
  | x :: l => itemB x ++ itemsB l
def tailB (kd : Int) (sp : List Sp) (it : List It) : List Int := if kd = 1 then (putR sp).1 ++ numB (it.length : Int) ++ itemsB it else []
def putB (kd pub sub n fr to_ : Int) (sp : List Sp) (it : List It) : List Int :=
  [kd % 256] ++ numB pub ++ (if 3 ≤ kd ∧ kd ≤ 6 then numB sub ++ numB n else []) ++ (if kd = 1 ∨ kd = 2 ∨ kd = 3 ∨ kd = 5 then numB fr else []) ++ (if kd = 1 ∨ kd = 2 then numB to_ else []) ++ tailB kd sp it
def putP (kd pub sub n fr to_ : Int) (sp : List Sp) (it : List It) : List Int × Int :=
  if chk kd pub sub n fr to_ sp it = 0 then (putB kd pub sub n fr to_ sp it, 0) else ([], chk kd pub sub n fr to_ sp it)
theorem Num_ev (out : List Int) (n : Int) (h : out.length < 140737488355000) : Ev (fun k => parcel_Put.num k out n) (out ++ numB n) := by
  unfold parcel_Put.num
  refine Ev.bind (Oct.Uint_ev _ (by omega) (by omega)).1 ?_
  have := numB_length n
  unfold numB at this
  exact Ev.congr (fun k => if_pos (by omega)) (Ev.now _)
/-! ### the items -/
def small (it : List It) : Prop := ∀ x ∈ it, x.f2.length ≤ 400
theorem Items2_ev : ∀ (it : List It) (out : List Int), small it → out.length + 430 * it.length < 140737488354000 → Ev (fun k => parcel_Put.items k out it) (out ++ itemsB it)
  | [], out, _, _ => by
    simp only [parcel_Put.items, itemsB, List.append_nil]
    exact Ev.now _
  | x :: l, out, hs, ho => by
    have hx : x.f2.length ≤ 400 := hs x (List.mem_cons_self ..)
    have h1 := numB_length x.f0
    have h2 := numB_length (wrap64 x.f1)
    have h3 := numB_length (x.f2.length : Int)
    rw [List.length_cons] at ho
    simp only [parcel_Put.items]
    refine Ev.bind (Num_ev _ _ (by omega)) (Ev.bind (Num_ev _ _ (by rw [List.length_append]; omega)) (Ev.bind (Num_ev _ _ (by rw [List.length_append, List.length_append]; omega)) ?_))
    have e : out ++ itemsB (x :: l) = (out ++ numB x.f0 ++ numB (wrap64 x.f1) ++ numB (x.f2.length : Int) ++ x.f2) ++ itemsB l := by simp [itemsB, itemB]
    rw [e]
    refine Ev.congr (fun k => if_pos (by simp only [List.length_append]; omega)) (Items2_ev l _ (fun y hy => hs y (List.mem_cons_of_mem _ hy)) (by simp only [List.length_append]; omega))
/-! ### what Check says -/
theorem itemsE_small {sp : List Sp} {to_ : Int} : ∀ {it : List It} {a : Int}, itemsE sp to_ a it = 0 → small it
  | [], _, _ => fun _ h => by cases h
  | x :: l, a, h => by
    simp only [itemsE] at h
    by_cases h1 : x.f0 ≤ a ∨ x.f0 > to_ ∨ atS sp x.f0 ≠ 0
    · rw [if_pos h1] at h; exact absurd h (by decide)
    rw [if_neg h1] at h
    by_cases h2 : (x.f2.length : Int) > 400
    · rw [if_pos h2] at h; exact absurd h (by decide)
    rw [if_neg h2] at h
    intro y hy
    rcases List.mem_cons.1 hy with rfl | hy
    · omega
    · exact itemsE_small h y hy
theorem chk_zero {kd pub sub n fr to_ : Int} {sp : List Sp} {it : List It} (h : chk kd pub sub n fr to_ sp it = 0) : 1 ≤ kd ∧ kd ≤ 6 ∧ numsOK kd pub sub n fr to_ ∧ (kd = 1 → sp.length ≤ 32 ∧ it.length ≤ 8 ∧ rightB 0 0 sp = true ∧ (∀ s ∈ sp, spanOK fr to_ s) ∧ itemsE sp to_ (fr - 1) it = 0) := by
  unfold chk at h
  by_cases h1 : kd < 1 ∨ kd > 6
  · rw [if_pos h1] at h; exact absurd h (by decide)
  rw [if_neg h1] at h
  by_cases h2 : ¬ numsOK kd pub sub n fr to_
  · rw [if_pos h2] at h; exact absurd h (by decide)
  rw [if_neg h2] at h
  refine ⟨by omega, by omega, Classical.byContradiction h2, fun hk => ?_⟩
  rw [if_neg (by omega)] at h
  by_cases h3 : (sp.length : Int) > 32 ∨ (it.length : Int) > 8
  · rw [if_pos h3] at h; exact absurd h (by decide)
  rw [if_neg h3] at h
  by_cases h4 : ¬ (rightB 0 0 sp = true)
  · rw [if_pos h4] at h; exact absurd h (by decide)
  rw [if_neg h4] at h
  by_cases h5 : ¬ (∀ s ∈ sp, spanOK fr to_ s)
  · rw [if_pos h5] at h; exact absurd h (by decide)
  rw [if_neg h5] at h
  exact ⟨by omega, by omega, Classical.byContradiction h4, Classical.byContradiction h5, h⟩
theorem putR_length {sp : List Sp} (h : sp.length ≤ 32) : (putR sp).1.length ≤ 700 := by
  unfold putR
  split
  · split
    · simp
    · have := (uint_length (sp.length : Int)).1
      have := putL_length sp 0
      simp only [List.length_append]
      omega
  · simp
/-! ### Put -/
theorem Tail_ev {kd pub sub n fr to_ : Int} {sp : List Sp} {it : List It} (h : chk kd pub sub n fr to_ sp it = 0) (o : List Int) (ho : o.length ≤ 100) :
    Ev (fun k => if kd = 1 then (span_Put.f k sp).bind fun s => if o.length + s.1.length < 140737488355328 then (parcel_Put.num k (o ++ s.1) (it.length : Int)).bind fun o2 => (parcel_Put.items k o2 it).bind fun o3 => some (o3, (0 : Int)) else none else some (o, 0)) (o ++ tailB kd sp it, 0) := by
  unfold tailB
  by_cases hk : kd = 1
  · obtain ⟨h1, h2, h3, h4, h5⟩ := (chk_zero h).2.2.2 hk
    have hp := putR_length h1
    have hn := numB_length (it.length : Int)
    refine Ev.congr (fun k => if_pos hk) ?_
    rw [if_pos hk]
    refine Ev.bind (Put_ev sp (by omega)).1 (Ev.congr (fun k => if_pos (by omega)) ?_)
    have e : o ++ ((putR sp).1 ++ numB (it.length : Int) ++ itemsB it) = (o ++ (putR sp).1 ++ numB (it.length : Int)) ++ itemsB it := by simp
    rw [e]
    exact Ev.bind (Num_ev _ _ (by rw [List.length_append]; omega)) (Ev.bind (Items2_ev it _ (itemsE_small h5) (by simp only [List.length_append]; omega)) (Ev.now _))
  · rw [if_neg hk, List.append_nil]
    exact Ev.congr (fun k => if_neg hk) (Ev.now _)
theorem Nums_ev : ∀ (ns o : List Int), o.length + 10 * ns.length ≤ 100 → Ev (fun k => parcel_Put.nums k o ns) (o ++ ns.flatMap numB)
  | [], o, _ => by
    simp only [parcel_Put.nums, List.flatMap_nil, List.append_nil]
    exact Ev.now _
  | n :: ns, o, h => by
    have := numB_length n
    rw [List.length_cons] at h
    simp only [parcel_Put.nums, List.flatMap_cons]
    rw [← List.append_assoc]
    exact Ev.bind (Num_ev _ _ (by omega)) (Nums_ev ns _ (by rw [List.length_append]; omega))
theorem PPut_ev (kd pub sub n fr to_ : Int) (sp : List Sp) (it : List It) : Ev (fun k => parcel_Put.f k kd pub sub n fr to_ sp it) (putP kd pub sub n fr to_ sp it) := by
  unfold putP parcel_Put.f
  refine Ev.bind (Check_ev kd pub sub n fr to_ sp it) ?_
  by_cases h : chk kd pub sub n fr to_ sp it = 0
  case neg =>
    rw [if_neg h]
    exact Ev.congr (fun k => if_neg h) (Ev.now _)
  rw [if_pos h]
  obtain ⟨h1, h2, h3, h4⟩ := chk_zero h
  refine Ev.congr (fun k => (if_pos h).trans (if_pos ⟨h1, h2⟩)) ?_
  have e : putB kd pub sub n fr to_ sp it = ([kd % 256] ++ ((flds kd).map (fld6 kd pub sub n fr to_)).flatMap numB) ++ tailB kd sp it := by
    unfold putB
    congr 1
    rcases (show kd = 1 ∨ kd = 2 ∨ kd = 3 ∨ kd = 4 ∨ kd = 5 ∨ kd = 6 by omega) with rfl | rfl | rfl | rfl | rfl | rfl <;> simp [flds, fld6]
  rw [e]
  have hl : (flds kd).length ≤ 4 := flds_len kd
  refine Ev.bind (Nums_ev _ _ (by rw [List.length_map, List.length_singleton]; omega)) (Tail_ev h _ ?_)
  have : ∀ l : List Int, (l.flatMap numB).length ≤ 10 * l.length := fun l => by
    induction l with
    | nil => simp
    | cons x l ih => have := numB_length x; simp only [List.flatMap_cons, List.length_append, List.length_cons]; omega
  have := this ((flds kd).map (fld6 kd pub sub n fr to_))
  rw [List.length_map] at this
  rw [List.length_append, List.length_singleton]
  omega
end Go.Proofs.Ytpeacoppclmmlaa.PP

end

section
set_option linter.unusedSimpArgs false
set_option linter.unusedVariables false
namespace Go.Proofs.Ytpeacoppclmmlaa.PP
open Go.RowKit Go.Proofs.YtpeacoppclmmlaaW.PrintWords Go.Proofs.YtpeacoppclmmlaaW.PrintMore

theorem SameSp_l (l : List Sp) (hl : l.length ≤ 9223372036854775807) : ∀ (d i : Nat), i + d = l.length → Ev (fun k => grapevineref08_Same.l0 k l l (i : Int)) true := by
  intro d
  induction d with
  | zero =>
    intro i h
    refine Ev.done (fun k => ?_)
    simp only [grapevineref08_Same.l0]
    rw [if_neg (by omega)]
  | succ d ih =>
    intro i h
    have hlt : i < l.length := by omega
    refine Ev.step (fun k => ?_) (ih (i + 1) (by omega))
    simp only [grapevineref08_Same.l0]
    simp only [if_pos (show (i : Int) < (l.length : Int) by omega), if_pos (show (0 : Int) ≤ (i : Int) by omega), cast_succ_wrap hlt hl, beq_self_eq_true, Bool.not_true, Bool.or_self, Bool.false_eq_true, if_false]
theorem SameSp_self (l : List Sp) (hl : l.length ≤ 9223372036854775807) : Ev (fun k => grapevineref08_Same.f k l l) true := by
  unfold grapevineref08_Same.f
  exact Ev.congr (fun k => if_pos rfl) (SameSp_l l hl l.length 0 (by omega))
theorem SameIt_l (l : List It) (hl : l.length ≤ 9223372036854775807) : ∀ (d i : Nat), i + d = l.length → Ev (fun k => grapevineref13_SameItems.l0 k l l (i : Int)) true := by
  intro d
  induction d with
  | zero =>
    intro i h
    refine Ev.done (fun k => ?_)
    simp only [grapevineref13_SameItems.l0]
    rw [if_neg (by omega)]
  | succ d ih =>
    intro i h
    have hlt : i < l.length := by omega
    refine Ev.step (fun k => ?_) (ih (i + 1) (by omega))
    simp only [grapevineref13_SameItems.l0]
    simp only [if_pos (show (i : Int) < (l.length : Int) by omega), if_pos (show (0 : Int) ≤ (i : Int) by omega), cast_succ_wrap hlt hl, if_true]
theorem SameIt_self (l : List It) (hl : l.length ≤ 9223372036854775807) : Ev (fun k => grapevineref13_SameItems.f k l l) true := by
  unfold grapevineref13_SameItems.f
  exact Ev.congr (fun k => if_pos rfl) (SameIt_l l hl l.length 0 (by omega))
theorem Same_self (a b c d e f : Int) (sp : List Sp) (it : List It) (hs : sp.length ≤ 9223372036854775807) (hi : it.length ≤ 9223372036854775807) : Ev (fun k => grapevineref13_Same.f k a b c d e f sp it a b c d e f sp it) true := by
  unfold grapevineref13_Same.f
  simp only [if_true]
  refine Ev.bind (SameSp_self sp hs) ?_
  simp only [if_true]
  exact Ev.bind (SameIt_self it hi) (Ev.now _)
end Go.Proofs.Ytpeacoppclmmlaa.PP

end

section
set_option linter.unusedSimpArgs false
set_option linter.unusedVariables false
namespace Go.Proofs.Ytpeacoppclmmlaa.PP
open Go.RowKit Go.Proofs.YtpeacoppclmmlaaW.PrintWords Go.Proofs.YtpeacoppclmmlaaW.PrintMore Go.Proofs.Ytpeacoppclmmlaa.Open
open Oct (uint uintN tk takeU Bytes)

theorem tk_ok : ∀ {r : List Int} {n : Int} {i : Nat} {p : Int}, Bytes r → 0 ≤ n → n < 128 ^ i → i ≤ 9 →
    ((tk r n i p).2.2 = 0 → 0 ≤ (tk r n i p).1 ∧ (tk r n i p).1 < 18446744073709551616 ∧ p < (tk r n i p).2.1 ∧ (tk r n i p).2.1 ≤ p + r.length) ∧ ((tk r n i p).2.2 ≠ 0 → tk r n i p = (0, 0, (tk r n i p).2.2)) := by
  intro r
  induction r with
  | nil => intro n i p _ _ _ _; exact ⟨fun h => by simp [tk] at h, fun _ => rfl⟩
  | cons x r ih =>
    intro n i p hb h0 h1 hi
    have hx := hb x (by simp)
    have hb' : Bytes r := fun y hy => hb y (by simp [hy])
    simp only [tk]
    by_cases c9 : i = 9 ∧ x > 1
    · rw [if_pos c9]; exact ⟨fun h => by simp at h, fun _ => rfl⟩
    rw [if_neg c9]
    have h9 : i = 9 → x ≤ 1 := fun h => by
      by_cases hh : x > 1
      · exact absurd ⟨h, hh⟩ c9
      · omega
    obtain ⟨f1, f2, f3⟩ := Oct.fits h0 h1 hi hx h9
    by_cases c : x ≥ 128
    · rw [if_pos c]
      have hi8 : i ≤ 8 := by
        rcases Nat.lt_or_ge i 9 with h | h
        · omega
        · have := h9 (by omega); omega
      obtain ⟨i1, i2⟩ := ih (p := p + 1) hb' (by omega) (f3 hi8) (show i + 1 ≤ 9 by omega)
      refine ⟨fun h => ?_, i2⟩
      obtain ⟨j1, j2, j3, j4⟩ := i1 h
      refine ⟨j1, j2, by omega, ?_⟩
      rw [List.length_cons]
      omega
    · rw [if_neg c]
      by_cases cz : x = 0 ∧ i > 0
      · rw [if_pos cz]; exact ⟨fun h => by simp at h, fun _ => rfl⟩
      · rw [if_neg cz]
        refine ⟨fun _ => ⟨by show 0 ≤ n + x % 128 * 128 ^ i; omega, f1, by show p < p + 1; omega, ?_⟩, fun h => absurd rfl h⟩
        show p + 1 ≤ p + ((x :: r).length : Int)
        rw [List.length_cons]
        omega
theorem takeU_ok {b : List Int} (hb : Bytes b) (t : Int) :
    ((takeU b t).2.2 = 0 → 0 ≤ t ∧ 0 ≤ (takeU b t).1 ∧ (takeU b t).1 < 18446744073709551616 ∧ t < (takeU b t).2.1 ∧ (takeU b t).2.1 ≤ b.length) ∧ ((takeU b t).2.2 ≠ 0 → takeU b t = (0, 0, (takeU b t).2.2)) := by
  unfold takeU
  by_cases c : t < 0 ∨ t > b.length
  · rw [if_pos c]; exact ⟨fun h => by simp at h, fun _ => rfl⟩
  · rw [if_neg c]
    obtain ⟨h1, h2⟩ := tk_ok (p := t) (i := 0) (Oct.bytes_drop hb t.toNat) (Int.le_refl 0) (by decide) (by omega)
    refine ⟨fun h => ?_, h2⟩
    obtain ⟨j1, j2, j3, j4⟩ := h1 h
    rw [List.length_drop] at j4
    exact ⟨by omega, j1, j2, j3, by omega⟩
/-- What Take comes to, behind the number of spans: so many more, at a place, those before, the last one's end and what it tells. -/
def takeS : Nat → List Int → Int → List Sp → Int → Int → List Sp × Int × Int
  | 0, _, pos, out, _, _ => (out, pos, 0)
  | m + 1, b, pos, out, pe, pi =>
    if (takeU b pos).2.2 = 0 then
      (if (takeU b (takeU b pos).2.1).2.2 = 0 then
        (if (takeU b (takeU b pos).2.1).2.1 ≥ b.length then ([], 0, 3) else
          if pe + (takeU b pos).1 + (takeU b (takeU b pos).2.1).1 + 1 > 1099511627776 then ([], 0, 4) else
          if rd b (takeU b (takeU b pos).2.1).2.1 < 1 ∨ rd b (takeU b (takeU b pos).2.1).2.1 > 3 then ([], 0, 4) else
          if (takeU b pos).1 = 0 ∧ rd b (takeU b (takeU b pos).2.1).2.1 = pi then ([], 0, 4) else
          takeS m b ((takeU b (takeU b pos).2.1).2.1 + 1) (out ++ [⟨pe + 1 + (takeU b pos).1, pe + 1 + (takeU b pos).1 + (takeU b (takeU b pos).2.1).1, rd b (takeU b (takeU b pos).2.1).2.1⟩]) (pe + 1 + (takeU b pos).1 + (takeU b (takeU b pos).2.1).1) (rd b (takeU b (takeU b pos).2.1).2.1))
      else ([], 0, (takeU b (takeU b pos).2.1).2.2))
    else ([], 0, (takeU b pos).2.2)
theorem Take_span_l {b : List Int} (hb : Bytes b) (hlen : b.length ≤ 9223372036854775000) (c : Int) (hc : c ≤ 256) : ∀ (m i : Nat) (pos : Int) (out : List Sp) (pf pe pi : Int), (i : Int) + m = c → out.length = i → 0 ≤ pe → pe ≤ 1099511627776 →
    Ev (fun k => span_Take.l0 k b pos out c (i : Int) pf pe pi) (takeS m b pos out pe pi) := by
  intro m
  induction m with
  | zero =>
    intro i pos out pf pe pi hi ho hp hp'
    refine Ev.done (fun k => ?_)
    simp only [span_Take.l0]
    rw [if_neg (by omega)]
    rfl
  | succ m ih =>
    intro i pos out pf pe pi hi ho hp hp'
    obtain ⟨A1, A2⟩ := takeU_ok hb pos
    have EA := (Oct.TakeUint_ev hb hlen pos).1
    apply Oct.Ev.succ
    simp only [span_Take.l0, if_pos (show (i : Int) < c by omega)]
    refine Ev.bind EA ?_
    simp only [takeS]
    generalize takeU b pos = a at A1 A2
    obtain ⟨v, p, e⟩ := a
    simp only at A1 A2 ⊢
    have err : ∀ (x8 e : Int) (x12 x13 : Int), e ≠ 0 → Ev (fun k => span_Take.j1 k b x8 e out x12 x13 c (i : Int) pf pe pi) ([], 0, e) := by
      intro x8 e x12 x13 he
      refine Ev.done (fun k => ?_)
      simp only [span_Take.j1]
      rw [if_neg he]
    by_cases c1 : e = 0
    case neg =>
      simp only [if_neg c1]
      exact err _ _ _ _ c1
    simp only [if_pos c1]
    obtain ⟨a1, a2, a3, a4, a5⟩ := A1 c1
    obtain ⟨B1, B2⟩ := takeU_ok hb p
    have EB := (Oct.TakeUint_ev hb hlen p).1
    refine Ev.bind EB ?_
    generalize takeU b p = a at B1 B2
    obtain ⟨w, q, f⟩ := a
    simp only at B1 B2 ⊢
    by_cases c2 : f = 0
    case neg =>
      simp only [if_neg c2]
      exact err _ _ _ _ c2
    subst c2
    simp only [if_true]
    obtain ⟨b1, b2, b3, b4, b5⟩ := B1 rfl
    by_cases c3 : q ≥ b.length
    · rw [if_pos c3]
      refine Ev.done (fun k => ?_)
      simp only [span_Take.j1]
      rw [if_pos trivial, if_pos c3]
    rw [if_neg c3]
    have hx := Oct.rd_bytes hb q.toNat (by omega)
    rw [show ((q.toNat : Nat) : Int) = q from by omega] at hx
    generalize hxx : rd b q = x at hx
    have q0 : 0 ≤ q := by omega
    have q1 : q < b.length := by omega
    have hroom : out.length < 5864062014805 := by omega
    have hi1 : ((i + 1 : Nat) : Int) + m = c := by omega
    have ho1 : ∀ s : Sp, (out ++ [s]).length = i + 1 := fun s => by rw [List.length_append, List.length_singleton, ho]
    have key : Ev (fun k => span_Take.j1 k b q 0 out v w c (i : Int) pf pe pi) (if pe + v + w + 1 > 1099511627776 then ([], 0, 4) else if x < 1 ∨ x > 3 then ([], 0, 4) else if v = 0 ∧ x = pi then ([], 0, 4) else takeS m b (q + 1) (out ++ [⟨pe + 1 + v, pe + 1 + v + w, x⟩]) (pe + 1 + v + w) x) := by
      have n1 : v ≥ 1099511627776 - pe → pe + v + w + 1 > 1099511627776 := fun h => by omega
      have n2 : w ≥ 1099511627776 - pe - v → pe + v + w + 1 > 1099511627776 := fun h => by omega
      have n3 : ¬ v ≥ 1099511627776 - pe → ¬ w ≥ 1099511627776 - pe - v → ¬ pe + v + w + 1 > 1099511627776 ∧ 0 ≤ pe + 1 + v + w ∧ pe + 1 + v + w ≤ 1099511627776 := fun h h' => by omega
      have n4 : x < 1 → (x < 1 ∨ x > 3) := fun h => .inl h
      have n5 : x > 3 → (x < 1 ∨ x > 3) := fun h => .inr h
      have n6 : ¬ x < 1 → ¬ x > 3 → ¬ (x < 1 ∨ x > 3) := fun h h' hh => hh.elim h h'
      have r1 : IntKind.u64.wrap (wrap64 (1099511627776 - pe)) = 1099511627776 - pe := by
        rw [wrap_ok (by omega) (by omega), Oct.wrapu_ok (by omega) (by omega)]
      have r2 : ¬ v ≥ 1099511627776 - pe → IntKind.u64.wrap (1099511627776 - pe - v) = 1099511627776 - pe - v := fun h => Oct.wrapu_ok (by omega) (by omega)
      have r3 : wrap64 x = x := wrap_ok (by omega) (by omega)
      have r4 : ¬ v ≥ 1099511627776 - pe → wrap64 (wrap64 (pe + 1) + wrap64 v) = pe + 1 + v := fun h => by
        rw [wrap_ok (x := pe + 1) (by omega) (by omega), wrap_ok (x := v) (by omega) (by omega), wrap_ok (by omega) (by omega)]
      have r5 : ¬ v ≥ 1099511627776 - pe → ¬ w ≥ 1099511627776 - pe - v → wrap64 (pe + 1 + v + wrap64 w) = pe + 1 + v + w := fun h h' => by
        rw [wrap_ok (x := w) (by omega) (by omega), wrap_ok (by omega) (by omega)]
      have r6 : wrap64 (q + 1) = q + 1 := wrap_ok (by omega) (by omega)
      have r7 : wrap64 ((i : Int) + 1) = ((i + 1 : Nat) : Int) := by rw [wrap_ok (by omega) (by omega)]; omega
      by_cases d1 : v ≥ 1099511627776 - pe
      · rw [if_pos (n1 d1)]
        refine Ev.done (fun k => ?_)
        simp only [span_Take.j1]
        rw [if_pos trivial, if_neg c3, if_pos q0, if_pos q1, r1, if_pos d1]
      by_cases d2 : w ≥ 1099511627776 - pe - v
      · rw [if_pos (n2 d2)]
        refine Ev.done (fun k => ?_)
        simp only [span_Take.j1]
        rw [if_pos trivial, if_neg c3, if_pos q0, if_pos q1, r1, if_neg d1, r2 d1, if_pos d2]
      obtain ⟨n7, n8, n9⟩ := n3 d1 d2
      rw [if_neg n7]
      by_cases d3 : x < 1
      · rw [if_pos (n4 d3)]
        refine Ev.done (fun k => ?_)
        simp only [span_Take.j1]
        rw [if_pos trivial, if_neg c3, if_pos q0, if_pos q1, r1, if_neg d1, r2 d1, if_neg d2, hxx, r3, if_pos d3]
      by_cases d4 : x > 3
      · rw [if_pos (n5 d4)]
        refine Ev.done (fun k => ?_)
        simp only [span_Take.j1]
        rw [if_pos trivial, if_neg c3, if_pos q0, if_pos q1, r1, if_neg d1, r2 d1, if_neg d2, hxx, r3, if_neg d3, if_pos d4]
      rw [if_neg (n6 d3 d4)]
      have hrec := ih (i + 1) (q + 1) (out ++ [⟨pe + 1 + v, pe + 1 + v + w, x⟩]) (pe + 1 + v) (pe + 1 + v + w) x hi1 (ho1 _) n8 n9
      by_cases d5 : v = 0
      · by_cases d6 : x = pi
        · rw [if_pos ⟨d5, d6⟩]
          refine Ev.done (fun k => ?_)
          simp only [span_Take.j1]
          rw [if_pos trivial, if_neg c3, if_pos q0, if_pos q1, r1, if_neg d1, r2 d1, if_neg d2, hxx, r3, if_neg d3, if_neg d4, if_pos d5, if_pos d6]
        · rw [if_neg (fun h => d6 h.2)]
          refine Ev.step (fun k => ?_) hrec
          simp only [span_Take.j1]
          rw [if_pos trivial, if_neg c3, if_pos q0, if_pos q1, r1, if_neg d1, r2 d1, if_neg d2, hxx, r3, if_neg d3, if_neg d4, if_pos d5, if_neg d6, if_pos hroom, r4 d1, r5 d1 d2, r6, r7]
      · rw [if_neg (fun h => d5 h.1)]
        refine Ev.step (fun k => ?_) hrec
        simp only [span_Take.j1]
        rw [if_pos trivial, if_neg c3, if_pos q0, if_pos q1, r1, if_neg d1, r2 d1, if_neg d2, hxx, r3, if_neg d3, if_neg d4, if_neg d5, if_pos hroom, r4 d1, r5 d1 d2, r6, r7]
    exact key
theorem Take_ref_l {b : List Int} (hb : Bytes b) (hlen : b.length ≤ 9223372036854775000) (c : Int) (hc : c ≤ 256) (hc0 : 0 ≤ c) : ∀ (m i : Nat) (pos : Int) (out : List Sp) (pe pi : Int), (i : Int) + m = c → out.length = i → 0 ≤ pe → pe ≤ 1099511627776 → (i = 0 → pi = 0) → (0 < i → (rd_T43 out ((i - 1 : Nat) : Int)).f2 = pi) →
    Ev (fun k => grapevineref08_Take.l0 k b c pos out pe (i : Int)) (takeS m b pos out pe pi) := by
  intro m
  have hcw : wrap64 c = c := wrap_ok (by omega) (by omega)
  induction m with
  | zero =>
    intro i pos out pe pi hi ho hp hp' hpi0 hpi
    refine Ev.done (fun k => ?_)
    simp only [grapevineref08_Take.l0]
    rw [hcw, if_neg (by omega)]
    rfl
  | succ m ih =>
    intro i pos out pe pi hi ho hp hp' hpi0 hpi
    obtain ⟨A1, A2⟩ := takeU_ok hb pos
    have EA := (Oct.TakeUint_ev hb hlen pos).2
    apply Oct.Ev.succ
    simp only [grapevineref08_Take.l0, hcw, if_pos (show (i : Int) < c by omega)]
    refine Ev.bind EA ?_
    simp only [takeS]
    generalize takeU b pos = a at A1 A2
    obtain ⟨v, p, e⟩ := a
    simp only at A1 A2 ⊢
    by_cases c1 : e = 0
    case neg =>
      simp only [if_neg c1]
      exact Ev.now _
    simp only [if_pos c1]
    obtain ⟨a1, a2, a3, a4, a5⟩ := A1 c1
    obtain ⟨B1, B2⟩ := takeU_ok hb p
    have EB := (Oct.TakeUint_ev hb hlen p).2
    refine Ev.bind EB ?_
    generalize takeU b p = a at B1 B2
    obtain ⟨w, q, f⟩ := a
    simp only at B1 B2 ⊢
    by_cases c2 : f = 0
    case neg =>
      simp only [if_neg c2]
      exact Ev.now _
    subst c2
    simp only [if_true]
    obtain ⟨b1, b2, b3, b4, b5⟩ := B1 rfl
    by_cases c3 : q ≥ b.length
    · rw [if_pos c3]
      simp only [if_pos (show q = (b.length : Int) by omega)]
      exact Ev.now _
    rw [if_neg c3]
    simp only [if_neg (show ¬ q = (b.length : Int) by omega)]
    have hx := Oct.rd_bytes hb q.toNat (by omega)
    rw [show ((q.toNat : Nat) : Int) = q from by omega] at hx
    generalize hxx : rd b q = x at hx
    have q0 : 0 ≤ q := by omega
    have q1 : q < b.length := by omega
    have hroom : out.length < 5864062014805 := by omega
    have hi1 : ((i + 1 : Nat) : Int) + m = c := by omega
    have ho1 : ∀ s : Sp, (out ++ [s]).length = i + 1 := fun s => by rw [List.length_append, List.length_singleton, ho]
    have hlast : ∀ s : Sp, rd_T43 (out ++ [s]) ((i + 1 - 1 : Nat) : Int) = s := fun s => by rw [Nat.add_sub_cancel, ← ho]; exact rd_last out s
    have n1 : v > 1099511627776 → pe + v + w + 1 > 1099511627776 := fun h => by omega
    have n2 : w > 1099511627776 → pe + v + w + 1 > 1099511627776 := fun h => by omega
    have n3 : pe + 1 + v + w > 1099511627776 → pe + v + w + 1 > 1099511627776 := fun h => by omega
    have n3' : ¬ pe + 1 + v + w > 1099511627776 → ¬ pe + v + w + 1 > 1099511627776 ∧ 0 ≤ pe + 1 + v + w ∧ pe + 1 + v + w ≤ 1099511627776 := fun h => by omega
    have n4 : x < 1 → (x < 1 ∨ x > 3) := fun h => .inl h
    have n5 : x > 3 → (x < 1 ∨ x > 3) := fun h => .inr h
    have n6 : ¬ x < 1 → ¬ x > 3 → ¬ (x < 1 ∨ x > 3) := fun h h' hh => hh.elim h h'
    have s1 : (i : Int) > 0 → (0 : Int) ≤ ((i - 1 : Nat) : Int) ∧ ((i - 1 : Nat) : Int) < (out.length : Int) ∧ 0 < i := fun h => ⟨by omega, by omega, by omega⟩
    have s2 : ¬ (i : Int) > 0 → i = 0 := fun h => by omega
    have s3 : ¬ (i : Int) > 0 → ¬ x < 1 → ¬ x = pi := fun h h' => by have := hpi0 (s2 h); omega
    have r8 : (i : Int) > 0 → wrap64 ((i : Int) - 1) = ((i - 1 : Nat) : Int) := fun h => pred_wrap (by omega) (by omega)
    have r3 : wrap64 x = x := wrap_ok (by omega) (by omega)
    have r4 : ¬ v > 1099511627776 → wrap64 (wrap64 (pe + 1) + wrap64 v) = pe + 1 + v := fun h => by
      rw [wrap_ok (x := pe + 1) (by omega) (by omega), wrap_ok (x := v) (by omega) (by omega), wrap_ok (by omega) (by omega)]
    have r5 : ¬ v > 1099511627776 → ¬ w > 1099511627776 → wrap64 (pe + 1 + v + wrap64 w) = pe + 1 + v + w := fun h h' => by
      rw [wrap_ok (x := w) (by omega) (by omega), wrap_ok (by omega) (by omega)]
    have r6 : wrap64 (q + 1) = q + 1 := wrap_ok (by omega) (by omega)
    have r7 : wrap64 ((i : Int) + 1) = ((i + 1 : Nat) : Int) := by rw [wrap_ok (by omega) (by omega)]; omega
    by_cases d1 : v > 1099511627776
    · rw [if_pos (n1 d1)]
      simp only [if_pos d1]
      refine Ev.done (fun k => ?_)
      simp only [grapevineref08_Take.j1]
      rw [if_pos trivial]
    simp only [if_neg d1]
    by_cases d2 : w > 1099511627776
    · rw [if_pos (n2 d2), decide_eq_true d2]
      refine Ev.done (fun k => ?_)
      simp only [grapevineref08_Take.j1]
      rw [if_pos trivial]
    rw [decide_eq_false d2]
    by_cases d7 : pe + 1 + v + w > 1099511627776
    · rw [if_pos (n3 d7)]
      refine Ev.done (fun k => ?_)
      simp only [grapevineref08_Take.j1]
      rw [if_neg Bool.false_ne_true, if_pos q0, if_pos q1, r4 d1, r5 d1 d2, if_pos d7]
    obtain ⟨n7, n8, n9⟩ := n3' d7
    rw [if_neg n7]
    by_cases d3 : x < 1
    · rw [if_pos (n4 d3)]
      refine Ev.done (fun k => ?_)
      simp only [grapevineref08_Take.j1]
      rw [if_neg Bool.false_ne_true, if_pos q0, if_pos q1, r4 d1, r5 d1 d2, if_neg d7, hxx, r3, if_pos d3]
    by_cases d4 : x > 3
    · rw [if_pos (n5 d4)]
      refine Ev.done (fun k => ?_)
      simp only [grapevineref08_Take.j1]
      rw [if_neg Bool.false_ne_true, if_pos q0, if_pos q1, r4 d1, r5 d1 d2, if_neg d7, hxx, r3, if_neg d3, if_pos d4]
    rw [if_neg (n6 d3 d4)]
    have hrec := ih (i + 1) (q + 1) (out ++ [⟨pe + 1 + v, pe + 1 + v + w, x⟩]) (pe + 1 + v + w) x hi1 (ho1 _) n8 n9 (fun h => by cases h) (fun _ => by rw [hlast])
    by_cases d8 : (i : Int) > 0
    · obtain ⟨t1, t2, t3⟩ := s1 d8
      by_cases d5 : v = 0
      · by_cases d6 : x = pi
        · rw [if_pos ⟨d5, d6⟩]
          refine Ev.done (fun k => ?_)
          simp only [grapevineref08_Take.j1]
          rw [if_neg Bool.false_ne_true, if_pos q0, if_pos q1, r4 d1, r5 d1 d2, if_neg d7, hxx, r3, if_neg d3, if_neg d4, if_pos d8, if_pos d5, r8 d8, if_pos t1, if_pos t2, hpi t3, if_pos d6]
        · rw [if_neg (fun h => d6 h.2)]
          refine Ev.step (fun k => ?_) hrec
          simp only [grapevineref08_Take.j1]
          rw [if_neg Bool.false_ne_true, if_pos q0, if_pos q1, r4 d1, r5 d1 d2, if_neg d7, hxx, r3, if_neg d3, if_neg d4, if_pos d8, if_pos d5, r8 d8, if_pos t1, if_pos t2, hpi t3, if_neg d6, if_pos hroom, r6, r7]
      · rw [if_neg (fun h => d5 h.1)]
        refine Ev.step (fun k => ?_) hrec
        simp only [grapevineref08_Take.j1]
        rw [if_neg Bool.false_ne_true, if_pos q0, if_pos q1, r4 d1, r5 d1 d2, if_neg d7, hxx, r3, if_neg d3, if_neg d4, if_pos d8, if_neg d5, if_pos hroom, r6, r7]
    · rw [if_neg (fun h => s3 d8 d3 h.2)]
      refine Ev.step (fun k => ?_) hrec
      simp only [grapevineref08_Take.j1]
      rw [if_neg Bool.false_ne_true, if_pos q0, if_pos q1, r4 d1, r5 d1 d2, if_neg d7, hxx, r3, if_neg d3, if_neg d4, if_neg d8, if_pos hroom, r6, r7]
/-- What Take comes to. -/
def takeR (b : List Int) (t : Int) : List Sp × Int × Int := if (takeU b t).2.2 = 0 then (if (takeU b t).1 > 256 then ([], 0, 6) else takeS (takeU b t).1.toNat b (takeU b t).2.1 [] 0 0) else ([], 0, (takeU b t).2.2)
theorem Take_ev {b : List Int} (hb : Bytes b) (hlen : b.length ≤ 9223372036854775000) (t : Int) : Ev (fun k => span_Take.f k b t) (takeR b t) ∧ Ev (fun k => grapevineref08_Take.f k b t) (takeR b t) := by
  have hspan : ∀ c p : Int, 0 ≤ c → c ≤ 256 → Ev (fun k => span_Take.l0 k b p ([] : List S43) (wrap64 c) 0 0 0 0) (takeS c.toNat b p [] 0 0) := fun c p h h' => by
    rw [wrap_ok (by omega) (by omega)]
    exact Take_span_l hb hlen c h' c.toNat 0 p [] 0 0 0 (by omega) rfl (by omega) (by omega)
  have href : ∀ c p : Int, 0 ≤ c → c ≤ 256 → Ev (fun k => grapevineref08_Take.l0 k b c p ([] : List S43) 0 0) (takeS c.toNat b p [] 0 0) := fun c p h h' =>
    Take_ref_l hb hlen c h' h c.toNat 0 p [] 0 0 (by omega) rfl (by omega) (by omega) (fun _ => rfl) (fun h => absurd h (Nat.lt_irrefl 0))
  obtain ⟨A1, A2⟩ := takeU_ok hb t
  obtain ⟨E1, E2⟩ := Oct.TakeUint_ev hb hlen t
  unfold takeR
  constructor
  · refine Ev.bind E1 ?_
    generalize takeU b t = a at A1 A2
    obtain ⟨v, p, e⟩ := a
    simp only at A1 A2 ⊢
    by_cases c1 : e = 0
    · simp only [if_pos c1]
      by_cases c2 : v > 256
      · simp only [if_pos c2]; exact Ev.now _
      · simp only [if_neg c2]; exact hspan v p (A1 c1).2.1 (by omega)
    · simp only [if_neg c1]; exact Ev.now _
  · refine Ev.bind E2 ?_
    generalize takeU b t = a at A1 A2
    obtain ⟨v, p, e⟩ := a
    simp only at A1 A2 ⊢
    by_cases c1 : e = 0
    · simp only [if_pos c1]
      by_cases c2 : v > 256
      · simp only [if_pos c2]; exact Ev.now _
      · simp only [if_neg c2]; exact href v p (A1 c1).2.1 (by omega)
    · simp only [if_neg c1]; exact Ev.now _
end Go.Proofs.Ytpeacoppclmmlaa.PP

end

section
set_option linter.unusedSimpArgs false
set_option linter.unusedVariables false
namespace Go.Proofs.Ytpeacoppclmmlaa.PP
open Go.RowKit Go.Proofs.YtpeacoppclmmlaaW.PrintWords Go.Proofs.YtpeacoppclmmlaaW.PrintMore Go.Proofs.Ytpeacoppclmmlaa.Open
open Oct (uint uintN tk takeU Bytes)

/-! ### numbers -/
theorem tk_canon : ∀ {r : List Int} {n : Int} {i : Nat} {p v q : Int}, Bytes r → i ≤ 9 → tk r n i p = (v, q, 0) →
    ∃ w, 0 ≤ w ∧ v = n + w * 128 ^ i ∧ (0 < i → 0 < w) ∧ r.take (q - p).toNat = uintN (9 - i) w := by
  intro r
  induction r with
  | nil => intro n i p v q _ _ h; simp [tk] at h
  | cons x r ih =>
    intro n i p v q hb hi h
    have hx := hb x (by simp)
    have hb' : Bytes r := fun y hy => hb y (by simp [hy])
    simp only [tk] at h
    by_cases c9 : i = 9 ∧ x > 1
    · rw [if_pos c9] at h; simp at h
    rw [if_neg c9] at h
    by_cases c : x ≥ 128
    · rw [if_pos c] at h
      have hi8 : i ≤ 8 := by
        rcases Nat.lt_or_ge i 9 with h | h
        · omega
        · exact absurd ⟨by omega, by omega⟩ c9
      obtain ⟨w, w0, w1, w2, w3⟩ := ih hb' (show i + 1 ≤ 9 by omega) h
      have w4 := w2 (by omega)
      have hq : p + 1 < q := by
        have : 0 < (uintN (9 - (i + 1)) w).length := (Oct.uintN_length _ _).2
        rw [← w3, List.length_take] at this
        omega
      refine ⟨x % 128 + 128 * w, by omega, ?_, fun _ => by omega, ?_⟩
      · rw [w1, Int.pow_succ, Int.add_mul, Int.mul_assoc, Int.mul_comm (128 : Int) (w * 128 ^ i), Int.mul_assoc, Int.add_assoc]
      · rw [show (q - p).toNat = (q - (p + 1)).toNat + 1 from by omega, List.take_succ_cons, w3, show 9 - i = (9 - (i + 1)) + 1 from by omega]
        simp only [uintN]
        rw [if_pos (by omega), show (x % 128 + 128 * w) % 128 + 128 = x from by omega, show (x % 128 + 128 * w) / 128 = w from by omega]
    · rw [if_neg c] at h
      by_cases cz : x = 0 ∧ i > 0
      · rw [if_pos cz] at h; simp at h
      · rw [if_neg cz] at h
        simp only [Prod.mk.injEq, and_true] at h
        obtain ⟨h1, h2⟩ := h
        subst h1; subst h2
        refine ⟨x % 128, by omega, rfl, fun hh => by omega, ?_⟩
        rw [show (p + 1 - p).toNat = 0 + 1 from by omega, List.take_succ_cons, List.take_zero]
        have e : uintN (9 - i) (x % 128) = [x] := by
          cases 9 - i with
          | zero => simp only [uintN]; rw [show x % 128 % 256 = x from by omega]
          | succ j => simp only [uintN]; rw [if_neg (by omega), show x % 128 % 256 = x from by omega]
        rw [e]
theorem takeU_canon {b : List Int} (hb : Bytes b) {t v q : Int} (h : takeU b t = (v, q, 0)) : (b.drop t.toNat).take (q - t).toNat = uint v := by
  unfold takeU at h
  by_cases c : t < 0 ∨ t > b.length
  · rw [if_pos c] at h; simp at h
  · rw [if_neg c] at h
    obtain ⟨w, w0, w1, w2, w3⟩ := tk_canon (Oct.bytes_drop hb t.toNat) (by omega) h
    rw [w3, w1]
    simp [uint]
/-! ### maps -/
theorem takeS_canon {b : List Int} (hb : Bytes b) : ∀ (m : Nat) (pos : Int) (out : List Sp) (pe pi : Int) (r : List Sp) (q : Int), 0 ≤ pos → pos ≤ b.length → rightB 0 0 out = true → pe = lastE 0 out → pi = lastI 0 out → takeS m b pos out pe pi = (r, q, 0) →
    rightB 0 0 r = true ∧ r.length = out.length + m ∧ pos ≤ q ∧ q ≤ b.length ∧ ∃ l, r = out ++ l ∧ (b.drop pos.toNat).take (q - pos).toNat = putL pe l := by
  intro m
  induction m with
  | zero =>
    intro pos out pe pi r q h0 h1 hr hpe hpi h
    simp only [takeS, Prod.mk.injEq, and_true] at h
    obtain ⟨rfl, rfl⟩ := h
    exact ⟨hr, rfl, Int.le_refl _, h1, [], by simp, by simp [putL]⟩
  | succ m ih =>
    intro pos out pe pi r q h0 h1 hr hpe hpi h
    obtain ⟨A1, A2⟩ := takeU_ok hb pos
    simp only [takeS] at h
    have hA := fun v q => takeU_canon hb (t := pos) (v := v) (q := q)
    generalize takeU b pos = a at A1 A2 h hA
    obtain ⟨v, p, e⟩ := a
    simp only at A1 A2 h
    by_cases c1 : e = 0
    case neg => rw [if_neg c1] at h; simp only [Prod.mk.injEq] at h; exact absurd h.2.2 c1
    subst c1
    simp only [if_true] at h
    obtain ⟨a1, a2, a3, a4, a5⟩ := A1 rfl
    have hA := hA v p rfl
    obtain ⟨B1, B2⟩ := takeU_ok hb p
    have hB := fun v q => takeU_canon hb (t := p) (v := v) (q := q)
    generalize takeU b p = a at B1 B2 h hB
    obtain ⟨w, p2, f⟩ := a
    simp only at B1 B2 h
    by_cases c2 : f = 0
    case neg => rw [if_neg c2] at h; simp only [Prod.mk.injEq] at h; exact absurd h.2.2 c2
    subst c2
    simp only [if_true] at h
    obtain ⟨b1, b2, b3, b4, b5⟩ := B1 rfl
    have hB := hB w p2 rfl
    by_cases c3 : p2 ≥ b.length
    · rw [if_pos c3] at h; simp at h
    rw [if_neg c3] at h
    by_cases c4 : pe + v + w + 1 > 1099511627776
    · rw [if_pos c4] at h; simp at h
    rw [if_neg c4] at h
    by_cases c5 : rd b p2 < 1 ∨ rd b p2 > 3
    · rw [if_pos c5] at h; simp at h
    rw [if_neg c5] at h
    by_cases c6 : v = 0 ∧ rd b p2 = pi
    · rw [if_pos c6] at h; simp at h
    rw [if_neg c6] at h
    have hpe0 := (lastE_ge hr).1
    have hrd := Oct.rd_drop b p2.toNat (by omega)
    rw [show ((p2.toNat : Nat) : Int) = p2 from by omega] at hrd
    generalize hx : rd b p2 = x at *
    have hr2 : rightB 0 0 (out ++ [⟨pe + 1 + v, pe + 1 + v + w, x⟩]) = true := (right_snoc _ _ _ _).2 ⟨hr, okS_iff.2 (by simp only; rw [← hpe, ← hpi]; omega)⟩
    obtain ⟨i1, i2, i3, i4, l, i5, i6⟩ := ih (p2 + 1) _ _ _ r q (by omega) (by omega) hr2 (by rw [lastE_snoc]) (by rw [lastI_snoc]) h
    refine ⟨i1, by rw [i2, List.length_append, List.length_singleton]; omega, by omega, i4, ⟨pe + 1 + v, pe + 1 + v + w, x⟩ :: l, by rw [i5]; simp, ?_⟩
    simp only [putL]
    rw [← i6, show pe + 1 + v - pe - 1 = v from by omega, show pe + 1 + v + w - (pe + 1 + v) = w from by omega, ← hA, ← hB, show x % 256 = x from by omega]
    have g1 : (q - pos).toNat = (p - pos).toNat + ((p2 - p).toNat + (1 + (q - (p2 + 1)).toNat)) := by omega
    rw [g1, List.take_add, List.drop_drop, show pos.toNat + (p - pos).toNat = p.toNat from by omega, List.take_add, List.drop_drop, show p.toNat + (p2 - p).toNat = p2.toNat from by omega, List.take_add, List.drop_drop, hrd, show (p2 + 1).toNat = p2.toNat + 1 from by omega]
    simp
end Go.Proofs.Ytpeacoppclmmlaa.PP

end

section
set_option linter.unusedSimpArgs false
set_option linter.unusedVariables false
namespace Go.Proofs.Ytpeacoppclmmlaa.PP
open Go.RowKit Go.Proofs.YtpeacoppclmmlaaW.PrintWords Go.Proofs.YtpeacoppclmmlaaW.PrintMore Go.Proofs.Ytpeacoppclmmlaa.Open
open Oct (uint uintN tk takeU Bytes)

theorem Ev.lift {α : Type} {g : Nat → Option α} {r s : α} (h : Ev g r) (e : r = s) : Ev g s := e ▸ h
abbrev PRes := Int × Int × Int × Int × Int × Int × List Sp × List It × Int
def zerosE (e : Int) : PRes := (0, 0, 0, 0, 0, 0, [], [], e)
/-! ### numbers -/
def upS (b : List Int) (t most : Int) : Int × Int × Int := if (takeU b t).2.2 = 0 then (if (takeU b t).1 > most then (0, 0, 6) else ((takeU b t).1, (takeU b t).2.1, 0)) else (0, 0, (takeU b t).2.2)
section
variable {b : List Int} (hb : Bytes b) (hlen : b.length ≤ 9223372036854775000)
include hb
theorem upS_ok (t most : Int) (h : (upS b t most).2.2 = 0) : 0 ≤ t ∧ 0 ≤ (upS b t most).1 ∧ (upS b t most).1 ≤ most ∧ t < (upS b t most).2.1 ∧ (upS b t most).2.1 ≤ b.length := by
  have hk := (takeU_ok hb t).1
  unfold upS at h ⊢
  by_cases h0 : (takeU b t).2.2 = 0
  · rw [if_pos h0] at h ⊢
    by_cases h1 : (takeU b t).1 > most
    · rw [if_pos h1] at h; exact absurd h (by simp)
    · rw [if_neg h1]
      have := hk h0
      exact ⟨this.1, this.2.1, by show (takeU b t).1 ≤ most; omega, this.2.2.2.1, this.2.2.2.2⟩
  · rw [if_neg h0] at h; exact absurd h h0
include hlen
/-- The taker's number: as upS where that is no error; else its error. -/
theorem PNum_ev (t most : Int) (hm : most ≤ 9223372036854775807) : ∃ x : Int × Int × Int, Ev (fun k => parcel_taker_num.f k b t 0 most) x ∧ x.2.2 = (upS b t most).2.2 ∧ ((upS b t most).2.2 = 0 → x = upS b t most) ∧ ((upS b t most).2.2 ≠ 0 → x.1 = 0) := by
  unfold parcel_taker_num.f upS
  have hk := (takeU_ok hb t).1
  have E := (Oct.TakeUint_ev hb hlen t).1
  generalize takeU b t = a at hk E
  obtain ⟨v, p, e⟩ := a
  dsimp only at hk ⊢
  by_cases h0 : e = 0
  · have hv := hk h0
    by_cases h1 : v > most
    · refine ⟨(0, p, 6), Ev.congr (fun k => if_pos rfl) (Ev.bind E (Ev.congr (fun k => (if_pos h0).trans (if_pos h1)) (Ev.now _))), ?_, ?_, fun _ => rfl⟩
      · rw [if_pos h0, if_pos h1]
      · intro h; rw [if_pos h0, if_pos h1] at h; exact absurd h (by decide)
    · refine ⟨(v, p, 0), Ev.congr (fun k => if_pos rfl) (Ev.bind E (Ev.congr (fun k => ?_) (Ev.now _))), ?_, ?_, ?_⟩
      · rw [if_pos h0, if_neg h1, wrap_ok (by omega) (by omega)]
      · rw [if_pos h0, if_neg h1]
      · intro _; rw [if_pos h0, if_neg h1]
      · intro h; rw [if_pos h0, if_neg h1] at h; exact absurd rfl h
  · refine ⟨(0, p, e), Ev.congr (fun k => if_pos rfl) (Ev.bind E (Ev.congr (fun k => if_neg h0) (Ev.now _))), ?_, ?_, fun _ => rfl⟩
    · rw [if_neg h0]
    · intro h; rw [if_neg h0] at h; exact absurd h h0
end
theorem PNum_err (b : List Int) (t e most : Int) (he : e ≠ 0) : ∀ k, parcel_taker_num.f k b t e most = some (0, t, e) := fun k => by
  unfold parcel_taker_num.f
  exact if_neg he
/-! ### an item -/
def itS (b : List Int) (t : Int) : Int × Int × List Int × Int × Int :=
  if (upS b t 1099511627776).2.2 = 0 then
    (if (upS b (upS b t 1099511627776).2.1 4294967295).2.2 = 0 then
      (if (upS b (upS b (upS b t 1099511627776).2.1 4294967295).2.1 400).2.2 = 0 then
        (if (b.length : Int) - (upS b (upS b (upS b t 1099511627776).2.1 4294967295).2.1 400).2.1 < (upS b (upS b (upS b t 1099511627776).2.1 4294967295).2.1 400).1 then (0, 0, [], 0, 3)
         else ((upS b t 1099511627776).1, (upS b (upS b t 1099511627776).2.1 4294967295).1, (b.take ((upS b (upS b (upS b t 1099511627776).2.1 4294967295).2.1 400).2.1 + (upS b (upS b (upS b t 1099511627776).2.1 4294967295).2.1 400).1).toNat).drop (upS b (upS b (upS b t 1099511627776).2.1 4294967295).2.1 400).2.1.toNat, (upS b (upS b (upS b t 1099511627776).2.1 4294967295).2.1 400).2.1 + (upS b (upS b (upS b t 1099511627776).2.1 4294967295).2.1 400).1, 0))
      else (0, 0, [], 0, (upS b (upS b (upS b t 1099511627776).2.1 4294967295).2.1 400).2.2))
    else (0, 0, [], 0, (upS b (upS b t 1099511627776).2.1 4294967295).2.2))
  else (0, 0, [], 0, (upS b t 1099511627776).2.2)
section
variable {b : List Int} (hb : Bytes b) (hlen : b.length ≤ 9223372036854775000)
include hb
theorem itS_ok (t : Int) (h : (itS b t).2.2.2.2 = 0) : 0 ≤ t ∧ t < (itS b t).2.2.2.1 ∧ (itS b t).2.2.2.1 ≤ b.length ∧ (itS b t).2.2.1.length ≤ 400 := by
  unfold itS at h ⊢
  by_cases h1 : (upS b t 1099511627776).2.2 = 0
  · have o1 := upS_ok hb _ _ h1
    rw [if_pos h1] at h ⊢
    generalize upS b t 1099511627776 = a at h o1 ⊢
    by_cases h2 : (upS b a.2.1 4294967295).2.2 = 0
    · have o2 := upS_ok hb _ _ h2
      rw [if_pos h2] at h ⊢
      generalize upS b a.2.1 4294967295 = c at h o2 ⊢
      by_cases h3 : (upS b c.2.1 400).2.2 = 0
      · have o3 := upS_ok hb _ _ h3
        rw [if_pos h3] at h ⊢
        generalize upS b c.2.1 400 = d at h o3 ⊢
        by_cases h4 : (b.length : Int) - d.2.1 < d.1
        · rw [if_pos h4] at h; exact absurd h (by simp)
        · rw [if_neg h4]
          refine ⟨o1.1, by show t < d.2.1 + d.1; omega, by show d.2.1 + d.1 ≤ (b.length : Int); omega, ?_⟩
          show ((b.take (d.2.1 + d.1).toNat).drop d.2.1.toNat).length ≤ 400
          rw [List.length_drop, List.length_take]
          omega
      · rw [if_neg h3] at h; exact absurd h h3
    · rw [if_neg h2] at h; exact absurd h h2
  · rw [if_neg h1] at h; exact absurd h h1
include hlen
theorem PItem_ev (t : Int) : ∃ x, Ev (fun k => parcel_taker_item.f k b t 0) x ∧ x.2.2.2.2 = (itS b t).2.2.2.2 ∧ ((itS b t).2.2.2.2 = 0 → x = itS b t) := by
  unfold parcel_taker_item.f itS
  obtain ⟨a, E1, a1, a2, _⟩ := PNum_ev hb hlen t 1099511627776 (by decide)
  by_cases h1 : (upS b t 1099511627776).2.2 = 0
  case neg =>
    rw [if_neg h1]
    refine ⟨_, Ev.bind E1 (Ev.bind (Ev.congr (PNum_err b a.2.1 a.2.2 4294967295 (by rw [a1]; exact h1)) (Ev.now _)) (Ev.bind (Ev.congr (PNum_err b _ _ 400 (by show a.2.2 ≠ 0; rw [a1]; exact h1)) (Ev.now _)) (Ev.congr (fun k => if_neg (show ¬ a.2.2 = 0 by rw [a1]; exact h1)) (Ev.now _)))), a1, fun h => absurd h h1⟩
  rw [if_pos h1]
  have o1 := upS_ok hb _ _ h1
  obtain rfl := a2 h1
  generalize upS b t 1099511627776 = a at *
  obtain ⟨c, E2, c1, c2, _⟩ := PNum_ev hb hlen a.2.1 4294967295 (by decide)
  by_cases h2 : (upS b a.2.1 4294967295).2.2 = 0
  case neg =>
    rw [if_neg h2]
    refine ⟨_, Ev.bind E1 (Ev.bind (Ev.congr (fun k => by rw [h1]) E2) (Ev.bind (Ev.congr (PNum_err b _ _ 400 (by rw [c1]; exact h2)) (Ev.now _)) (Ev.congr (fun k => if_neg (show ¬ c.2.2 = 0 by rw [c1]; exact h2)) (Ev.now _)))), c1, fun h => absurd h h2⟩
  rw [if_pos h2]
  have o2 := upS_ok hb _ _ h2
  obtain rfl := c2 h2
  generalize upS b a.2.1 4294967295 = c at *
  obtain ⟨d, E3, d1, d2, _⟩ := PNum_ev hb hlen c.2.1 400 (by decide)
  by_cases h3 : (upS b c.2.1 400).2.2 = 0
  case neg =>
    rw [if_neg h3]
    refine ⟨_, Ev.bind E1 (Ev.bind (Ev.congr (fun k => by rw [h1]) E2) (Ev.bind (Ev.congr (fun k => by rw [h2]) E3) (Ev.congr (fun k => if_neg (show ¬ d.2.2 = 0 by rw [d1]; exact h3)) (Ev.now _)))), d1, fun h => absurd h h3⟩
  rw [if_pos h3]
  have o3 := upS_ok hb _ _ h3
  obtain rfl := d2 h3
  generalize upS b c.2.1 400 = d at *
  have e1 : wrap64 ((b.length : Int) - d.2.1) = (b.length : Int) - d.2.1 := wrap_ok (by omega) (by omega)
  by_cases h4 : (b.length : Int) - d.2.1 < d.1
  · rw [if_pos h4]
    refine ⟨_, Ev.bind E1 (Ev.bind (Ev.congr (fun k => by rw [h1]) E2) (Ev.bind (Ev.congr (fun k => by rw [h2]) E3) (Ev.congr (fun k => (if_pos h3).trans (if_pos (show d.1 > wrap64 ((b.length : Int) - d.2.1) by rw [e1]; omega))) (Ev.now _)))), rfl, fun h => absurd h (by simp)⟩
  · rw [if_neg h4]
    have e2 : wrap64 (d.2.1 + d.1) = d.2.1 + d.1 := wrap_ok (by omega) (by omega)
    have e3 : c.1 % 4294967296 = c.1 := by omega
    have e4 : ((b.take (d.2.1 + d.1).toNat).drop d.2.1.toNat).length < 140737488355328 := by rw [List.length_drop, List.length_take]; omega
    refine ⟨_, Ev.bind E1 (Ev.bind (Ev.congr (fun k => by rw [h1]) E2) (Ev.bind (Ev.congr (fun k => by rw [h2]) E3) (Ev.congr (fun k => ?_) (Ev.now (a.1, c.1, (b.take (d.2.1 + d.1).toNat).drop d.2.1.toNat, d.2.1 + d.1, 0))))), rfl, fun _ => rfl⟩
    rw [if_pos h3, if_neg (by rw [e1]; omega), if_pos (by omega), e2, if_pos (by omega), if_pos (by omega)]
    unfold slices_Clone_byte_byte.f
    rw [if_pos e4, Option.bind_some, e3]
end
theorem PItem_err (b : List Int) (t e : Int) (he : e ≠ 0) : ∀ k, parcel_taker_item.f k b t e = some (0, 0, [], t, e) := fun k => by
  unfold parcel_taker_item.f
  rw [PNum_err b t e _ he, Option.bind_some, PNum_err b t e _ he, Option.bind_some, PNum_err b t e _ he, Option.bind_some]
  simp only
  rw [if_neg he]
  rfl
/-! ### the items -/
def itsS (b : List Int) : Nat → Int → List It → List It × Int × Int
  | 0, t, acc => (acc, t, 0)
  | n + 1, t, acc => if (itS b t).2.2.2.2 = 0 then itsS b n (itS b t).2.2.2.1 (acc ++ [⟨(itS b t).1, (itS b t).2.1, (itS b t).2.2.1⟩]) else ([], 0, (itS b t).2.2.2.2)
theorem PIts_err (b : List Int) (t e : Int) (he : e ≠ 0) : ∀ (n : Nat) (acc : List It), acc.length + n < 3518437208883 → ∃ x : List It × Int × Int, Ev (fun k => parcel_Take.its k b n acc t e) x ∧ x.2.2 = e
  | 0, acc, _ => ⟨(acc, t, e), Ev.congr (fun k => rfl) (Ev.now _), rfl⟩
  | n + 1, acc, h => by
    obtain ⟨x, E, hx⟩ := PIts_err b t e he n (acc ++ [⟨0, 0, []⟩]) (by rw [List.length_append, List.length_singleton]; omega)
    refine ⟨x, Ev.congr (fun k => ?_) E, hx⟩
    simp only [parcel_Take.its]
    rw [PItem_err b t e he, Option.bind_some, if_pos (by omega)]
section
variable {b : List Int} (hb : Bytes b) (hlen : b.length ≤ 9223372036854775000)
include hb
theorem itsS_ok : ∀ (n : Nat) (t : Int) (acc : List It), 0 ≤ t → t ≤ b.length → small acc → (itsS b n t acc).2.2 = 0 → 0 ≤ (itsS b n t acc).2.1 ∧ (itsS b n t acc).2.1 ≤ b.length ∧ (itsS b n t acc).1.length = acc.length + n ∧ small (itsS b n t acc).1
  | 0, t, acc, h0, h1, h2, _ => ⟨h0, h1, rfl, h2⟩
  | n + 1, t, acc, h0, h1, h2, h => by
    simp only [itsS] at h ⊢
    by_cases hi : (itS b t).2.2.2.2 = 0
    · rw [if_pos hi] at h ⊢
      have o := itS_ok hb t hi
      obtain ⟨a1, a2, a3, a4⟩ := itsS_ok n _ _ (by omega) o.2.2.1 (fun x hx => by
        rcases List.mem_append.1 hx with hx | hx
        · exact h2 x hx
        · rw [List.mem_singleton] at hx; subst hx; exact o.2.2.2) h
      refine ⟨a1, a2, ?_, a4⟩
      rw [a3, List.length_append, List.length_singleton]
      omega
    · rw [if_neg hi] at h; exact absurd h hi
include hlen
theorem PIts_ev : ∀ (n : Nat) (t : Int) (acc : List It), acc.length + n < 3518437208883 → ∃ x, Ev (fun k => parcel_Take.its k b n acc t 0) x ∧ x.2.2 = (itsS b n t acc).2.2 ∧ ((itsS b n t acc).2.2 = 0 → x = itsS b n t acc)
  | 0, t, acc, _ => ⟨(acc, t, 0), Ev.congr (fun k => rfl) (Ev.now _), rfl, fun _ => rfl⟩
  | n + 1, t, acc, h => by
    obtain ⟨y, E, y1, y2⟩ := PItem_ev hb hlen t
    simp only [itsS]
    by_cases hi : (itS b t).2.2.2.2 = 0
    · rw [if_pos hi]
      obtain rfl := y2 hi
      obtain ⟨x, Ex, x1, x2⟩ := PIts_ev n (itS b t).2.2.2.1 (acc ++ [⟨(itS b t).1, (itS b t).2.1, (itS b t).2.2.1⟩]) (by rw [List.length_append, List.length_singleton]; omega)
      refine ⟨x, ?_, x1, x2⟩
      simp only [parcel_Take.its]
      refine Ev.bind E (Ev.congr (fun k => ?_) Ex)
      rw [if_pos (by omega), hi]
    · rw [if_neg hi]
      obtain ⟨x, Ex, x1⟩ := PIts_err b y.2.2.2.1 y.2.2.2.2 (by rw [y1]; exact hi) n (acc ++ [⟨y.1, y.2.1, y.2.2.1⟩]) (by rw [List.length_append, List.length_singleton]; omega)
      refine ⟨x, ?_, x1.trans y1, fun h => absurd h hi⟩
      simp only [parcel_Take.its]
      exact Ev.bind E (Ev.congr (fun k => if_pos (by omega)) Ex)
end
/-! ### the fields -/
def numsS (b : List Int) : Nat → Int → List Int × Int × Int
  | 0, t => ([], t, 0)
  | n + 1, t => if (upS b t 1099511627776).2.2 = 0 then (if (numsS b n (upS b t 1099511627776).2.1).2.2 = 0 then ((upS b t 1099511627776).1 :: (numsS b n (upS b t 1099511627776).2.1).1, (numsS b n (upS b t 1099511627776).2.1).2.1, 0) else ([], 0, (numsS b n (upS b t 1099511627776).2.1).2.2)) else ([], 0, (upS b t 1099511627776).2.2)
abbrev F5 := Int × Int × Int × Int × Int
def asg : List Nat → List Int → F5 → F5
  | j :: js, v :: vs, p => asg js vs (if j = 1 then v else p.1, if j = 2 then v else p.2.1, if j = 3 then v else p.2.2.1, if j = 4 then v else p.2.2.2.1, if j = 5 then v else p.2.2.2.2)
  | _, _, p => p
theorem PFl_err (b : List Int) (t e : Int) (he : e ≠ 0) : ∀ (js : List Nat) (p1 p2 p3 p4 p5 : Int), ∃ x : Int × Int × Int × Int × Int × Int × Int, (∀ k, parcel_Take.fl k b js p1 p2 p3 p4 p5 t e = some x) ∧ x.2.2.2.2.2.2 = e
  | [], p1, p2, p3, p4, p5 => ⟨(p1, p2, p3, p4, p5, t, e), fun k => rfl, rfl⟩
  | j :: js, p1, p2, p3, p4, p5 => by
    obtain ⟨x, E, hx⟩ := PFl_err b t e he js (if j = 1 then 0 else p1) (if j = 2 then 0 else p2) (if j = 3 then 0 else p3) (if j = 4 then 0 else p4) (if j = 5 then 0 else p5)
    refine ⟨x, fun k => ?_, hx⟩
    simp only [parcel_Take.fl]
    rw [PNum_err b t e _ he, Option.bind_some]
    exact E k
section
variable {b : List Int} (hb : Bytes b) (hlen : b.length ≤ 9223372036854775000)
include hb
theorem numsS_ok : ∀ (n : Nat) (t : Int), 0 ≤ t → t ≤ b.length → (numsS b n t).2.2 = 0 → 0 ≤ (numsS b n t).2.1 ∧ (numsS b n t).2.1 ≤ b.length ∧ (numsS b n t).1.length = n ∧ (∀ v ∈ (numsS b n t).1, 0 ≤ v ∧ v ≤ 1099511627776)
  | 0, t, h0, h1, _ => ⟨h0, h1, rfl, fun v hv => by cases hv⟩
  | n + 1, t, h0, h1, h => by
    simp only [numsS] at h ⊢
    by_cases hu : (upS b t 1099511627776).2.2 = 0
    · have o := upS_ok hb _ _ hu
      rw [if_pos hu] at h ⊢
      by_cases hn : (numsS b n (upS b t 1099511627776).2.1).2.2 = 0
      · rw [if_pos hn]
        obtain ⟨a1, a2, a3, a4⟩ := numsS_ok n _ (by omega) o.2.2.2.2 hn
        refine ⟨a1, a2, by show (_ :: _).length = n + 1; rw [List.length_cons, a3], fun v hv => ?_⟩
        rcases List.mem_cons.1 hv with rfl | hv
        · exact ⟨o.2.1, o.2.2.1⟩
        · exact a4 v hv
      · rw [if_neg hn] at h; exact absurd h hn
    · rw [if_neg hu] at h; exact absurd h hu
include hlen
theorem PFl_ev : ∀ (js : List Nat) (t p1 p2 p3 p4 p5 : Int), ∃ x : Int × Int × Int × Int × Int × Int × Int, Ev (fun k => parcel_Take.fl k b js p1 p2 p3 p4 p5 t 0) x ∧ x.2.2.2.2.2.2 = (numsS b js.length t).2.2 ∧
      ((numsS b js.length t).2.2 = 0 → x.2.2.2.2.2.1 = (numsS b js.length t).2.1 ∧ (x.1, x.2.1, x.2.2.1, x.2.2.2.1, x.2.2.2.2.1) = asg js (numsS b js.length t).1 (p1, p2, p3, p4, p5))
  | [], t, p1, p2, p3, p4, p5 => ⟨(p1, p2, p3, p4, p5, t, 0), Ev.congr (fun k => rfl) (Ev.now _), rfl, fun _ => ⟨rfl, rfl⟩⟩
  | j :: js, t, p1, p2, p3, p4, p5 => by
    obtain ⟨a, E, a1, a2, _⟩ := PNum_ev hb hlen t 1099511627776 (by decide)
    simp only [List.length_cons, numsS]
    by_cases hu : (upS b t 1099511627776).2.2 = 0
    · rw [if_pos hu]
      obtain rfl := a2 hu
      generalize upS b t 1099511627776 = a at *
      obtain ⟨x, Ex, x1, x2⟩ := PFl_ev js a.2.1 (if j = 1 then a.1 else p1) (if j = 2 then a.1 else p2) (if j = 3 then a.1 else p3) (if j = 4 then a.1 else p4) (if j = 5 then a.1 else p5)
      refine ⟨x, ?_, ?_, ?_⟩
      · simp only [parcel_Take.fl]
        exact Ev.bind E (Ev.congr (fun k => by rw [hu]) Ex)
      · by_cases hn : (numsS b js.length a.2.1).2.2 = 0
        · rw [if_pos hn, x1, hn]
        · rw [if_neg hn, x1]
      · by_cases hn : (numsS b js.length a.2.1).2.2 = 0
        · intro _
          obtain ⟨y1, y2⟩ := x2 hn
          rw [if_pos hn]
          exact ⟨y1, y2⟩
        · intro h; rw [if_neg hn] at h; exact absurd h hn
    · rw [if_neg hu]
      obtain ⟨x, Ex, x1⟩ := PFl_err b a.2.1 a.2.2 (by rw [a1]; exact hu) js (if j = 1 then a.1 else p1) (if j = 2 then a.1 else p2) (if j = 3 then a.1 else p3) (if j = 4 then a.1 else p4) (if j = 5 then a.1 else p5)
      refine ⟨x, ?_, x1.trans a1, fun h => absurd h hu⟩
      simp only [parcel_Take.fl]
      exact Ev.bind E (Ev.congr Ex (Ev.now _))
end
end Go.Proofs.Ytpeacoppclmmlaa.PP

end

section
set_option linter.unusedSimpArgs false
set_option linter.unusedVariables false
set_option linter.unusedSectionVars false
namespace Go.Proofs.Ytpeacoppclmmlaa.PP
open Go.RowKit Go.Proofs.YtpeacoppclmmlaaW.PrintWords Go.Proofs.YtpeacoppclmmlaaW.PrintMore Go.Proofs.Ytpeacoppclmmlaa.Open
open Oct (uint uintN tk takeU Bytes)

def midS (b : List Int) (kd t : Int) : List Sp × List It × Int × Int :=
  if kd = 1 then
    (if (takeR b t).2.2 = 0 then
      (if (upS b (takeR b t).2.1 8).2.2 = 0 then
        (if (itsS b (upS b (takeR b t).2.1 8).1.toNat (upS b (takeR b t).2.1 8).2.1 []).2.2 = 0 then ((takeR b t).1, (itsS b (upS b (takeR b t).2.1 8).1.toNat (upS b (takeR b t).2.1 8).2.1 []).1, (itsS b (upS b (takeR b t).2.1 8).1.toNat (upS b (takeR b t).2.1 8).2.1 []).2.1, 0)
         else ([], [], 0, (itsS b (upS b (takeR b t).2.1 8).1.toNat (upS b (takeR b t).2.1 8).2.1 []).2.2))
      else ([], [], 0, (upS b (takeR b t).2.1 8).2.2))
    else ([], [], 0, (takeR b t).2.2))
  else ([], [], t, 0)
def finS (b : List Int) (kd : Int) (p : F5) (t : Int) (sp : List Sp) (it : List It) : PRes :=
  if t = (b.length : Int) then (if chk kd p.1 p.2.1 p.2.2.1 p.2.2.2.1 p.2.2.2.2 sp it = 0 then (kd, p.1, p.2.1, p.2.2.1, p.2.2.2.1, p.2.2.2.2, sp, it, 0) else zerosE (chk kd p.1 p.2.1 p.2.2.1 p.2.2.2.1 p.2.2.2.2 sp it)) else zerosE 4
def restS (b : List Int) (kd : Int) (p : F5) (t : Int) : PRes := if (midS b kd t).2.2.2 = 0 then finS b kd p (midS b kd t).2.2.1 (midS b kd t).1 (midS b kd t).2.1 else zerosE (midS b kd t).2.2.2
def takeP (b : List Int) : PRes :=
  if (b.length : Int) = 0 then zerosE 3 else if wrap64 (rd b 0) < 1 ∨ wrap64 (rd b 0) > 6 then zerosE 12
  else if (numsS b (flds (wrap64 (rd b 0))).length 1).2.2 = 0 then restS b (wrap64 (rd b 0)) (asg (flds (wrap64 (rd b 0))) (numsS b (flds (wrap64 (rd b 0))).length 1).1 (0, 0, 0, 0, 0)) (numsS b (flds (wrap64 (rd b 0))).length 1).2.1
  else zerosE (numsS b (flds (wrap64 (rd b 0))).length 1).2.2
theorem takeS_next {b : List Int} (hb : Bytes b) : ∀ (m : Nat) (pos : Int) (out : List Sp) (pe pi : Int), 0 ≤ pos → pos ≤ b.length → (takeS m b pos out pe pi).2.2 = 0 → 0 ≤ (takeS m b pos out pe pi).2.1 ∧ (takeS m b pos out pe pi).2.1 ≤ b.length
  | 0, pos, out, pe, pi, h0, h1, _ => ⟨h0, h1⟩
  | m + 1, pos, out, pe, pi, h0, h1, h => by
    simp only [takeS] at h ⊢
    by_cases c1 : (takeU b pos).2.2 = 0
    case neg => rw [if_neg c1] at h; exact absurd h c1
    rw [if_pos c1] at h ⊢
    by_cases c2 : (takeU b (takeU b pos).2.1).2.2 = 0
    case neg => rw [if_neg c2] at h; exact absurd h c2
    have o := (takeU_ok hb (takeU b pos).2.1).1 c2
    rw [if_pos c2] at h ⊢
    by_cases c3 : (takeU b (takeU b pos).2.1).2.1 ≥ b.length
    · rw [if_pos c3] at h; exact absurd h (by decide)
    rw [if_neg c3] at h ⊢
    by_cases c4 : pe + (takeU b pos).1 + (takeU b (takeU b pos).2.1).1 + 1 > 1099511627776
    · rw [if_pos c4] at h; exact absurd h (by decide)
    rw [if_neg c4] at h ⊢
    by_cases c5 : rd b (takeU b (takeU b pos).2.1).2.1 < 1 ∨ rd b (takeU b (takeU b pos).2.1).2.1 > 3
    · rw [if_pos c5] at h; exact absurd h (by decide)
    rw [if_neg c5] at h ⊢
    by_cases c6 : (takeU b pos).1 = 0 ∧ rd b (takeU b (takeU b pos).2.1).2.1 = pi
    · rw [if_pos c6] at h; exact absurd h (by decide)
    rw [if_neg c6] at h ⊢
    exact takeS_next hb m _ _ _ _ (by omega) (by omega) h
theorem takeR_next {b : List Int} (hb : Bytes b) (t : Int) (h : (takeR b t).2.2 = 0) : 0 ≤ t ∧ 0 ≤ (takeR b t).2.1 ∧ (takeR b t).2.1 ≤ b.length := by
  unfold takeR at h ⊢
  by_cases c1 : (takeU b t).2.2 = 0
  case neg => rw [if_neg c1] at h; exact absurd h c1
  have o := (takeU_ok hb t).1 c1
  rw [if_pos c1] at h ⊢
  by_cases c2 : (takeU b t).1 > 256
  · rw [if_pos c2] at h; exact absurd h (by decide)
  rw [if_neg c2] at h ⊢
  exact ⟨o.1, takeS_next hb _ _ _ _ _ (by omega) o.2.2.2.2 h⟩
section
variable {b : List Int} (hb : Bytes b) (hlen : b.length ≤ 9223372036854775000)
include hb
theorem midS_ok (kd t : Int) (h0 : 0 ≤ t) (h1 : t ≤ b.length) (h : (midS b kd t).2.2.2 = 0) : 0 ≤ (midS b kd t).2.2.1 ∧ (midS b kd t).2.2.1 ≤ b.length := by
  unfold midS at h ⊢
  by_cases c : kd = 1
  case neg => rw [if_neg c]; exact ⟨h0, h1⟩
  rw [if_pos c] at h ⊢
  by_cases c1 : (takeR b t).2.2 = 0
  case neg => rw [if_neg c1] at h; exact absurd h c1
  rw [if_pos c1] at h ⊢
  by_cases c2 : (upS b (takeR b t).2.1 8).2.2 = 0
  case neg => rw [if_neg c2] at h; exact absurd h c2
  have o := upS_ok hb _ _ c2
  rw [if_pos c2] at h ⊢
  by_cases c3 : (itsS b (upS b (takeR b t).2.1 8).1.toNat (upS b (takeR b t).2.1 8).2.1 []).2.2 = 0
  case neg => rw [if_neg c3] at h; exact absurd h c3
  rw [if_pos c3]
  have := itsS_ok hb _ _ [] (by omega) o.2.2.2.2 (fun x hx => by cases hx) c3
  exact ⟨this.1, this.2.1⟩
include hlen
/-! ### parcel.Take -/
theorem PMid_err (kd t e : Int) (he : e ≠ 0) : ∃ x, Ev (fun k => parcel_Take.mid k b kd t e) x ∧ x.2.2.2 = e := by
  unfold parcel_Take.mid
  by_cases c : kd = 1
  · obtain ⟨x, E, hx⟩ := PIts_err b t e he (0 : Int).toNat [] (by decide)
    refine ⟨_, Ev.congr (fun k => if_pos c) (Ev.bind (Ev.congr (fun k => ?_) (Ev.now ([], t, e))) (Ev.bind (Ev.congr (PNum_err b t e 8 he) (Ev.now _)) (Ev.bind E (Ev.now _)))), hx⟩
    unfold parcel_Take.sps
    rw [if_neg he]
  · exact ⟨_, Ev.congr (fun k => if_neg c) (Ev.now _), rfl⟩
theorem PMid_ev (kd t : Int) : ∃ x, Ev (fun k => parcel_Take.mid k b kd t 0) x ∧ x.2.2.2 = (midS b kd t).2.2.2 ∧ ((midS b kd t).2.2.2 = 0 → x = midS b kd t) := by
  unfold parcel_Take.mid midS
  by_cases c : kd = 1
  case neg => simp only [if_neg c]; exact ⟨_, Ev.now _, rfl, fun _ => rfl⟩
  simp only [if_pos c]
  have ES : Ev (fun k => parcel_Take.sps k b t 0) (takeR b t) := by
    unfold parcel_Take.sps
    exact Ev.congr (fun k => if_pos rfl) (Take_ev hb hlen t).1
  generalize takeR b t = s at ES ⊢
  by_cases c1 : s.2.2 = 0
  case neg =>
    rw [if_neg c1]
    obtain ⟨x, E, hx⟩ := PIts_err b s.2.1 s.2.2 c1 (0 : Int).toNat [] (by decide)
    exact ⟨_, Ev.bind ES (Ev.bind (Ev.congr (PNum_err b s.2.1 s.2.2 8 c1) (Ev.now _)) (Ev.bind E (Ev.now _))), hx, fun h => absurd h c1⟩
  rw [if_pos c1]
  obtain ⟨a, E1, a1, a2, a3⟩ := PNum_ev hb hlen s.2.1 8 (by decide)
  by_cases c2 : (upS b s.2.1 8).2.2 = 0
  case neg =>
    rw [if_neg c2]
    obtain ⟨x, E, hx⟩ := PIts_err b a.2.1 a.2.2 (by rw [a1]; exact c2) a.1.toNat [] (by rw [a3 c2]; decide)
    exact ⟨_, Ev.bind ES (Ev.bind (Ev.congr (fun k => by rw [c1]) E1) (Ev.bind E (Ev.now _))), hx.trans a1, fun h => absurd h c2⟩
  rw [if_pos c2]
  obtain rfl := a2 c2
  have o := upS_ok hb _ _ c2
  generalize upS b s.2.1 8 = a at *
  obtain ⟨x, E, x1, x2⟩ := PIts_ev hb hlen a.1.toNat a.2.1 [] (by rw [List.length_nil]; omega)
  refine ⟨_, Ev.bind ES (Ev.bind (Ev.congr (fun k => by rw [c1]) E1) (Ev.bind (Ev.congr (fun k => by rw [c2]) E) (Ev.now _))), ?_, ?_⟩
  · by_cases c3 : (itsS b a.1.toNat a.2.1 []).2.2 = 0
    · rw [if_pos c3]; exact x1.trans c3
    · rw [if_neg c3]; exact x1
  · by_cases c3 : (itsS b a.1.toNat a.2.1 []).2.2 = 0
    · rw [if_pos c3]; intro _; rw [x2 c3, c3]
    · rw [if_neg c3]; intro h; exact absurd h c3
theorem PFin_err (kd p1 p2 p3 p4 p5 t e : Int) (sp : List Sp) (it : List It) (he : e ≠ 0) : ∀ k, parcel_Take.fin k b kd p1 p2 p3 p4 p5 t e sp it = some (zerosE e) := fun k => by
  unfold parcel_Take.fin zerosE
  exact if_neg he
theorem PFin_ev (kd : Int) (p : F5) (t : Int) (sp : List Sp) (it : List It) (ht : t ≤ b.length) : Ev (fun k => parcel_Take.fin k b kd p.1 p.2.1 p.2.2.1 p.2.2.2.1 p.2.2.2.2 t 0 sp it) (finS b kd p t sp it) := by
  unfold parcel_Take.fin finS
  refine Ev.congr (fun k => if_pos rfl) ?_
  by_cases c : t < (b.length : Int)
  · rw [if_neg (by omega)]
    exact Ev.congr (fun k => if_pos c) (Ev.now _)
  · rw [if_pos (by omega)]
    refine Ev.congr (fun k => if_neg c) (Ev.bind (Check_ev _ _ _ _ _ _ _ _) ?_)
    by_cases c2 : chk kd p.1 p.2.1 p.2.2.1 p.2.2.2.1 p.2.2.2.2 sp it = 0
    · simp only [if_pos c2]; exact Ev.now _
    · simp only [if_neg c2]; exact Ev.now _
theorem PTake_ev : Ev (fun k => parcel_Take.f k b) (takeP b) := by
  unfold parcel_Take.f takeP
  by_cases c0 : (b.length : Int) = 0
  · simp only [if_pos c0]; exact Ev.now _
  simp only [if_neg c0]
  generalize wrap64 (rd b 0) = kd
  by_cases c1 : kd < 1
  · rw [if_pos (Or.inl c1)]; exact Ev.congr (fun k => if_pos c1) (Ev.now _)
  by_cases c2 : kd > 6
  · rw [if_pos (Or.inr c2)]; exact Ev.congr (fun k => (if_neg c1).trans (if_pos c2)) (Ev.now _)
  rw [if_neg (by omega)]
  refine Ev.congr (fun k => (if_neg c1).trans (if_neg c2)) ?_
  obtain ⟨x, E, x1, x2⟩ := PFl_ev hb hlen (flds kd) 1 0 0 0 0 0
  refine Ev.bind E ?_
  by_cases c3 : (numsS b (flds kd).length 1).2.2 = 0
  case neg =>
    rw [if_neg c3]
    obtain ⟨y, E2, y1⟩ := PMid_err hb hlen kd x.2.2.2.2.2.1 x.2.2.2.2.2.2 (by rw [x1]; exact c3)
    refine Ev.bind E2 (Ev.congr (PFin_err hb hlen kd _ _ _ _ _ y.2.2.1 y.2.2.2 y.1 y.2.1 (by rw [y1, x1]; exact c3)) ?_)
    rw [y1, x1]; exact Ev.now _
  rw [if_pos c3]
  obtain ⟨z1, z2⟩ := x2 c3
  have o := numsS_ok hb (flds kd).length 1 (by omega) (by omega) c3
  rw [c3] at x1
  obtain ⟨v1, v2, v3, v4, v5, va, ve⟩ := x
  dsimp only at x1 z1 z2 ⊢
  subst x1
  subst z1
  rw [← z2]
  unfold restS
  obtain ⟨y, E2, y1, y2⟩ := PMid_ev hb hlen kd (numsS b (flds kd).length 1).2.1
  refine Ev.bind E2 ?_
  by_cases c4 : (midS b kd (numsS b (flds kd).length 1).2.1).2.2.2 = 0
  · rw [if_pos c4]
    obtain rfl := y2 c4
    have om := midS_ok hb kd _ o.1 o.2.1 c4
    generalize midS b kd (numsS b (flds kd).length 1).2.1 = y at c4 om ⊢
    rw [c4]
    exact PFin_ev hb hlen kd (v1, v2, v3, v4, v5) y.2.2.1 y.1 y.2.1 om.2
  · rw [if_neg c4]
    refine Ev.congr (PFin_err hb hlen kd _ _ _ _ _ y.2.2.1 y.2.2.2 y.1 y.2.1 (by rw [y1]; exact c4)) ?_
    rw [y1]; exact Ev.now _
/-! ### the reference's Take -/
end
end Go.Proofs.Ytpeacoppclmmlaa.PP

end

section
set_option linter.unusedSimpArgs false
set_option linter.unusedVariables false
set_option linter.unusedSectionVars false
namespace Go.Proofs.Ytpeacoppclmmlaa.PP
open Go.RowKit Go.Proofs.YtpeacoppclmmlaaW.PrintWords Go.Proofs.YtpeacoppclmmlaaW.PrintMore Go.Proofs.Ytpeacoppclmmlaa.Open
open Oct (uint uintN tk takeU Bytes)

/-! ### bytes, lengths -/
theorem numB_eq {n : Int} (h0 : 0 ≤ n) (h1 : n < 18446744073709551616) : numB n = uint n := by
  unfold numB
  rw [Int.emod_eq_of_lt h0 h1]
/-- An item that Put may write. -/
def okI (x : It) : Prop := 0 ≤ x.f0 ∧ x.f0 ≤ 1099511627776 ∧ 0 ≤ x.f1 ∧ x.f1 ≤ 4294967295 ∧ x.f2.length ≤ 400 ∧ Bytes x.f2
/-! ### reading back -/
section
variable {b : List Int} (hb : Bytes b)
include hb
end
/-! ### Take of Put -/
section
variable {kd pub sub n fr to_ : Int} {sp : List Sp} {it : List It}
theorem putB_eq (h1 : 1 ≤ kd) (h2 : kd ≤ 6) : putB kd pub sub n fr to_ sp it = [kd] ++ (((flds kd).map (fld6 kd pub sub n fr to_)).flatMap numB ++ tailB kd sp it) := by
  unfold putB
  rw [← List.append_assoc]
  congr 1
  rcases (show kd = 1 ∨ kd = 2 ∨ kd = 3 ∨ kd = 4 ∨ kd = 5 ∨ kd = 6 by omega) with rfl | rfl | rfl | rfl | rfl | rfl <;> simp [flds, fld6]
end
end Go.Proofs.Ytpeacoppclmmlaa.PP

end

section
set_option linter.unusedSimpArgs false
set_option linter.unusedVariables false
set_option linter.unusedSectionVars false
namespace Go.Proofs.Ytpeacoppclmmlaa.PP
open Go.RowKit Go.Proofs.YtpeacoppclmmlaaW.PrintWords Go.Proofs.YtpeacoppclmmlaaW.PrintMore Go.Proofs.Ytpeacoppclmmlaa.Open
open Oct (uint uintN tk takeU Bytes)

/-- The bytes from t to q. -/
def seg (b : List Int) (t q : Int) : List Int := (b.drop t.toNat).take (q - t).toNat
theorem seg_join {b : List Int} {t q r : Int} (h0 : 0 ≤ t) (h1 : t ≤ q) (h2 : q ≤ r) : seg b t r = seg b t q ++ seg b q r := by
  unfold seg
  rw [show (r - t).toNat = (q - t).toNat + (r - q).toNat by omega, List.take_add, List.drop_drop, show t.toNat + (q - t).toNat = q.toNat by omega]
theorem seg_self (b : List Int) (t : Int) : seg b t t = [] := by unfold seg; simp
section
variable {b : List Int} (hb : Bytes b)
include hb
theorem upS_canon {t most : Int} (h : (upS b t most).2.2 = 0) (hm : most < 18446744073709551616) : seg b t (upS b t most).2.1 = numB (upS b t most).1 := by
  have o := upS_ok hb t most h
  unfold upS at h o ⊢
  by_cases h0 : (takeU b t).2.2 = 0
  case neg => rw [if_neg h0] at h; exact absurd h h0
  rw [if_pos h0] at h o ⊢
  by_cases h1 : (takeU b t).1 > most
  · rw [if_pos h1] at h; exact absurd h (by decide)
  rw [if_neg h1] at o ⊢
  dsimp only at o ⊢
  rw [numB_eq o.2.1 (by omega)]
  exact takeU_canon hb (show takeU b t = ((takeU b t).1, (takeU b t).2.1, 0) by rw [← h0])
theorem itS_canon {t : Int} (h : (itS b t).2.2.2.2 = 0) : seg b t (itS b t).2.2.2.1 = itemB ⟨(itS b t).1, (itS b t).2.1, (itS b t).2.2.1⟩ ∧ okI ⟨(itS b t).1, (itS b t).2.1, (itS b t).2.2.1⟩ := by
  unfold itS at h ⊢
  by_cases h1 : (upS b t 1099511627776).2.2 = 0
  case neg => rw [if_neg h1] at h; exact absurd h h1
  have o1 := upS_ok hb _ _ h1
  have k1 := upS_canon hb h1 (by decide)
  rw [if_pos h1] at h ⊢
  generalize upS b t 1099511627776 = a at h o1 k1 ⊢
  by_cases h2 : (upS b a.2.1 4294967295).2.2 = 0
  case neg => rw [if_neg h2] at h; exact absurd h h2
  have o2 := upS_ok hb _ _ h2
  have k2 := upS_canon hb h2 (by decide)
  rw [if_pos h2] at h ⊢
  generalize upS b a.2.1 4294967295 = c at h o2 k2 ⊢
  by_cases h3 : (upS b c.2.1 400).2.2 = 0
  case neg => rw [if_neg h3] at h; exact absurd h h3
  have o3 := upS_ok hb _ _ h3
  have k3 := upS_canon hb h3 (by decide)
  rw [if_pos h3] at h ⊢
  generalize upS b c.2.1 400 = d at h o3 k3 ⊢
  by_cases h4 : (b.length : Int) - d.2.1 < d.1
  · rw [if_pos h4] at h; exact absurd h (by decide)
  rw [if_neg h4]
  dsimp only
  have el : ((b.take (d.2.1 + d.1).toNat).drop d.2.1.toNat).length = d.1.toNat := by rw [List.length_drop, List.length_take]; omega
  have es : (b.take (d.2.1 + d.1).toNat).drop d.2.1.toNat = seg b d.2.1 (d.2.1 + d.1) := by
    unfold seg
    rw [List.drop_take, show (d.2.1 + d.1).toNat - d.2.1.toNat = (d.2.1 + d.1 - d.2.1).toNat by omega]
  have ew : wrap64 c.1 = c.1 := wrap_ok (by omega) (by omega)
  constructor
  · rw [seg_join (q := a.2.1) (by omega) (by omega) (by omega), seg_join (t := a.2.1) (q := c.2.1) (by omega) (by omega) (by omega), seg_join (t := c.2.1) (q := d.2.1) (by omega) (by omega) (by omega), k1, k2, k3]
    simp only [itemB, ew, el, ← es]
    rw [show ((d.1.toNat : Nat) : Int) = d.1 by omega]
    simp only [List.append_assoc]
  · refine ⟨o1.2.1, o1.2.2.1, o2.2.1, o2.2.2.1, by show _ ≤ 400; rw [el]; omega, fun z hz => ?_⟩
    exact hb z (List.mem_of_mem_take (List.mem_of_mem_drop hz))
theorem itsS_canon : ∀ (n : Nat) (t : Int) (acc : List It), 0 ≤ t → t ≤ b.length → (itsS b n t acc).2.2 = 0 → ∃ l, (itsS b n t acc).1 = acc ++ l ∧ l.length = n ∧ t ≤ (itsS b n t acc).2.1 ∧ (itsS b n t acc).2.1 ≤ b.length ∧ seg b t (itsS b n t acc).2.1 = itemsB l ∧ ∀ x ∈ l, okI x
  | 0, t, acc, h0, h1, _ => ⟨[], by simp [itsS], rfl, Int.le_refl _, h1, seg_self b t, fun x hx => by cases hx⟩
  | n + 1, t, acc, h0, h1, h => by
    simp only [itsS] at h ⊢
    by_cases hi : (itS b t).2.2.2.2 = 0
    case neg => rw [if_neg hi] at h; exact absurd h hi
    have o := itS_ok hb t hi
    obtain ⟨c1, c2⟩ := itS_canon hb hi
    rw [if_pos hi] at h ⊢
    obtain ⟨l, a1, a2, a3, a4, a5, a6⟩ := itsS_canon n _ _ (by omega) o.2.2.1 h
    refine ⟨⟨(itS b t).1, (itS b t).2.1, (itS b t).2.2.1⟩ :: l, by rw [a1]; simp, by rw [List.length_cons, a2], by omega, a4, ?_, fun x hx => ?_⟩
    · rw [seg_join (q := (itS b t).2.2.2.1) h0 (by omega) a3, c1, a5]; rfl
    · rcases List.mem_cons.1 hx with rfl | hx
      · exact c2
      · exact a6 x hx
theorem numsS_canon : ∀ (n : Nat) (t : Int), 0 ≤ t → t ≤ b.length → (numsS b n t).2.2 = 0 → t ≤ (numsS b n t).2.1 ∧ seg b t (numsS b n t).2.1 = (numsS b n t).1.flatMap numB
  | 0, t, h0, h1, _ => ⟨Int.le_refl _, by simp [numsS, seg_self]⟩
  | n + 1, t, h0, h1, h => by
    simp only [numsS] at h ⊢
    by_cases hu : (upS b t 1099511627776).2.2 = 0
    case neg => rw [if_neg hu] at h; exact absurd h hu
    have o := upS_ok hb _ _ hu
    have k := upS_canon hb hu (by decide)
    rw [if_pos hu] at h ⊢
    by_cases hn : (numsS b n (upS b t 1099511627776).2.1).2.2 = 0
    case neg => rw [if_neg hn] at h; exact absurd h hn
    obtain ⟨a1, a2⟩ := numsS_canon n _ (by omega) o.2.2.2.2 hn
    rw [if_pos hn]
    refine ⟨by show t ≤ (numsS b n _).2.1; omega, ?_⟩
    show seg b t (numsS b n _).2.1 = (_ :: _).flatMap numB
    rw [seg_join (q := (upS b t 1099511627776).2.1) h0 (by omega) a1, k, a2, List.flatMap_cons]
theorem takeR_canon {t : Int} (h : (takeR b t).2.2 = 0) : t ≤ (takeR b t).2.1 ∧ rightB 0 0 (takeR b t).1 = true ∧ (takeR b t).1.length ≤ 256 ∧ seg b t (takeR b t).2.1 = (putR (takeR b t).1).1 := by
  unfold takeR at h ⊢
  by_cases c1 : (takeU b t).2.2 = 0
  case neg => rw [if_neg c1] at h; exact absurd h c1
  have o := (takeU_ok hb t).1 c1
  have k := takeU_canon hb (show takeU b t = ((takeU b t).1, (takeU b t).2.1, 0) by rw [← c1])
  rw [if_pos c1] at h ⊢
  generalize takeU b t = a at h o k ⊢
  by_cases c2 : a.1 > 256
  · rw [if_pos c2] at h; exact absurd h (by decide)
  rw [if_neg c2] at h ⊢
  obtain ⟨i1, i2, i3, i4, l', i5, i6⟩ := takeS_canon hb a.1.toNat a.2.1 [] 0 0 (takeS a.1.toNat b a.2.1 [] 0 0).1 (takeS a.1.toNat b a.2.1 [] 0 0).2.1 (by omega) (by omega) rfl rfl rfl (Prod.ext rfl (Prod.ext rfl h))
  generalize takeS a.1.toNat b a.2.1 [] 0 0 = r at *
  rw [List.nil_append] at i5
  rw [List.length_nil, Nat.zero_add] at i2
  refine ⟨by omega, i1, by omega, ?_⟩
  unfold putR
  rw [if_pos i1, if_neg (by omega), seg_join (q := a.2.1) o.1 (by omega) i3]
  show seg b t a.2.1 ++ seg b a.2.1 r.2.1 = uint (r.1.length : Int) ++ putL 0 r.1
  rw [show (r.1.length : Int) = a.1 by omega, show seg b t a.2.1 = uint a.1 from k, i5]
  congr 1
/-- WHAT IS TAKEN IS WHAT PUT WRITES. -/
theorem putP_take {kd p1 p2 p3 p4 p5 : Int} {sp : List Sp} {it : List It} (h : takeP b = (kd, p1, p2, p3, p4, p5, sp, it, 0)) : putP kd p1 p2 p3 p4 p5 sp it = (b, 0) ∧ 0 < b.length := by
  unfold takeP at h
  by_cases c0 : (b.length : Int) = 0
  · rw [if_pos c0] at h; simp [zerosE] at h
  rw [if_neg c0] at h
  by_cases c1 : wrap64 (rd b 0) < 1 ∨ wrap64 (rd b 0) > 6
  · rw [if_pos c1] at h; simp [zerosE] at h
  rw [if_neg c1] at h
  have hr := Oct.rd_bytes hb 0 (by omega)
  have ek : wrap64 (rd b 0) = rd b 0 := wrap_ok (by have := hr; simp only [Int.natCast_zero] at this; omega) (by have := hr; simp only [Int.natCast_zero] at this; omega)
  have e0 : seg b 0 1 = [rd b 0] := by
    cases b with
    | nil => exact absurd rfl c0
    | cons x l => rfl
  generalize hk : wrap64 (rd b 0) = k at *
  rw [← ek] at e0
  by_cases c2 : (numsS b (flds k).length 1).2.2 = 0
  case neg => rw [if_neg c2] at h; simp [zerosE] at h; exact absurd h.2.2.2.2.2.2.2.2 c2
  rw [if_pos c2] at h
  have o := numsS_ok hb (flds k).length 1 (by omega) (by omega) c2
  have n1 := numsS_canon hb (flds k).length 1 (by omega) (by omega) c2
  generalize numsS b (flds k).length 1 = v at h o n1
  obtain ⟨vs, q1, ee⟩ := v
  dsimp only at h o n1
  unfold restS at h
  by_cases c3 : (midS b k q1).2.2.2 = 0
  case neg => rw [if_neg c3] at h; simp [zerosE] at h; exact absurd h.2.2.2.2.2.2.2.2 c3
  rw [if_pos c3] at h
  unfold finS at h
  by_cases c4 : (midS b k q1).2.2.1 = (b.length : Int)
  case neg => rw [if_neg c4] at h; simp [zerosE] at h
  rw [if_pos c4] at h
  generalize hp : asg (flds k) vs (0, 0, 0, 0, 0) = p at h
  by_cases c5 : chk k p.1 p.2.1 p.2.2.1 p.2.2.2.1 p.2.2.2.2 (midS b k q1).1 (midS b k q1).2.1 = 0
  case neg => rw [if_neg c5] at h; simp [zerosE] at h; exact absurd h.2.2.2.2.2.2.2.2 c5
  rw [if_pos c5] at h
  simp only [Prod.mk.injEq, and_true] at h
  obtain ⟨rfl, rfl, rfl, rfl, rfl, rfl, rfl, rfl⟩ := h
  refine ⟨?_, by omega⟩
  unfold putP
  rw [if_pos c5, putB_eq (by omega) (by omega)]
  congr 1
  have ef : (flds k).map (fld6 k p.1 p.2.1 p.2.2.1 p.2.2.2.1 p.2.2.2.2) = vs := by
    rw [← hp]
    rcases (show k = 1 ∨ k = 2 ∨ k = 3 ∨ k = 4 ∨ k = 5 ∨ k = 6 by omega) with rfl | rfl | rfl | rfl | rfl | rfl
    · match vs, o.2.2.1 with
      | [x0, x1, x2], _ => rfl
    · match vs, o.2.2.1 with
      | [x0, x1, x2], _ => rfl
    · match vs, o.2.2.1 with
      | [x0, x1, x2, x3], _ => rfl
    · match vs, o.2.2.1 with
      | [x0, x1, x2], _ => rfl
    · match vs, o.2.2.1 with
      | [x0, x1, x2, x3], _ => rfl
    · match vs, o.2.2.1 with
      | [x0, x1, x2], _ => rfl
  rw [ef, ← n1.2, ← e0]
  have et : seg b q1 (b.length : Int) = tailB k (midS b k q1).1 (midS b k q1).2.1 := by
    unfold tailB
    unfold midS at c3 c4 ⊢
    by_cases hk1 : k = 1
    · rw [if_pos hk1] at c3 c4 ⊢
      by_cases d1 : (takeR b q1).2.2 = 0
      case neg => rw [if_neg d1] at c3; exact absurd c3 d1
      have r1 := takeR_canon hb d1
      have r2 := takeR_next hb q1 d1
      rw [if_pos d1] at c3 c4 ⊢
      generalize takeR b q1 = s at c3 c4 r1 r2 ⊢
      by_cases d2 : (upS b s.2.1 8).2.2 = 0
      case neg => rw [if_neg d2] at c3; exact absurd c3 d2
      have u1 := upS_ok hb _ _ d2
      have u2 := upS_canon hb d2 (by decide)
      rw [if_pos d2] at c3 c4 ⊢
      generalize upS b s.2.1 8 = a at c3 c4 u1 u2 ⊢
      by_cases d3 : (itsS b a.1.toNat a.2.1 []).2.2 = 0
      case neg => rw [if_neg d3] at c3; exact absurd c3 d3
      obtain ⟨l, l1, l2, l3, l4, l5, _⟩ := itsS_canon hb a.1.toNat a.2.1 [] (by omega) (by omega) d3
      rw [if_pos d3] at c3 c4 ⊢
      generalize itsS b a.1.toNat a.2.1 [] = z at *
      dsimp only at c4 ⊢
      rw [List.nil_append] at l1
      rw [if_pos hk1, seg_join (q := s.2.1) o.1 r1.1 (by omega), seg_join (t := s.2.1) (q := a.2.1) (by omega) (by omega) (by omega), r1.2.2.2, u2, ← c4, l5, l1, l2]
      rw [show ((a.1.toNat : Nat) : Int) = a.1 by omega, List.append_assoc]
    · simp only [if_neg hk1] at c4 ⊢
      rw [← c4, seg_self]
  rw [← et, ← seg_join (by omega) n1.1 o.2.1, ← seg_join (by omega) (by omega) (by omega)]
  unfold seg
  rw [show ((b.length : Int) - 0).toNat = b.length by omega]
  simp
end
/-! ### cut short -/
theorem tk_cut : ∀ {r : List Int} {n : Int} {i : Nat} {p v q : Int}, tk r n i p = (v, q, 0) → p < q ∧ ∀ m : Nat, (q - p ≤ m → tk (r.take m) n i p = (v, q, 0)) ∧ ((m : Int) < q - p → tk (r.take m) n i p = (0, 0, 3)) := by
  intro r
  induction r with
  | nil => intro n i p v q h; simp [tk] at h
  | cons x r ih =>
    intro n i p v q h
    simp only [tk] at h
    by_cases c1 : i = 9 ∧ x > 1
    · rw [if_pos c1] at h; simp at h
    rw [if_neg c1] at h
    by_cases c2 : x ≥ 128
    · rw [if_pos c2] at h
      obtain ⟨g1, g2⟩ := ih h
      refine ⟨by omega, fun m => ?_⟩
      cases m with
      | zero => exact ⟨fun hm => by omega, fun _ => by simp [tk]⟩
      | succ m =>
        rw [List.take_succ_cons]
        simp only [tk]
        rw [if_neg c1, if_pos c2]
        exact ⟨fun hm => (g2 m).1 (by omega), fun hm => (g2 m).2 (by omega)⟩
    · rw [if_neg c2] at h
      by_cases c3 : x = 0 ∧ i > 0
      · rw [if_pos c3] at h; simp at h
      rw [if_neg c3] at h
      simp only [Prod.mk.injEq, and_true] at h
      obtain ⟨rfl, rfl⟩ := h
      refine ⟨by omega, fun m => ?_⟩
      cases m with
      | zero => exact ⟨fun hm => by omega, fun _ => by simp [tk]⟩
      | succ m =>
        rw [List.take_succ_cons]
        simp only [tk]
        rw [if_neg c1, if_neg c2, if_neg c3]
        exact ⟨fun _ => rfl, fun hm => by omega⟩
section
variable {b : List Int} {m : Nat} (hm : m ≤ b.length)
include hm
theorem takeU_cut {t v q : Int} (h : takeU b t = (v, q, 0)) (ht : t ≤ m) : (q ≤ m → takeU (b.take m) t = (v, q, 0)) ∧ ((m : Int) < q → takeU (b.take m) t = (0, 0, 3)) := by
  unfold takeU at h ⊢
  by_cases c : t < 0 ∨ t > b.length
  · rw [if_pos c] at h; simp at h
  rw [if_neg c] at h
  rw [List.length_take, if_neg (by omega), List.drop_take]
  obtain ⟨g1, g2⟩ := tk_cut h
  exact ⟨fun hq => (g2 _).1 (by omega), fun hq => (g2 _).2 (by omega)⟩
theorem upS_cut {t most : Int} (h : (upS b t most).2.2 = 0) (ht : t ≤ m) : ((upS b t most).2.1 ≤ m → upS (b.take m) t most = upS b t most) ∧ ((m : Int) < (upS b t most).2.1 → upS (b.take m) t most = (0, 0, 3)) := by
  unfold upS at h ⊢
  by_cases h0 : (takeU b t).2.2 = 0
  case neg => rw [if_neg h0] at h; exact absurd h h0
  have g := takeU_cut hm (show takeU b t = ((takeU b t).1, (takeU b t).2.1, 0) by rw [← h0]) ht
  rw [if_pos h0] at h ⊢
  by_cases h1 : (takeU b t).1 > most
  · rw [if_pos h1] at h; exact absurd h (by decide)
  rw [if_neg h1]
  generalize takeU b t = a at *
  dsimp only
  constructor
  · intro hq
    rw [g.1 hq]
    simp only [if_true]
    rw [if_neg h1]
  · intro hq
    rw [g.2 hq]
    rfl
theorem rd_cut {i : Int} (h0 : 0 ≤ i) (h : i < m) : rd (b.take m) i = rd b i := by
  unfold rd
  rw [List.getD_eq_getElem?_getD, List.getD_eq_getElem?_getD, List.getElem?_take, if_pos (by omega)]
omit hm in
theorem takeS_mono : ∀ (n : Nat) (pos : Int) (out : List Sp) (pe pi : Int), (∀ t v q, takeU b t = (v, q, 0) → t < q) → (takeS n b pos out pe pi).2.2 = 0 → pos ≤ (takeS n b pos out pe pi).2.1
  | 0, pos, out, pe, pi, _, _ => Int.le_refl _
  | n + 1, pos, out, pe, pi, hlt, h => by
    simp only [takeS] at h ⊢
    by_cases c1 : (takeU b pos).2.2 = 0
    case neg => rw [if_neg c1] at h; exact absurd h c1
    have l1 := hlt _ _ _ (show takeU b pos = ((takeU b pos).1, (takeU b pos).2.1, 0) by rw [← c1])
    rw [if_pos c1] at h ⊢
    generalize takeU b pos = a at h l1 ⊢
    by_cases c2 : (takeU b a.2.1).2.2 = 0
    case neg => rw [if_neg c2] at h; exact absurd h c2
    have l2 := hlt _ _ _ (show takeU b a.2.1 = ((takeU b a.2.1).1, (takeU b a.2.1).2.1, 0) by rw [← c2])
    rw [if_pos c2] at h ⊢
    generalize takeU b a.2.1 = c at h l2 ⊢
    by_cases c3 : c.2.1 ≥ b.length
    · rw [if_pos c3] at h; exact absurd h (by decide)
    rw [if_neg c3] at h ⊢
    by_cases c4 : pe + a.1 + c.1 + 1 > 1099511627776
    · rw [if_pos c4] at h; exact absurd h (by decide)
    rw [if_neg c4] at h ⊢
    by_cases c5 : rd b c.2.1 < 1 ∨ rd b c.2.1 > 3
    · rw [if_pos c5] at h; exact absurd h (by decide)
    rw [if_neg c5] at h ⊢
    by_cases c6 : a.1 = 0 ∧ rd b c.2.1 = pi
    · rw [if_pos c6] at h; exact absurd h (by decide)
    rw [if_neg c6] at h ⊢
    have := takeS_mono n _ _ _ _ hlt h
    omega
theorem takeS_cut : ∀ (n : Nat) (pos : Int) (out : List Sp) (pe pi : Int), pos ≤ m → 0 ≤ pos → (∀ t v q, takeU b t = (v, q, 0) → t < q) → (takeS n b pos out pe pi).2.2 = 0 → pos ≤ (takeS n b pos out pe pi).2.1 ∧ ((takeS n b pos out pe pi).2.1 ≤ m → takeS n (b.take m) pos out pe pi = takeS n b pos out pe pi) ∧ ((m : Int) < (takeS n b pos out pe pi).2.1 → (takeS n (b.take m) pos out pe pi).2.2 = 3)
  | 0, pos, out, pe, pi, h0, _, _, _ => ⟨Int.le_refl _, fun _ => rfl, fun h => by have h' : (m : Int) < pos := h; omega⟩
  | n + 1, pos, out, pe, pi, h0, hp, hlt, h => by
    simp only [takeS] at h ⊢
    by_cases c1 : (takeU b pos).2.2 = 0
    case neg => rw [if_neg c1] at h; exact absurd h c1
    have e1 : takeU b pos = ((takeU b pos).1, (takeU b pos).2.1, 0) := by rw [← c1]
    have g1 := takeU_cut hm e1 h0
    have l1 := hlt _ _ _ e1
    rw [if_pos c1] at h ⊢
    generalize takeU b pos = a at h g1 l1 ⊢
    by_cases c2 : (takeU b a.2.1).2.2 = 0
    case neg => rw [if_neg c2] at h; exact absurd h c2
    have e2 : takeU b a.2.1 = ((takeU b a.2.1).1, (takeU b a.2.1).2.1, 0) := by rw [← c2]
    have l2 := hlt _ _ _ e2
    have g2 := fun ht => takeU_cut hm e2 ht
    rw [if_pos c2] at h ⊢
    generalize takeU b a.2.1 = c at h g2 l2 ⊢
    by_cases c3 : c.2.1 ≥ b.length
    · rw [if_pos c3] at h; exact absurd h (by decide)
    rw [if_neg c3] at h ⊢
    by_cases c4 : pe + a.1 + c.1 + 1 > 1099511627776
    · rw [if_pos c4] at h; exact absurd h (by decide)
    rw [if_neg c4] at h ⊢
    by_cases c5 : rd b c.2.1 < 1 ∨ rd b c.2.1 > 3
    · rw [if_pos c5] at h; exact absurd h (by decide)
    rw [if_neg c5] at h ⊢
    by_cases c6 : a.1 = 0 ∧ rd b c.2.1 = pi
    · rw [if_pos c6] at h; exact absurd h (by decide)
    rw [if_neg c6] at h ⊢
    by_cases d1 : a.2.1 ≤ m
    case neg =>
      have ih0 := takeS_mono n (c.2.1 + 1) (out ++ [⟨pe + 1 + a.1, pe + 1 + a.1 + c.1, rd b c.2.1⟩]) (pe + 1 + a.1 + c.1) (rd b c.2.1) hlt h
      refine ⟨by omega, fun hq => by omega, fun _ => ?_⟩
      rw [g1.2 (by omega)]
      rfl
    rw [g1.1 d1]
    simp only [if_true]
    by_cases d2 : c.2.1 ≤ m
    case neg =>
      have ih0 := takeS_mono n (c.2.1 + 1) (out ++ [⟨pe + 1 + a.1, pe + 1 + a.1 + c.1, rd b c.2.1⟩]) (pe + 1 + a.1 + c.1) (rd b c.2.1) hlt h
      refine ⟨by omega, fun hq => by omega, fun _ => ?_⟩
      rw [(g2 d1).2 (by omega)]
      rfl
    rw [(g2 d1).1 d2]
    simp only [if_true]
    by_cases d3 : c.2.1 < m
    case neg =>
      have ih0 := takeS_mono n (c.2.1 + 1) (out ++ [⟨pe + 1 + a.1, pe + 1 + a.1 + c.1, rd b c.2.1⟩]) (pe + 1 + a.1 + c.1) (rd b c.2.1) hlt h
      refine ⟨by omega, fun hq => by omega, fun _ => ?_⟩
      rw [if_pos (by rw [List.length_take]; omega)]
    rw [rd_cut hm (by omega) d3, if_neg (by rw [List.length_take]; omega), if_neg c4, if_neg c5, if_neg c6]
    obtain ⟨i1, i2, i3⟩ := takeS_cut n (c.2.1 + 1) (out ++ [⟨pe + 1 + a.1, pe + 1 + a.1 + c.1, rd b c.2.1⟩]) (pe + 1 + a.1 + c.1) (rd b c.2.1) (by omega) (by omega) hlt h
    exact ⟨by omega, i2, i3⟩
end
end Go.Proofs.Ytpeacoppclmmlaa.PP

end

section
set_option linter.unusedSimpArgs false
set_option linter.unusedVariables false
set_option linter.unusedSectionVars false
namespace Go.Proofs.Ytpeacoppclmmlaa.PP
open Go.RowKit Go.Proofs.YtpeacoppclmmlaaW.PrintWords Go.Proofs.YtpeacoppclmmlaaW.PrintMore Go.Proofs.Ytpeacoppclmmlaa.Open
open Oct (uint uintN tk takeU Bytes)
section
variable {b : List Int} {m : Nat} (hm : m ≤ b.length) (hb : Bytes b)
include hm hb
theorem takeR_cut {t : Int} (h : (takeR b t).2.2 = 0) (ht : t ≤ m) : ((takeR b t).2.1 ≤ m → takeR (b.take m) t = takeR b t) ∧ ((m : Int) < (takeR b t).2.1 → (takeR (b.take m) t).2.2 = 3) := by
  have hlt : ∀ t v q, takeU b t = (v, q, 0) → t < q := fun t v q h => by
    have := (takeU_ok hb t).1 (by rw [h])
    rw [h] at this
    exact this.2.2.2.1
  unfold takeR at h ⊢
  by_cases c1 : (takeU b t).2.2 = 0
  case neg => rw [if_neg c1] at h; exact absurd h c1
  have e1 : takeU b t = ((takeU b t).1, (takeU b t).2.1, 0) := by rw [← c1]
  have o := (takeU_ok hb t).1 c1
  have g1 := takeU_cut hm e1 ht
  rw [if_pos c1] at h ⊢
  generalize takeU b t = a at h g1 o ⊢
  by_cases c2 : a.1 > 256
  · rw [if_pos c2] at h; exact absurd h (by decide)
  rw [if_neg c2] at h ⊢
  have s1 := takeS_mono a.1.toNat a.2.1 [] 0 0 hlt h
  by_cases d1 : a.2.1 ≤ m
  · rw [g1.1 d1]
    simp only [if_true, if_neg c2]
    obtain ⟨i1, i2, i3⟩ := takeS_cut hm a.1.toNat a.2.1 [] 0 0 d1 (by omega) hlt h
    exact ⟨i2, i3⟩
  · exact ⟨fun hq => by omega, fun _ => by rw [g1.2 (by omega)]; rfl⟩
theorem itS_cut {t : Int} (h : (itS b t).2.2.2.2 = 0) (ht : t ≤ m) : ((itS b t).2.2.2.1 ≤ m → itS (b.take m) t = itS b t) ∧ ((m : Int) < (itS b t).2.2.2.1 → (itS (b.take m) t).2.2.2.2 = 3) := by
  unfold itS at h ⊢
  by_cases h1 : (upS b t 1099511627776).2.2 = 0
  case neg => rw [if_neg h1] at h; exact absurd h h1
  have o1 := upS_ok hb _ _ h1
  have g1 := upS_cut hm h1 ht
  rw [if_pos h1] at h ⊢
  generalize upS b t 1099511627776 = a at h h1 o1 g1 ⊢
  by_cases h2 : (upS b a.2.1 4294967295).2.2 = 0
  case neg => rw [if_neg h2] at h; exact absurd h h2
  have o2 := upS_ok hb _ _ h2
  have g2 := fun ht => upS_cut hm h2 ht
  rw [if_pos h2] at h ⊢
  generalize upS b a.2.1 4294967295 = c at h h2 o2 g2 ⊢
  by_cases h3 : (upS b c.2.1 400).2.2 = 0
  case neg => rw [if_neg h3] at h; exact absurd h h3
  have o3 := upS_ok hb _ _ h3
  have g3 := fun ht => upS_cut hm h3 ht
  rw [if_pos h3] at h ⊢
  generalize upS b c.2.1 400 = d at h h3 o3 g3 ⊢
  by_cases h4 : (b.length : Int) - d.2.1 < d.1
  · rw [if_pos h4] at h; exact absurd h (by decide)
  rw [if_neg h4]
  dsimp only
  by_cases d1 : a.2.1 ≤ m
  case neg => exact ⟨fun hq => by omega, fun _ => by rw [g1.2 (by omega)]; rfl⟩
  rw [g1.1 d1, if_pos h1]
  by_cases d2 : c.2.1 ≤ m
  case neg => exact ⟨fun hq => by omega, fun _ => by rw [(g2 d1).2 (by omega)]; rfl⟩
  rw [(g2 d1).1 d2, if_pos h2]
  by_cases d3 : d.2.1 ≤ m
  case neg => exact ⟨fun hq => by omega, fun _ => by rw [(g3 d2).2 (by omega)]; rfl⟩
  rw [(g3 d2).1 d3, if_pos h3, List.length_take]
  constructor
  · intro hq
    rw [if_neg (by omega), List.take_take, show min (d.2.1 + d.1).toNat m = (d.2.1 + d.1).toNat by omega]
  · intro hq
    rw [if_pos (by omega)]
theorem itsS_cut : ∀ (n : Nat) (t : Int) (acc : List It), 0 ≤ t → t ≤ m → (itsS b n t acc).2.2 = 0 → t ≤ (itsS b n t acc).2.1 ∧ ((itsS b n t acc).2.1 ≤ m → itsS (b.take m) n t acc = itsS b n t acc) ∧ ((m : Int) < (itsS b n t acc).2.1 → (itsS (b.take m) n t acc).2.2 = 3)
  | 0, t, acc, h0, h1, _ => ⟨Int.le_refl _, fun _ => rfl, fun h => by have h' : (m : Int) < t := h; omega⟩
  | n + 1, t, acc, h0, h1, h => by
    simp only [itsS] at h ⊢
    by_cases hi : (itS b t).2.2.2.2 = 0
    case neg => rw [if_neg hi] at h; exact absurd h hi
    have o := itS_ok hb t hi
    have g := itS_cut hm hb hi h1
    rw [if_pos hi] at h ⊢
    generalize itS b t = a at *
    obtain ⟨l, _, _, l3, _, _, _⟩ := itsS_canon hb n a.2.2.2.1 (acc ++ [⟨a.1, a.2.1, a.2.2.1⟩]) (by omega) o.2.2.1 h
    by_cases d1 : a.2.2.2.1 ≤ m
    · rw [g.1 d1, if_pos hi]
      obtain ⟨i1, i2, i3⟩ := itsS_cut n a.2.2.2.1 (acc ++ [⟨a.1, a.2.1, a.2.2.1⟩]) (by omega) d1 h
      exact ⟨by omega, i2, i3⟩
    · refine ⟨by omega, fun hq => by omega, fun _ => ?_⟩
      have e3 := g.2 (by omega)
      rw [if_neg (by rw [e3]; decide)]
      exact e3
theorem numsS_cut : ∀ (n : Nat) (t : Int), 0 ≤ t → t ≤ m → (numsS b n t).2.2 = 0 → ((numsS b n t).2.1 ≤ m → numsS (b.take m) n t = numsS b n t) ∧ ((m : Int) < (numsS b n t).2.1 → (numsS (b.take m) n t).2.2 = 3)
  | 0, t, h0, h1, _ => ⟨fun _ => rfl, fun h => by have h' : (m : Int) < t := h; omega⟩
  | n + 1, t, h0, h1, h => by
    simp only [numsS] at h ⊢
    by_cases hu : (upS b t 1099511627776).2.2 = 0
    case neg => rw [if_neg hu] at h; exact absurd h hu
    have o := upS_ok hb _ _ hu
    have g := upS_cut hm hu h1
    rw [if_pos hu] at h ⊢
    generalize upS b t 1099511627776 = a at *
    by_cases hn : (numsS b n a.2.1).2.2 = 0
    case neg => rw [if_neg hn] at h; exact absurd h hn
    have k := numsS_canon hb n a.2.1 (by omega) (by omega) hn
    rw [if_pos hn]
    by_cases d1 : a.2.1 ≤ m
    · rw [g.1 d1, if_pos hu]
      obtain ⟨i1, i2⟩ := numsS_cut n a.2.1 (by omega) d1 hn
      constructor
      · intro hq
        rw [i1 hq, if_pos hn]
      · intro hq
        have e3 := i2 hq
        rw [if_neg (by rw [e3]; decide)]
        exact e3
    · refine ⟨fun hq => ?_, fun _ => ?_⟩
      · have hq' : (numsS b n a.2.1).2.1 ≤ m := hq
        omega
      · rw [g.2 (by omega)]
        rfl
theorem midS_cut {kd t : Int} (h0 : 0 ≤ t) (ht : t ≤ m) (h : (midS b kd t).2.2.2 = 0) (hq : (m : Int) < (midS b kd t).2.2.1) : (midS (b.take m) kd t).2.2.2 = 3 := by
  unfold midS at h hq ⊢
  by_cases c : kd = 1
  case neg => rw [if_neg c] at hq; have hq' : (m : Int) < t := hq; omega
  rw [if_pos c] at h hq ⊢
  by_cases c1 : (takeR b t).2.2 = 0
  case neg => rw [if_neg c1] at h; exact absurd h c1
  have g1 := takeR_cut hm hb c1 ht
  have n1 := takeR_next hb t c1
  rw [if_pos c1] at h hq
  generalize takeR b t = s at h hq c1 g1 n1
  by_cases c2 : (upS b s.2.1 8).2.2 = 0
  case neg => rw [if_neg c2] at h; exact absurd h c2
  have o := upS_ok hb _ _ c2
  have g2 := fun ht => upS_cut hm c2 ht
  rw [if_pos c2] at h hq
  generalize upS b s.2.1 8 = a at h hq c2 o g2
  by_cases c3 : (itsS b a.1.toNat a.2.1 []).2.2 = 0
  case neg => rw [if_neg c3] at h; exact absurd h c3
  rw [if_pos c3] at hq
  by_cases d1 : s.2.1 ≤ m
  case neg =>
    have e3 := g1.2 (by omega)
    rw [if_neg (by rw [e3]; decide)]
    exact e3
  rw [g1.1 d1, if_pos c1]
  by_cases d2 : a.2.1 ≤ m
  case neg =>
    rw [(g2 d1).2 (by omega)]
    rfl
  rw [(g2 d1).1 d2, if_pos c2]
  obtain ⟨i1, i2, i3⟩ := itsS_cut hm hb a.1.toNat a.2.1 [] (by omega) d2 c3
  have e3 := i3 hq
  rw [if_neg (by rw [e3]; decide)]
  exact e3
end
/-- CUT SHORT. -/
theorem takeP_cut {b : List Int} (hb : Bytes b) (h : (takeP b).2.2.2.2.2.2.2.2 = 0) {m : Nat} (hm : m < b.length) : (takeP (b.take m)).2.2.2.2.2.2.2.2 = 3 := by
  unfold takeP at h ⊢
  rw [List.length_take]
  by_cases hz : m = 0
  · rw [if_pos (by omega)]; rfl
  have er : rd (b.take m) 0 = rd b 0 := rd_cut (by omega) (by omega) (by omega)
  rw [er, if_neg (by omega)]
  rw [if_neg (by omega)] at h
  by_cases c1 : wrap64 (rd b 0) < 1 ∨ wrap64 (rd b 0) > 6
  · rw [if_pos c1] at h; exact absurd h (by decide)
  rw [if_neg c1] at h ⊢
  generalize wrap64 (rd b 0) = k at *
  by_cases c2 : (numsS b (flds k).length 1).2.2 = 0
  case neg => rw [if_neg c2] at h; exact absurd h c2
  have o := numsS_ok hb (flds k).length 1 (by omega) (by omega) c2
  have g := numsS_cut (by omega : m ≤ b.length) hb (flds k).length 1 (by omega) (by omega) c2
  rw [if_pos c2] at h
  by_cases d1 : (numsS b (flds k).length 1).2.1 ≤ m
  case neg =>
    have e3 := g.2 (by omega)
    rw [if_neg (by rw [e3]; decide)]
    exact e3
  rw [g.1 d1, if_pos c2]
  generalize numsS b (flds k).length 1 = v at *
  unfold restS at h ⊢
  by_cases c3 : (midS b k v.2.1).2.2.2 = 0
  case neg => rw [if_neg c3] at h; exact absurd h c3
  rw [if_pos c3] at h
  unfold finS at h
  by_cases c4 : (midS b k v.2.1).2.2.1 = (b.length : Int)
  case neg => rw [if_neg c4] at h; exact absurd h (by decide)
  have e3 := midS_cut (by omega : m ≤ b.length) hb o.1 d1 c3 (by omega)
  rw [if_neg (by rw [e3]; decide)]
  exact e3
end Go.Proofs.Ytpeacoppclmmlaa.PP

end
