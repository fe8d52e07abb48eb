/-
  PLAIN LAW: bytes changed in up to four places, one behind the other.
-/
import Derived.Test.YtnbhlaoblnalpaaDoorFSealC
import Derived.Test.YtnbhlaoblnalpaaDoorFPEx2
set_option linter.unusedSimpArgs false
set_option linter.unusedVariables false
namespace Go.Proofs.YtnbhlaoblnalpaaDoor.PE
open Go.RowKit Go.Proofs.YtnbhlaoblnalpaaDoorW.PrintWords Go.Proofs.YtnbhlaoblnalpaaDoorW.PrintMore Go.Proofs.YtnbhlaoblnalpaaDoor.Crc

theorem wrap8_ok {x : Int} (h : 0 ≤ x) (h' : x < 256) : IntKind.u8.wrap x = x := by
  simp only [IntKind.wrap, IntKind.bits, IntKind.signed]
  simp
  omega
theorem xor_lt8 {a b : Nat} (ha : a < 256) (hb : b < 256) : a ^^^ b < 256 := by
  rw [show (256 : Nat) = 2 ^ 8 from rfl] at *
  exact Nat.xor_lt_two_pow ha hb
theorem bits_xor8 {x y : Nat} (hx : x < 256) (hy : y < 256) : Go.bits .xor .u8 (x : Int) (y : Int) = ((x ^^^ y : Nat) : Int) := by
  have hab : x ^^^ y < 256 := xor_lt8 hx hy
  have e : (BitVec.ofInt 8 (x : Int) ^^^ BitVec.ofInt 8 (y : Int)).toNat = x ^^^ y := by
    rw [BitVec.toNat_xor, BitVec.ofInt_natCast, BitVec.ofInt_natCast, BitVec.toNat_ofNat, BitVec.toNat_ofNat, Nat.mod_eq_of_lt hx, Nat.mod_eq_of_lt hy]
  show IntKind.u8.wrap (((BitVec.ofInt 8 (x : Int) ^^^ BitVec.ofInt 8 (y : Int)).toNat : Nat) : Int) = _
  rw [e, wrap8_ok (by omega) (by omega)]
theorem xor8 {x y : Int} (hx : 0 ≤ x ∧ x < 256) (hy : 0 ≤ y ∧ y < 256) : (0 ≤ Go.bits .xor .u8 x y ∧ Go.bits .xor .u8 x y < 256) ∧ (Go.bits .xor .u8 x y = x ↔ y = 0) := by
  obtain ⟨a, rfl⟩ : ∃ a : Nat, x = (a : Int) := ⟨x.toNat, by omega⟩
  obtain ⟨b, rfl⟩ : ∃ b : Nat, y = (b : Int) := ⟨y.toNat, by omega⟩
  rw [bits_xor8 (by omega) (by omega)]
  have h := xor_lt8 (a := a) (b := b) (by omega) (by omega)
  refine ⟨by omega, ?_⟩
  constructor
  · intro e
    have e1 : a ^^^ b = a := by omega
    have e2 := xor_xor a b
    rw [e1, Nat.xor_self] at e2
    omega
  · intro e
    have e1 : b = 0 := by omega
    rw [e1, Nat.xor_zero]

/-- the rest of the bytes, changed by the rest of the changes; whether any is a change -/
def turnL : List Int → List Int → List Int
  | b :: bs, y :: ys => Go.bits .xor .u8 y b :: turnL bs ys
  | [], ys => ys
  | _ :: _, [] => []
def turnT : List Int → List Int → Bool
  | b :: bs, _ :: ys => (b != 0) || turnT bs ys
  | [], _ => false
  | _ :: _, [] => false
theorem turn_nil (bs : List Int) : turnL bs [] = [] ∧ turnT bs [] = false := by cases bs <;> exact ⟨rfl, rfl⟩
theorem turn_parts : ∀ (bs ys : List Int), IsB bs → IsB ys → ∃ d d' q, ys = d ++ q ∧ turnL bs ys = d' ++ q ∧ d.length = d'.length ∧ d.length ≤ bs.length ∧ IsB d' ∧ (d = d' ↔ turnT bs ys = false)
  | [], ys, _, _ => ⟨[], [], ys, rfl, rfl, rfl, by simp, IsB_nil, by simp [turnT]⟩
  | b :: bs, [], _, _ => ⟨[], [], [], rfl, rfl, rfl, by simp, IsB_nil, by simp [turnT]⟩
  | b :: bs, y :: ys, hb, hy => by
    obtain ⟨d, d', q, h1, h2, h3, h4, h5, h6⟩ := turn_parts bs ys (fun x hx => hb x (by simp [hx])) (fun x hx => hy x (by simp [hx]))
    have hx := xor8 (hy y (by simp)) (hb b (by simp))
    refine ⟨y :: d, Go.bits .xor .u8 y b :: d', q, by rw [h1]; rfl, by simp only [turnL, h2]; rfl, by simp [h3], by simp; omega, IsB_cons hx.1.1 hx.1.2 h5, ?_⟩
    simp only [turnT, List.cons.injEq, Bool.or_eq_false_iff, bne_eq_false_iff_eq]
    rw [h6]
    constructor
    · rintro ⟨e, f⟩; exact ⟨hx.2.1 e.symm, f⟩
    · rintro ⟨e, f⟩; exact ⟨(hx.2.2 e).symm, f⟩

theorem set_at {p ys : List Int} {y v : Int} : (p ++ y :: ys).set p.length v = (p ++ [v]) ++ ys := by
  rw [List.set_append_right _ _ (Nat.le_refl _), Nat.sub_self]
  simp
theorem rd_at {p ys : List Int} {y : Int} : rd (p ++ y :: ys) (p.length : Int) = y := by
  unfold rd
  rw [Int.toNat_natCast, List.getD_eq_getElem?_getD, List.getElem?_append_right (Nat.le_refl _), Nat.sub_self]
  rfl
theorem turn_ev {b0 b1 b2 b3 : Int} {fr : Int} (hf : 0 ≤ fr) : ∀ (bs : List Int) (i : Int) (p rest : List Int) (t : Bool), 0 ≤ i → i + bs.length = 4 → bs = ([b0, b1, b2, b3] : List Int).drop i.toNat → (p.length : Int) = fr + i → p.length + rest.length ≤ 1152921504606846976 →
    Ev (fun k => grapevinelaw01_SealApart.l0 k [b0, b1, b2, b3] fr (p ++ rest) t i) (p ++ turnL bs rest, t || turnT bs rest) := by
  intro bs
  induction bs with
  | nil =>
    intro i p rest t h0 h1 h2 h3 h4
    refine Ev.done (fun k => ?_)
    simp only [List.length_nil] at h1
    simp only [grapevinelaw01_SealApart.l0, if_neg (show ¬ i < 4 by omega), turnL, turnT, Bool.or_false]
  | cons b bs ih =>
    intro i p rest t h0 h1 h2 h3 h4
    simp only [List.length_cons] at h1
    have k1 : i < 4 := by omega
    have hfi : fr + i = (p.length : Int) := h3.symm
    cases rest with
    | nil =>
      have k2 : ¬ (p.length : Int) < (p.length : Int) := by omega
      have hw3 : wrap64 (p.length : Int) = (p.length : Int) := wrap_ok (by omega) (by omega)
      refine Ev.done (fun k => ?_)
      simp only [grapevinelaw01_SealApart.l0, if_pos k1, hfi, hw3, List.append_nil, if_neg k2, (turn_nil _).1, (turn_nil _).2, Bool.or_false]
    | cons y ys =>
      have hl : (p ++ y :: ys).length = p.length + (ys.length + 1) := by simp
      have k2 : (p.length : Int) < ((p.length + (ys.length + 1) : Nat) : Int) := by omega
      have k3 : 0 ≤ (p.length : Int) ∧ 0 ≤ i := ⟨by omega, h0⟩
      have hb : rd [b0, b1, b2, b3] i = b ∧ bs = ([b0, b1, b2, b3] : List Int).drop (i + 1).toNat := by
        have e := rd_drop (l := [b0, b1, b2, b3]) (i := i) h0 (by simp; omega)
        rw [← h2] at e
        injection e with e1 e2
        exact ⟨e1.symm, e2⟩
      have h5 := ih (i + 1) (p ++ [Go.bits .xor .u8 y b]) ys (t || (b != 0)) (by omega) (by omega) hb.2 (by rw [List.length_append, List.length_cons, List.length_nil]; omega) (by rw [List.length_append, List.length_cons, List.length_nil]; simp only [List.length_cons] at h4; omega)
      have b1_ : (p.length : Int) ≤ 9223372036854775807 := by omega
      have b2_ : i + 1 ≤ 9223372036854775807 := by omega
      have b3_ : -9223372036854775808 ≤ i + 1 := by omega
      have b4_ : -9223372036854775808 ≤ (p.length : Int) := by omega
      have hw2 : wrap64 (i + 1) = i + 1 := wrap_ok b3_ b2_
      have hw3 : wrap64 (p.length : Int) = (p.length : Int) := wrap_ok b4_ b1_
      apply Ev.succ
      simp only [grapevinelaw01_SealApart.l0, if_pos k1, hfi, hw3, hw2, hl, if_pos k2, if_pos k3, Int.toNat_natCast, set_at, rd_at, hb.1]
      have e1 : (p ++ turnL (b :: bs) (y :: ys), t || turnT (b :: bs) (y :: ys)) = ((p ++ [Go.bits .xor .u8 y b]) ++ turnL bs ys, (t || (b != 0)) || turnT bs ys) := by
        simp [turnL, turnT, Bool.or_assoc]
      rw [e1]
      exact h5
end Go.Proofs.YtnbhlaoblnalpaaDoor.PE
