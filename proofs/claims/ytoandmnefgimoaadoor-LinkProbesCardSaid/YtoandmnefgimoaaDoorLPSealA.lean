/-
  PLAIN LAW: seal.More by its table is CRC-32C by bits: numbers of the program as the mathematics' numbers.
-/
import Derived.Test.YtoandmnefgimoaaDoorLPCrc
import Derived.Test.YtoandmnefgimoaaDoorLPPLx12
import Derived.Test.YtoandmnefgimoaaDoorLPPLx24
set_option linter.unusedSimpArgs false
set_option linter.unusedVariables false
namespace Go.Proofs.YtoandmnefgimoaaDoor.PL
open Go.RowKit Go.Proofs.YtoandmnefgimoaaDoorW.PrintWords Go.Proofs.YtoandmnefgimoaaDoorW.PrintMore Go.Proofs.YtoandmnefgimoaaDoor.Crc
theorem Ev.succ {α : Type} {g : Nat → Option α} {r : α} (h : Ev (fun k => g (k + 1)) r) : Ev g r := Ev.step (f := fun k => g (k + 1)) (fun _ => rfl) h
theorem Ev.done {α : Type} {g : Nat → Option α} {r : α} (h : ∀ k, g (k + 1) = some r) : Ev g r := Ev.step (f := fun _ => some r) h (Ev.now r)
theorem wrap_ok {x : Int} (h : -9223372036854775808 ≤ x) (h' : x ≤ 9223372036854775807) : wrap64 x = x := by
  unfold wrap64; omega
theorem wrapu_ok {x : Int} (h : 0 ≤ x) (h' : x < 4294967296) : IntKind.u32.wrap x = x := by
  simp only [IntKind.wrap, IntKind.bits, IntKind.signed]
  simp
  omega
theorem bits_xor {x y : Nat} (hx : x < 4294967296) (hy : y < 4294967296) : Go.bits .xor .u32 (x : Int) (y : Int) = ((x ^^^ y : Nat) : Int) := by
  have hab : x ^^^ y < 4294967296 := xor_lt hx hy
  have e : (BitVec.ofInt 32 (x : Int) ^^^ BitVec.ofInt 32 (y : Int)).toNat = x ^^^ y := by
    rw [BitVec.toNat_xor, BitVec.ofInt_natCast, BitVec.ofInt_natCast, BitVec.toNat_ofNat, BitVec.toNat_ofNat, Nat.mod_eq_of_lt hx, Nat.mod_eq_of_lt hy]
  show IntKind.u32.wrap (((BitVec.ofInt 32 (x : Int) ^^^ BitVec.ofInt 32 (y : Int)).toNat : Nat) : Int) = _
  rw [e, wrapu_ok (by omega) (by omega)]
theorem bits_and15 {x : Nat} (hx : x < 4294967296) : Go.bits .and .u32 (x : Int) 15 = ((x % 16 : Nat) : Int) := by
  have e : (BitVec.ofInt 32 (x : Int) &&& BitVec.ofInt 32 (15 : Int)).toNat = x % 16 := by
    rw [BitVec.toNat_and, BitVec.ofInt_natCast, BitVec.toNat_ofNat, Nat.mod_eq_of_lt hx]
    exact Nat.and_two_pow_sub_one_eq_mod x 4
  show IntKind.u32.wrap (((BitVec.ofInt 32 (x : Int) &&& BitVec.ofInt 32 (15 : Int)).toNat : Nat) : Int) = _
  rw [e, wrapu_ok (by omega) (by omega)]
theorem half_tab : ∀ s : Fin 16, rd sealHalf (s.val : Int) = ((tab.getD s.val 0 : Nat) : Int) := by decide +kernel
theorem tab_lt : ∀ s : Fin 16, tab.getD s.val 0 < 4294967296 := by decide +kernel
theorem h_eq {r : Nat} (hr : r < 4294967296) : seal_More.h (r : Int) = ((b4 r : Nat) : Int) := by
  rw [← h4_eq]
  unfold seal_More.h h4
  rw [bits_and15 hr, half_tab ⟨r % 16, Nat.mod_lt _ (by decide)⟩, show ((r : Int) / 16) = ((r / 16 : Nat) : Int) by omega]
  exact bits_xor (by omega) (tab_lt ⟨r % 16, Nat.mod_lt _ (by decide)⟩)
def nats (l : List Int) : List Nat := l.map Int.toNat
def IsB (l : List Int) : Prop := ∀ x ∈ l, 0 ≤ x ∧ x < 256
theorem nats_cons (x : Int) (l : List Int) : nats (x :: l) = x.toNat :: nats l := rfl
theorem rd_get {l : List Int} {i : Int} (h0 : 0 ≤ i) (h1 : i < l.length) : ∃ h : i.toNat < l.length, rd l i = l[i.toNat] := by
  refine ⟨by omega, ?_⟩
  unfold rd
  rw [List.getD_eq_getElem?_getD, List.getElem?_eq_getElem (by omega)]
  rfl
theorem rd_drop {l : List Int} {i : Int} (h0 : 0 ≤ i) (h1 : i < l.length) : l.drop i.toNat = rd l i :: l.drop (i + 1).toNat := by
  obtain ⟨h, e⟩ := rd_get h0 h1
  rw [e, List.drop_eq_getElem_cons h]
  rw [show (i + 1).toNat = i.toNat + 1 by omega]
theorem rd_mem {l : List Int} {i : Int} (h0 : 0 ≤ i) (h1 : i < l.length) : rd l i ∈ l := by
  obtain ⟨h, e⟩ := rd_get h0 h1
  rw [e]; exact List.getElem_mem h
theorem ones_int : (4294967295 : Int) = ((ones : Nat) : Int) := by simp [ones]
theorem bits_inv {r : Nat} (hr : r < 4294967296) : Go.bits .xor .u32 4294967295 (r : Int) = ((inv r : Nat) : Int) := by
  rw [ones_int, bits_xor ones_lt hr]
  rfl
theorem More_l {l : List Int} (hl : IsB l) (hn : l.length ≤ 9223372036854775807) : ∀ (d : Nat) (i : Int) (r : Nat), 0 ≤ i → i.toNat + d = l.length → r < 4294967296 →
    Ev (fun k => seal_More.l0 k l r i) ((inv (reg r (nats (l.drop i.toNat))) : Nat) : Int) := by
  intro d
  induction d with
  | zero =>
    intro i r h0 hd hr
    refine Ev.done (fun k => ?_)
    simp only [seal_More.l0]
    rw [if_neg (by omega), List.drop_of_length_le (by omega)]
    rw [bits_inv hr]
    rfl
  | succ d ih =>
    intro i r h0 hd hr
    have hx := hl _ (rd_mem h0 (by omega : i < l.length))
    have hw : wrap64 (i + 1) = i + 1 := wrap_ok (by omega) (by omega)
    have h2 := ih (i + 1) (b8 (r ^^^ (rd l i).toNat)) (by omega) (by omega) (b8_lt (xor_lt hr (by omega)))
    apply Ev.succ
    simp only [seal_More.l0]
    simp only [if_pos (show i < (l.length : Int) by omega), if_pos h0, hw]
    have e1 : rd l i % 4294967296 = (((rd l i).toNat : Nat) : Int) := by omega
    have hlt : r ^^^ (rd l i).toNat < 4294967296 := xor_lt hr (by omega)
    have e2 : seal_More.h (seal_More.h (Go.bits .xor .u32 (r : Int) (rd l i % 4294967296))) = ((b8 (r ^^^ (rd l i).toNat) : Nat) : Int) := by
      rw [e1, bits_xor hr (by omega), h_eq hlt, h_eq (b4_lt hlt)]
      rfl
    rw [rd_drop h0 (by omega), nats_cons, reg_cons]
    simp only [e2]
    exact h2
theorem More_ev {l : List Int} (hl : IsB l) (hn : l.length ≤ 9223372036854775807) {s : Nat} (hs : s < 4294967296) : Ev (fun k => seal_More.f k (s : Int) l) ((more s (nats l) : Nat) : Int) := by
  have h := More_l hl hn l.length 0 (inv s) (by omega) (by simp) (inv_lt hs)
  unfold seal_More.f more
  simp only [bits_inv hs]
  simpa using h
theorem Sum_ev {l : List Int} (hl : IsB l) (hn : l.length ≤ 9223372036854775807) : Ev (fun k => seal_Sum.f k l) ((more 0 (nats l) : Nat) : Int) := by
  unfold seal_Sum.f
  exact Ev.bind (More_ev hl hn (s := 0) (by decide)) (Ev.now _)
def it : Nat → Nat → Nat
  | 0, r => r
  | d + 1, r => it d (b1 r)
theorem u32_wf {x : Int} (h : (Lit.int .u32 x).wf = true) : ∃ n : Nat, x = (n : Int) ∧ n < 4294967296 := by
  simp only [Lit.wf, IntKind.min, IntKind.max, IntKind.signed, IntKind.bits, Bool.and_eq_true, decide_eq_true_eq] at h
  simp at h
  exact ⟨x.toNat, by omega, by omega⟩
end Go.Proofs.YtoandmnefgimoaaDoor.PL
