/-
  PLAIN LAW: seal.More by its table is CRC-32C by bits: numbers of the program as the mathematics' numbers.
-/
import Derived.Test.YtnbhlaoblnalpaaDoorGCrc
import Derived.Test.YtnbhlaoblnalpaaDoorGPEx1
set_option linter.unusedSimpArgs false
set_option linter.unusedVariables false
namespace Go.Proofs.YtnbhlaoblnalpaaDoor.PE
open Go.RowKit Go.Proofs.YtnbhlaoblnalpaaDoorW.PrintWords Go.Proofs.YtnbhlaoblnalpaaDoorW.PrintMore Go.Proofs.YtnbhlaoblnalpaaDoor.Crc

theorem Ev.succ {α : Type} {g : Nat → Option α} {r : α} (h : Ev (fun k => g (k + 1)) r) : Ev g r := Ev.step (f := fun k => g (k + 1)) (fun _ => rfl) h
theorem Ev.done {α : Type} {g : Nat → Option α} {r : α} (h : ∀ k, g (k + 1) = some r) : Ev g r := Ev.step (f := fun _ => some r) h (Ev.now r)
theorem wrap_ok {x : Int} (h : -9223372036854775808 ≤ x) (h' : x ≤ 9223372036854775807) : wrap64 x = x := by
  unfold wrap64; omega
theorem wrapu_ok {x : Int} (h : 0 ≤ x) (h' : x < 4294967296) : IntKind.u32.wrap x = x := by
  simp only [IntKind.wrap, IntKind.bits, IntKind.signed]
  simp
  omega
theorem bits_xor {x y : Nat} (hx : x < 4294967296) (hy : y < 4294967296) : Go.bits .xor .u32 (x : Int) (y : Int) = ((x ^^^ y : Nat) : Int) := by
  have hab : x ^^^ y < 4294967296 := xor_lt hx hy
  have e : (BitVec.ofInt 32 (x : Int) ^^^ BitVec.ofInt 32 (y : Int)).toNat = x ^^^ y := by
    rw [BitVec.toNat_xor, BitVec.ofInt_natCast, BitVec.ofInt_natCast, BitVec.toNat_ofNat, BitVec.toNat_ofNat, Nat.mod_eq_of_lt hx, Nat.mod_eq_of_lt hy]
  show IntKind.u32.wrap (((BitVec.ofInt 32 (x : Int) ^^^ BitVec.ofInt 32 (y : Int)).toNat : Nat) : Int) = _
  rw [e, wrapu_ok (by omega) (by omega)]
theorem bits_and15 {x : Nat} (hx : x < 4294967296) : Go.bits .and .u32 (x : Int) 15 = ((x % 16 : Nat) : Int) := by
  have e : (BitVec.ofInt 32 (x : Int) &&& BitVec.ofInt 32 (15 : Int)).toNat = x % 16 := by
    rw [BitVec.toNat_and, BitVec.ofInt_natCast, BitVec.toNat_ofNat, Nat.mod_eq_of_lt hx]
    exact Nat.and_two_pow_sub_one_eq_mod x 4
  show IntKind.u32.wrap (((BitVec.ofInt 32 (x : Int) &&& BitVec.ofInt 32 (15 : Int)).toNat : Nat) : Int) = _
  rw [e, wrapu_ok (by omega) (by omega)]
theorem half_tab : ∀ s : Fin 16, rd sealHalf (s.val : Int) = ((tab.getD s.val 0 : Nat) : Int) := by decide +kernel
theorem tab_lt : ∀ s : Fin 16, tab.getD s.val 0 < 4294967296 := by decide +kernel
theorem h_eq {r : Nat} (hr : r < 4294967296) : seal_More.h (r : Int) = ((b4 r : Nat) : Int) := by
  rw [← h4_eq]
  unfold seal_More.h h4
  rw [bits_and15 hr, half_tab ⟨r % 16, Nat.mod_lt _ (by decide)⟩, show ((r : Int) / 16) = ((r / 16 : Nat) : Int) by omega]
  exact bits_xor (by omega) (tab_lt ⟨r % 16, Nat.mod_lt _ (by decide)⟩)

/-- bytes as the mathematics' -/
def nats (l : List Int) : List Nat := l.map Int.toNat
def IsB (l : List Int) : Prop := ∀ x ∈ l, 0 ≤ x ∧ x < 256
theorem nats_bytes {l : List Int} (h : IsB l) : Bytes (nats l) := by
  intro x hx
  simp only [nats, List.mem_map] at hx
  obtain ⟨y, hy, rfl⟩ := hx
  have := h y hy
  omega
theorem nats_cons (x : Int) (l : List Int) : nats (x :: l) = x.toNat :: nats l := rfl
theorem rd_get {l : List Int} {i : Int} (h0 : 0 ≤ i) (h1 : i < l.length) : ∃ h : i.toNat < l.length, rd l i = l[i.toNat] := by
  refine ⟨by omega, ?_⟩
  unfold rd
  rw [List.getD_eq_getElem?_getD, List.getElem?_eq_getElem (by omega)]
  rfl
theorem rd_drop {l : List Int} {i : Int} (h0 : 0 ≤ i) (h1 : i < l.length) : l.drop i.toNat = rd l i :: l.drop (i + 1).toNat := by
  obtain ⟨h, e⟩ := rd_get h0 h1
  rw [e, List.drop_eq_getElem_cons h]
  rw [show (i + 1).toNat = i.toNat + 1 by omega]
theorem rd_mem {l : List Int} {i : Int} (h0 : 0 ≤ i) (h1 : i < l.length) : rd l i ∈ l := by
  obtain ⟨h, e⟩ := rd_get h0 h1
  rw [e]; exact List.getElem_mem h

theorem ones_int : (4294967295 : Int) = ((ones : Nat) : Int) := by simp [ones]
theorem bits_inv {r : Nat} (hr : r < 4294967296) : Go.bits .xor .u32 4294967295 (r : Int) = ((inv r : Nat) : Int) := by
  rw [ones_int, bits_xor ones_lt hr]
  rfl
theorem More_l {l : List Int} (hl : IsB l) (hn : l.length ≤ 9223372036854775807) : ∀ (d : Nat) (i : Int) (r : Nat), 0 ≤ i → i.toNat + d = l.length → r < 4294967296 →
    Ev (fun k => seal_More.l0 k l r i) ((inv (reg r (nats (l.drop i.toNat))) : Nat) : Int) := by
  intro d
  induction d with
  | zero =>
    intro i r h0 hd hr
    refine Ev.done (fun k => ?_)
    simp only [seal_More.l0]
    rw [if_neg (by omega), List.drop_of_length_le (by omega)]
    rw [bits_inv hr]
    rfl
  | succ d ih =>
    intro i r h0 hd hr
    have hx := hl _ (rd_mem h0 (by omega : i < l.length))
    have hw : wrap64 (i + 1) = i + 1 := wrap_ok (by omega) (by omega)
    have h2 := ih (i + 1) (b8 (r ^^^ (rd l i).toNat)) (by omega) (by omega) (b8_lt (xor_lt hr (by omega)))
    apply Ev.succ
    simp only [seal_More.l0]
    simp only [if_pos (show i < (l.length : Int) by omega), if_pos h0, hw]
    have e1 : rd l i % 4294967296 = (((rd l i).toNat : Nat) : Int) := by omega
    have hlt : r ^^^ (rd l i).toNat < 4294967296 := xor_lt hr (by omega)
    have e2 : seal_More.h (seal_More.h (Go.bits .xor .u32 (r : Int) (rd l i % 4294967296))) = ((b8 (r ^^^ (rd l i).toNat) : Nat) : Int) := by
      rw [e1, bits_xor hr (by omega), h_eq hlt, h_eq (b4_lt hlt)]
      rfl
    rw [rd_drop h0 (by omega), nats_cons, reg_cons]
    simp only [e2]
    exact h2
theorem More_ev {l : List Int} (hl : IsB l) (hn : l.length ≤ 9223372036854775807) {s : Nat} (hs : s < 4294967296) : Ev (fun k => seal_More.f k (s : Int) l) ((more s (nats l) : Nat) : Int) := by
  have h := More_l hl hn l.length 0 (inv s) (by omega) (by simp) (inv_lt hs)
  unfold seal_More.f more
  simp only [bits_inv hs]
  simpa using h
theorem Sum_ev {l : List Int} (hl : IsB l) (hn : l.length ≤ 9223372036854775807) : Ev (fun k => seal_Sum.f k l) ((more 0 (nats l) : Nat) : Int) := by
  unfold seal_Sum.f
  exact Ev.bind (More_ev hl hn (s := 0) (by decide)) (Ev.now _)

/-! ### the reference's: bit by bit -/
def it : Nat → Nat → Nat
  | 0, r => r
  | d + 1, r => it d (b1 r)
theorem it_zero (r : Nat) : it 0 r = r := rfl
theorem it_succ (d r : Nat) : it (d + 1) r = it d (b1 r) := rfl
theorem poly_int : (2197175160 : Int) = ((poly : Nat) : Int) := by simp [poly]
theorem b1_if (r : Nat) : b1 r = (r / 2) ^^^ (if r % 2 = 1 then poly else 0) := rfl
theorem step_odd {r : Nat} (hr : r < 4294967296) (hp : r % 2 = 1) : Go.bits .xor .u32 ((r / 2 : Nat) : Int) 2197175160 = ((b1 r : Nat) : Int) := by
  have e1 : b1 r = (r / 2) ^^^ poly := by rw [b1_if, if_pos hp]
  have e2 : poly < 4294967296 := by unfold poly; omega
  rw [poly_int, e1]
  exact bits_xor (by omega) e2
theorem step_even {r : Nat} (hp : ¬ r % 2 = 1) : b1 r = r / 2 := by rw [b1_if, if_neg hp, Nat.xor_zero]
theorem tmod_two (r : Nat) : Int.tmod (r : Int) 2 = ((r % 2 : Nat) : Int) := by rw [Int.tmod_eq_emod_of_nonneg (by omega)]; omega
theorem tdiv_two {r : Nat} (hr : r < 4294967296) : (Int.tdiv (r : Int) 2) % 4294967296 = ((r / 2 : Nat) : Int) := by rw [Int.tdiv_eq_ediv_of_nonneg (by omega)]; omega
theorem ref_1 {l : List Int} {i : Int} {R : Int} : ∀ (d : Nat) (j : Int) (r : Nat), 0 ≤ j → j + d = 8 → r < 4294967296 →
    Ev (fun k => grapevineref01_More.l0 k l ((it d r : Nat) : Int) (wrap64 (i + 1))) R → Ev (fun k => grapevineref01_More.l1 k l (r : Int) i j) R := by
  intro d
  induction d with
  | zero =>
    intro j r h0 hd hr h
    rw [it_zero] at h
    apply Ev.succ
    simp only [grapevineref01_More.l1, if_neg (show ¬ j < 8 by omega)]
    exact h
  | succ d ih =>
    intro j r h0 hd hr h
    have hw : wrap64 (j + 1) = j + 1 := wrap_ok (by omega) (by omega)
    rw [it_succ] at h
    have h2 := ih (j + 1) (b1 r) (by omega) (by omega) (b1_lt hr) h
    clear ih h
    apply Ev.succ
    simp only [grapevineref01_More.l1, if_pos (show j < 8 by omega), tmod_two, tdiv_two hr, hw]
    by_cases hp : r % 2 = 1
    · simp only [if_pos (show ((r % 2 : Nat) : Int) = 1 by omega), step_odd hr hp]
      exact h2
    · simp only [if_neg (show ¬ ((r % 2 : Nat) : Int) = 1 by omega)]
      rw [step_even hp] at h2
      exact h2
theorem bits_inv' {r : Nat} (hr : r < 4294967296) : Go.bits .xor .u32 (r : Int) 4294967295 = ((inv r : Nat) : Int) := by
  rw [ones_int, bits_xor hr ones_lt, Nat.xor_comm]
  rfl
theorem ref_l {l : List Int} (hl : IsB l) (hn : l.length ≤ 9223372036854775807) : ∀ (d : Nat) (i : Int) (r : Nat), 0 ≤ i → i.toNat + d = l.length → r < 4294967296 →
    Ev (fun k => grapevineref01_More.l0 k l r i) ((inv (reg r (nats (l.drop i.toNat))) : Nat) : Int) := by
  intro d
  induction d with
  | zero =>
    intro i r h0 hd hr
    refine Ev.done (fun k => ?_)
    simp only [grapevineref01_More.l0]
    rw [if_neg (by omega), List.drop_of_length_le (by omega)]
    rw [bits_inv' hr]
    rfl
  | succ d ih =>
    intro i r h0 hd hr
    have hx := hl _ (rd_mem h0 (by omega : i < l.length))
    have hw : wrap64 (i + 1) = i + 1 := wrap_ok (by omega) (by omega)
    have h2 := ih (i + 1) (b8 (r ^^^ (rd l i).toNat)) (by omega) (by omega) (b8_lt (xor_lt hr (by omega)))
    have e1 : rd l i % 4294967296 = (((rd l i).toNat : Nat) : Int) := by omega
    apply Ev.succ
    simp only [grapevineref01_More.l0, if_pos (show i < (l.length : Int) by omega), if_pos h0]
    have e2 : Go.bits .xor .u32 (r : Int) (rd l i % 4294967296) = ((r ^^^ (rd l i).toNat : Nat) : Int) := by rw [e1]; exact bits_xor hr (by omega)
    simp only [e2]
    refine ref_1 8 0 (r ^^^ (rd l i).toNat) (by omega) (by omega) (xor_lt hr (by omega)) ?_
    rw [rd_drop h0 (by omega), nats_cons, reg_cons, hw]
    exact h2
theorem refMore_ev {l : List Int} (hl : IsB l) (hn : l.length ≤ 9223372036854775807) {s : Nat} (hs : s < 4294967296) : Ev (fun k => grapevineref01_More.f k (s : Int) l) ((more s (nats l) : Nat) : Int) := by
  have h := ref_l hl hn l.length 0 (inv s) (by omega) (by simp) (inv_lt hs)
  unfold grapevineref01_More.f more
  simp only [bits_inv' hs]
  simpa using h
theorem refSum_ev {l : List Int} (hl : IsB l) (hn : l.length ≤ 9223372036854775807) : Ev (fun k => grapevineref01_Sum.f k l) ((more 0 (nats l) : Nat) : Int) := by
  unfold grapevineref01_Sum.f
  exact Ev.bind (refMore_ev hl hn (s := 0) (by decide)) (Ev.now _)
theorem Four_eq {n : Nat} (hn : n < 4294967296) : grapevineref01_Four.f (n : Int) = some [((n % 256 : Nat) : Int), ((n / 256 % 256 : Nat) : Int), ((n / 65536 % 256 : Nat) : Int), ((n / 16777216 % 256 : Nat) : Int)] := by
  unfold grapevineref01_Four.f
  rw [Int.tdiv_eq_ediv_of_nonneg (by omega), Int.tdiv_eq_ediv_of_nonneg (by omega), Int.tdiv_eq_ediv_of_nonneg (by omega)]
  congr 1
  simp only [List.cons.injEq, and_true]
  omega
/-- what the rows say of bytes -/
theorem IsB_wf {l : List Int} (h : ∀ a ∈ l, (Lit.int .u8 a).wf = true) : IsB l := by
  intro x hx
  have := h x hx
  simp only [Lit.wf, IntKind.min, IntKind.max, IntKind.signed, IntKind.bits, Bool.and_eq_true, decide_eq_true_eq] at this
  simp at this
  omega
end Go.Proofs.YtnbhlaoblnalpaaDoor.PE
