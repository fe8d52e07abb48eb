import Derived.Test.YtoandmnefgimoaaDoorLBPLx12
import Derived.Test.YtoandmnefgimoaaDoorLBPLx24
import Derived.Lib.Bytes
import Derived.Test.YtoandmnefgimoaaDoorLBPLx14
section
namespace Go.Proofs.YtoandmnefgimoaaDoor.Crc
def poly : Nat := 2197175160
def b1 (r : Nat) : Nat := (r / 2) ^^^ (if r % 2 = 1 then poly else 0)
def b4 (r : Nat) : Nat := b1 (b1 (b1 (b1 r)))
def b8 (r : Nat) : Nat := b4 (b4 r)
def tab : List Nat := [0, 274646895, 549293790, 820201905, 1098587580, 1361435347, 1640403810, 1905808397, 2197175160, 2460548119, 2722870694, 2987750089, 3280807620, 3553878443, 3811616794, 4084100981]
def h4 (r : Nat) : Nat := (r / 16) ^^^ (tab.getD (r % 16) 0)
def reg (r : Nat) (l : List Nat) : Nat := l.foldl (fun r x => b8 (r ^^^ x)) r
def ones : Nat := 4294967295
def inv (r : Nat) : Nat := ones ^^^ r
def more (s : Nat) (l : List Nat) : Nat := inv (reg (inv s) l)
theorem pow32 : (4294967296 : Nat) = 2 ^ 32 := by decide
theorem xor_lt {a b : Nat} (ha : a < 4294967296) (hb : b < 4294967296) : a ^^^ b < 4294967296 := by
  rw [pow32] at *
  exact Nat.xor_lt_two_pow ha hb
theorem ones_lt : ones < 4294967296 := by unfold ones; omega
theorem inv_lt {a : Nat} (ha : a < 4294967296) : inv a < 4294967296 := xor_lt ones_lt ha
theorem poly_if_lt (c : Prop) [Decidable c] : (if c then poly else 0) < 4294967296 := by
  split
  · unfold poly; omega
  · omega
theorem b1_lt {r : Nat} (h : r < 4294967296) : b1 r < 4294967296 := xor_lt (by omega) (poly_if_lt _)
theorem b4_lt {r : Nat} (h : r < 4294967296) : b4 r < 4294967296 := b1_lt (b1_lt (b1_lt (b1_lt h)))
theorem b8_lt {r : Nat} (h : r < 4294967296) : b8 r < 4294967296 := b4_lt (b4_lt h)
theorem half_xor (a c : Nat) : (a ^^^ c) / 2 = a / 2 ^^^ c / 2 := Nat.xor_div_two
theorem mod2_xor (a c : Nat) : (a ^^^ c) % 2 = (a + c) % 2 := by
  have h := Nat.xor_mod_two_eq_one (a := a) (b := c)
  omega
theorem xor_zero {a b : Nat} (h : a ^^^ b = 0) : a = b := by
  have h1 : (a ^^^ b) ^^^ b = b := by rw [h, Nat.zero_xor]
  rwa [Nat.xor_assoc, Nat.xor_self, Nat.xor_zero] at h1
theorem xor4 (a b c d : Nat) : (a ^^^ b) ^^^ (c ^^^ d) = (a ^^^ c) ^^^ (b ^^^ d) := by
  rw [Nat.xor_assoc, Nat.xor_assoc, ← Nat.xor_assoc b c d, Nat.xor_comm b c, Nat.xor_assoc c b d]
theorem b1_xor (a c : Nat) : b1 (a ^^^ c) = b1 a ^^^ b1 c := by
  unfold b1
  rw [xor4, half_xor]
  congr 1
  have h := mod2_xor a c
  by_cases h1 : a % 2 = 1 <;> by_cases h2 : c % 2 = 1
  · rw [if_neg (by omega), if_pos h1, if_pos h2, Nat.xor_self]
  · rw [if_pos (by omega), if_pos h1, if_neg h2, Nat.xor_zero]
  · rw [if_pos (by omega), if_neg h1, if_pos h2, Nat.zero_xor]
  · rw [if_neg (by omega), if_neg h1, if_neg h2, Nat.xor_self]
theorem b4_xor (a c : Nat) : b4 (a ^^^ c) = b4 a ^^^ b4 c := by unfold b4; rw [b1_xor, b1_xor, b1_xor, b1_xor]
theorem b1_two (q : Nat) : b1 (2 * q) = q := by
  unfold b1; rw [if_neg (by omega), Nat.xor_zero]; omega
theorem b4_16 (q : Nat) : b4 (16 * q) = q := by
  unfold b4
  rw [show 16 * q = 2 * (2 * (2 * (2 * q))) by omega, b1_two, b1_two, b1_two, b1_two]
theorem split16 (r : Nat) : r = 16 * (r / 16) ^^^ r % 16 := by
  have h := Nat.two_pow_add_eq_or_of_lt (i := 4) (b := r % 16) (by omega) (r / 16)
  have h2 : 16 * (r / 16) ||| r % 16 = 16 * (r / 16) ^^^ r % 16 := by
    apply Nat.eq_of_testBit_eq
    intro i
    rw [Nat.testBit_or, Nat.testBit_xor]
    by_cases hi : i < 4
    · have : (16 * (r / 16)).testBit i = false := by
        rw [show 16 * (r / 16) = 2 ^ 4 * (r / 16) from rfl, Nat.testBit_two_pow_mul]
        simp; omega
      rw [this]; simp
    · have : (r % 16).testBit i = false := by
        rw [show (16 : Nat) = 2 ^ 4 from rfl, Nat.testBit_mod_two_pow]
        simp; omega
      rw [this]; simp
  rw [← h2, ← show 2 ^ 4 * (r / 16) + r % 16 = 16 * (r / 16) ||| r % 16 from h]
  omega
theorem tab_b4 : ∀ s : Fin 16, tab.getD s.val 0 = b4 s.val := by decide +kernel
theorem h4_eq (r : Nat) : h4 r = b4 r := by
  unfold h4
  conv => rhs; rw [split16 r]
  rw [b4_xor, b4_16, tab_b4 ⟨r % 16, Nat.mod_lt _ (by decide)⟩]
def Bytes (l : List Nat) : Prop := ∀ x ∈ l, x < 256
theorem reg_cons (r x : Nat) (l : List Nat) : reg r (x :: l) = reg (b8 (r ^^^ x)) l := rfl
theorem reg_lt {l : List Nat} (hl : Bytes l) : ∀ {r : Nat}, r < 4294967296 → reg r l < 4294967296 := by
  induction l with
  | nil => intro r h; exact h
  | cons x t ih =>
    intro r h
    rw [reg_cons]
    have hx : x < 256 := hl x (by simp)
    exact ih (fun y hy => hl y (by simp [hy])) (b8_lt (xor_lt h (by omega)))
theorem more_lt {s : Nat} {l : List Nat} (hl : Bytes l) (hs : s < 4294967296) : more s l < 4294967296 := inv_lt (reg_lt hl (inv_lt hs))
def b8s : Nat → Nat → Nat
  | 0, r => r
  | n + 1, r => b8s n (b8 r)
def four (n : Nat) : List Nat := [n % 256, n / 256 % 256, n / 65536 % 256, n / 16777216 % 256]
def rest : Nat := b8s 4 ones
end Go.Proofs.YtoandmnefgimoaaDoor.Crc

end

section
set_option linter.unusedSimpArgs false
set_option linter.unusedVariables false
namespace Go.Proofs.YtoandmnefgimoaaDoor.PL
open Go.RowKit Go.Proofs.YtoandmnefgimoaaDoorW.PrintWords Go.Proofs.YtoandmnefgimoaaDoorW.PrintMore Go.Proofs.YtoandmnefgimoaaDoor.Crc
theorem Ev.succ {α : Type} {g : Nat → Option α} {r : α} (h : Ev (fun k => g (k + 1)) r) : Ev g r := Ev.step (f := fun k => g (k + 1)) (fun _ => rfl) h
theorem Ev.done {α : Type} {g : Nat → Option α} {r : α} (h : ∀ k, g (k + 1) = some r) : Ev g r := Ev.step (f := fun _ => some r) h (Ev.now r)
theorem wrap_ok {x : Int} (h : -9223372036854775808 ≤ x) (h' : x ≤ 9223372036854775807) : wrap64 x = x := by
  unfold wrap64; omega
theorem wrapu_ok {x : Int} (h : 0 ≤ x) (h' : x < 4294967296) : IntKind.u32.wrap x = x := by
  simp only [IntKind.wrap, IntKind.bits, IntKind.signed]
  simp
  omega
theorem bits_xor {x y : Nat} (hx : x < 4294967296) (hy : y < 4294967296) : Go.bits .xor .u32 (x : Int) (y : Int) = ((x ^^^ y : Nat) : Int) := by
  have hab : x ^^^ y < 4294967296 := xor_lt hx hy
  have e : (BitVec.ofInt 32 (x : Int) ^^^ BitVec.ofInt 32 (y : Int)).toNat = x ^^^ y := by
    rw [BitVec.toNat_xor, BitVec.ofInt_natCast, BitVec.ofInt_natCast, BitVec.toNat_ofNat, BitVec.toNat_ofNat, Nat.mod_eq_of_lt hx, Nat.mod_eq_of_lt hy]
  show IntKind.u32.wrap (((BitVec.ofInt 32 (x : Int) ^^^ BitVec.ofInt 32 (y : Int)).toNat : Nat) : Int) = _
  rw [e, wrapu_ok (by omega) (by omega)]
theorem bits_and15 {x : Nat} (hx : x < 4294967296) : Go.bits .and .u32 (x : Int) 15 = ((x % 16 : Nat) : Int) := by
  have e : (BitVec.ofInt 32 (x : Int) &&& BitVec.ofInt 32 (15 : Int)).toNat = x % 16 := by
    rw [BitVec.toNat_and, BitVec.ofInt_natCast, BitVec.toNat_ofNat, Nat.mod_eq_of_lt hx]
    exact Nat.and_two_pow_sub_one_eq_mod x 4
  show IntKind.u32.wrap (((BitVec.ofInt 32 (x : Int) &&& BitVec.ofInt 32 (15 : Int)).toNat : Nat) : Int) = _
  rw [e, wrapu_ok (by omega) (by omega)]
theorem half_tab : ∀ s : Fin 16, rd sealHalf (s.val : Int) = ((tab.getD s.val 0 : Nat) : Int) := by decide +kernel
theorem tab_lt : ∀ s : Fin 16, tab.getD s.val 0 < 4294967296 := by decide +kernel
theorem h_eq {r : Nat} (hr : r < 4294967296) : seal_More.h (r : Int) = ((b4 r : Nat) : Int) := by
  rw [← h4_eq]
  unfold seal_More.h h4
  rw [bits_and15 hr, half_tab ⟨r % 16, Nat.mod_lt _ (by decide)⟩, show ((r : Int) / 16) = ((r / 16 : Nat) : Int) by omega]
  exact bits_xor (by omega) (tab_lt ⟨r % 16, Nat.mod_lt _ (by decide)⟩)
def nats (l : List Int) : List Nat := l.map Int.toNat
def IsB (l : List Int) : Prop := ∀ x ∈ l, 0 ≤ x ∧ x < 256
theorem nats_bytes {l : List Int} (h : IsB l) : Bytes (nats l) := by
  intro x hx
  simp only [nats, List.mem_map] at hx
  obtain ⟨y, hy, rfl⟩ := hx
  have := h y hy
  omega
theorem nats_cons (x : Int) (l : List Int) : nats (x :: l) = x.toNat :: nats l := rfl
theorem rd_get {l : List Int} {i : Int} (h0 : 0 ≤ i) (h1 : i < l.length) : ∃ h : i.toNat < l.length, rd l i = l[i.toNat] := by
  refine ⟨by omega, ?_⟩
  unfold rd
  rw [List.getD_eq_getElem?_getD, List.getElem?_eq_getElem (by omega)]
  rfl
theorem rd_drop {l : List Int} {i : Int} (h0 : 0 ≤ i) (h1 : i < l.length) : l.drop i.toNat = rd l i :: l.drop (i + 1).toNat := by
  obtain ⟨h, e⟩ := rd_get h0 h1
  rw [e, List.drop_eq_getElem_cons h]
  rw [show (i + 1).toNat = i.toNat + 1 by omega]
theorem rd_mem {l : List Int} {i : Int} (h0 : 0 ≤ i) (h1 : i < l.length) : rd l i ∈ l := by
  obtain ⟨h, e⟩ := rd_get h0 h1
  rw [e]; exact List.getElem_mem h
theorem ones_int : (4294967295 : Int) = ((ones : Nat) : Int) := by simp [ones]
theorem bits_inv {r : Nat} (hr : r < 4294967296) : Go.bits .xor .u32 4294967295 (r : Int) = ((inv r : Nat) : Int) := by
  rw [ones_int, bits_xor ones_lt hr]
  rfl
theorem More_l {l : List Int} (hl : IsB l) (hn : l.length ≤ 9223372036854775807) : ∀ (d : Nat) (i : Int) (r : Nat), 0 ≤ i → i.toNat + d = l.length → r < 4294967296 →
    Ev (fun k => seal_More.l0 k l r i) ((inv (reg r (nats (l.drop i.toNat))) : Nat) : Int) := by
  intro d
  induction d with
  | zero =>
    intro i r h0 hd hr
    refine Ev.done (fun k => ?_)
    simp only [seal_More.l0]
    rw [if_neg (by omega), List.drop_of_length_le (by omega)]
    rw [bits_inv hr]
    rfl
  | succ d ih =>
    intro i r h0 hd hr
    have hx := hl _ (rd_mem h0 (by omega : i < l.length))
    have hw : wrap64 (i + 1) = i + 1 := wrap_ok (by omega) (by omega)
    have h2 := ih (i + 1) (b8 (r ^^^ (rd l i).toNat)) (by omega) (by omega) (b8_lt (xor_lt hr (by omega)))
    apply Ev.succ
    simp only [seal_More.l0]
    simp only [if_pos (show i < (l.length : Int) by omega), if_pos h0, hw]
    have e1 : rd l i % 4294967296 = (((rd l i).toNat : Nat) : Int) := by omega
    have hlt : r ^^^ (rd l i).toNat < 4294967296 := xor_lt hr (by omega)
    have e2 : seal_More.h (seal_More.h (Go.bits .xor .u32 (r : Int) (rd l i % 4294967296))) = ((b8 (r ^^^ (rd l i).toNat) : Nat) : Int) := by
      rw [e1, bits_xor hr (by omega), h_eq hlt, h_eq (b4_lt hlt)]
      rfl
    rw [rd_drop h0 (by omega), nats_cons, reg_cons]
    simp only [e2]
    exact h2
theorem More_ev {l : List Int} (hl : IsB l) (hn : l.length ≤ 9223372036854775807) {s : Nat} (hs : s < 4294967296) : Ev (fun k => seal_More.f k (s : Int) l) ((more s (nats l) : Nat) : Int) := by
  have h := More_l hl hn l.length 0 (inv s) (by omega) (by simp) (inv_lt hs)
  unfold seal_More.f more
  simp only [bits_inv hs]
  simpa using h
theorem Sum_ev {l : List Int} (hl : IsB l) (hn : l.length ≤ 9223372036854775807) : Ev (fun k => seal_Sum.f k l) ((more 0 (nats l) : Nat) : Int) := by
  unfold seal_Sum.f
  exact Ev.bind (More_ev hl hn (s := 0) (by decide)) (Ev.now _)
def it : Nat → Nat → Nat
  | 0, r => r
  | d + 1, r => it d (b1 r)
theorem it_zero (r : Nat) : it 0 r = r := rfl
theorem it_succ (d r : Nat) : it (d + 1) r = it d (b1 r) := rfl
theorem poly_int : (2197175160 : Int) = ((poly : Nat) : Int) := by simp [poly]
theorem b1_if (r : Nat) : b1 r = (r / 2) ^^^ (if r % 2 = 1 then poly else 0) := rfl
theorem step_odd {r : Nat} (hr : r < 4294967296) (hp : r % 2 = 1) : Go.bits .xor .u32 ((r / 2 : Nat) : Int) 2197175160 = ((b1 r : Nat) : Int) := by
  have e1 : b1 r = (r / 2) ^^^ poly := by rw [b1_if, if_pos hp]
  have e2 : poly < 4294967296 := by unfold poly; omega
  rw [poly_int, e1]
  exact bits_xor (by omega) e2
theorem step_even {r : Nat} (hp : ¬ r % 2 = 1) : b1 r = r / 2 := by rw [b1_if, if_neg hp, Nat.xor_zero]
theorem tmod_two (r : Nat) : Int.tmod (r : Int) 2 = ((r % 2 : Nat) : Int) := by rw [Int.tmod_eq_emod_of_nonneg (by omega)]; omega
theorem tdiv_two {r : Nat} (hr : r < 4294967296) : (Int.tdiv (r : Int) 2) % 4294967296 = ((r / 2 : Nat) : Int) := by rw [Int.tdiv_eq_ediv_of_nonneg (by omega)]; omega
theorem ref_1 {l : List Int} {i : Int} {R : Int} : ∀ (d : Nat) (j : Int) (r : Nat), 0 ≤ j → j + d = 8 → r < 4294967296 →
    Ev (fun k => grapevineref01_More.l0 k l ((it d r : Nat) : Int) (wrap64 (i + 1))) R → Ev (fun k => grapevineref01_More.l1 k l (r : Int) i j) R := by
  intro d
  induction d with
  | zero =>
    intro j r h0 hd hr h
    rw [it_zero] at h
    apply Ev.succ
    simp only [grapevineref01_More.l1, if_neg (show ¬ j < 8 by omega)]
    exact h
  | succ d ih =>
    intro j r h0 hd hr h
    have hw : wrap64 (j + 1) = j + 1 := wrap_ok (by omega) (by omega)
    rw [it_succ] at h
    have h2 := ih (j + 1) (b1 r) (by omega) (by omega) (b1_lt hr) h
    clear ih h
    apply Ev.succ
    simp only [grapevineref01_More.l1, if_pos (show j < 8 by omega), tmod_two, tdiv_two hr, hw]
    by_cases hp : r % 2 = 1
    · simp only [if_pos (show ((r % 2 : Nat) : Int) = 1 by omega), step_odd hr hp]
      exact h2
    · simp only [if_neg (show ¬ ((r % 2 : Nat) : Int) = 1 by omega)]
      rw [step_even hp] at h2
      exact h2
theorem bits_inv' {r : Nat} (hr : r < 4294967296) : Go.bits .xor .u32 (r : Int) 4294967295 = ((inv r : Nat) : Int) := by
  rw [ones_int, bits_xor hr ones_lt, Nat.xor_comm]
  rfl
theorem ref_l {l : List Int} (hl : IsB l) (hn : l.length ≤ 9223372036854775807) : ∀ (d : Nat) (i : Int) (r : Nat), 0 ≤ i → i.toNat + d = l.length → r < 4294967296 →
    Ev (fun k => grapevineref01_More.l0 k l r i) ((inv (reg r (nats (l.drop i.toNat))) : Nat) : Int) := by
  intro d
  induction d with
  | zero =>
    intro i r h0 hd hr
    refine Ev.done (fun k => ?_)
    simp only [grapevineref01_More.l0]
    rw [if_neg (by omega), List.drop_of_length_le (by omega)]
    rw [bits_inv' hr]
    rfl
  | succ d ih =>
    intro i r h0 hd hr
    have hx := hl _ (rd_mem h0 (by omega : i < l.length))
    have hw : wrap64 (i + 1) = i + 1 := wrap_ok (by omega) (by omega)
    have h2 := ih (i + 1) (b8 (r ^^^ (rd l i).toNat)) (by omega) (by omega) (b8_lt (xor_lt hr (by omega)))
    have e1 : rd l i % 4294967296 = (((rd l i).toNat : Nat) : Int) := by omega
    apply Ev.succ
    simp only [grapevineref01_More.l0, if_pos (show i < (l.length : Int) by omega), if_pos h0]
    have e2 : Go.bits .xor .u32 (r : Int) (rd l i % 4294967296) = ((r ^^^ (rd l i).toNat : Nat) : Int) := by rw [e1]; exact bits_xor hr (by omega)
    simp only [e2]
    refine ref_1 8 0 (r ^^^ (rd l i).toNat) (by omega) (by omega) (xor_lt hr (by omega)) ?_
    rw [rd_drop h0 (by omega), nats_cons, reg_cons, hw]
    exact h2
theorem refMore_ev {l : List Int} (hl : IsB l) (hn : l.length ≤ 9223372036854775807) {s : Nat} (hs : s < 4294967296) : Ev (fun k => grapevineref01_More.f k (s : Int) l) ((more s (nats l) : Nat) : Int) := by
  have h := ref_l hl hn l.length 0 (inv s) (by omega) (by simp) (inv_lt hs)
  unfold grapevineref01_More.f more
  simp only [bits_inv' hs]
  simpa using h
theorem refSum_ev {l : List Int} (hl : IsB l) (hn : l.length ≤ 9223372036854775807) : Ev (fun k => grapevineref01_Sum.f k l) ((more 0 (nats l) : Nat) : Int) := by
  unfold grapevineref01_Sum.f
  exact Ev.bind (refMore_ev hl hn (s := 0) (by decide)) (Ev.now _)
theorem Four_eq {n : Nat} (hn : n < 4294967296) : grapevineref01_Four.f (n : Int) = some [((n % 256 : Nat) : Int), ((n / 256 % 256 : Nat) : Int), ((n / 65536 % 256 : Nat) : Int), ((n / 16777216 % 256 : Nat) : Int)] := by
  unfold grapevineref01_Four.f
  rw [Int.tdiv_eq_ediv_of_nonneg (by omega), Int.tdiv_eq_ediv_of_nonneg (by omega), Int.tdiv_eq_ediv_of_nonneg (by omega)]
  congr 1
  simp only [List.cons.injEq, and_true]
  omega
theorem u8_wf {x : Int} (h : (Lit.int .u8 x).wf = true) : 0 ≤ x ∧ x < 256 := by
  simp only [Lit.wf, IntKind.min, IntKind.max, IntKind.signed, IntKind.bits, Bool.and_eq_true, decide_eq_true_eq] at h
  simp at h
  omega
theorem u32_wf {x : Int} (h : (Lit.int .u32 x).wf = true) : ∃ n : Nat, x = (n : Int) ∧ n < 4294967296 := by
  simp only [Lit.wf, IntKind.min, IntKind.max, IntKind.signed, IntKind.bits, Bool.and_eq_true, decide_eq_true_eq] at h
  simp at h
  exact ⟨x.toNat, by omega, by omega⟩
end Go.Proofs.YtoandmnefgimoaaDoor.PL

end

section
set_option linter.unusedSimpArgs false
set_option linter.unusedVariables false
namespace Go.Proofs.YtoandmnefgimoaaDoor.PL
open Go.RowKit Go.Proofs.YtoandmnefgimoaaDoorW.PrintWords Go.Proofs.YtoandmnefgimoaaDoorW.PrintMore Go.Proofs.YtoandmnefgimoaaDoor.Crc
def fourI (n : Nat) : List Int := [((n % 256 : Nat) : Int), ((n / 256 % 256 : Nat) : Int), ((n / 65536 % 256 : Nat) : Int), ((n / 16777216 % 256 : Nat) : Int)]
theorem fourI_length (n : Nat) : (fourI n).length = 4 := rfl
theorem fourI_b (n : Nat) : IsB (fourI n) := by
  intro x hx
  simp only [fourI, List.mem_cons, List.not_mem_nil, or_false] at hx
  omega
theorem IsB_append {l m : List Int} (hl : IsB l) (hm : IsB m) : IsB (l ++ m) := fun x hx => (List.mem_append.1 hx).elim (hl x) (hm x)
theorem IsB_cons {x : Int} {l : List Int} (h0 : 0 ≤ x) (h1 : x < 256) (hl : IsB l) : IsB (x :: l) := fun y hy => (List.mem_cons.1 hy).elim (fun e => by rw [e]; exact ⟨h0, h1⟩) (hl y)
theorem IsB_take {l : List Int} (hl : IsB l) (n : Nat) : IsB (l.take n) := fun x hx => hl x (List.mem_of_mem_take hx)
theorem IsB_drop {l : List Int} (hl : IsB l) (n : Nat) : IsB (l.drop n) := fun x hx => hl x (List.mem_of_mem_drop hx)
theorem IsB_nil : IsB [] := fun x hx => by simp at hx
def crc (l : List Int) : Nat := more 0 (nats l)
theorem crc_lt {l : List Int} (h : IsB l) : crc l < 4294967296 := more_lt (nats_bytes h) (by decide)
def bodyS (kind : Int) (b : List Int) : List Int := kind :: ((b.length % 256 : Nat) : Int) :: ((b.length / 256 % 256 : Nat) : Int) :: b
def sealdS (kind : Int) (b : List Int) : List Int := 167 :: (bodyS kind b ++ fourI (crc (bodyS kind b)))
def sealR (kind : Int) (b : List Int) : List Int × Int := if 4096 < b.length then ([], 6) else (sealdS kind b, 0)
theorem bodyS_length (kind : Int) (b : List Int) : (bodyS kind b).length = b.length + 3 := rfl
theorem sealdS_length (kind : Int) (b : List Int) : (sealdS kind b).length = b.length + 8 := by
  simp [sealdS, bodyS_length, fourI_length]
theorem bodyS_b {kind : Int} {b : List Int} (h0 : 0 ≤ kind) (h1 : kind < 256) (hb : IsB b) : IsB (bodyS kind b) := IsB_cons h0 h1 (IsB_cons (by omega) (by omega) (IsB_cons (by omega) (by omega) hb))
theorem sealdS_b {kind : Int} {b : List Int} (h0 : 0 ≤ kind) (h1 : kind < 256) (hb : IsB b) : IsB (sealdS kind b) := IsB_cons (by omega) (by omega) (IsB_append (bodyS_b h0 h1 hb) (fourI_b _))
def openT (t : List Int) (a : Int) : (Int × Int × List Int) × Int × Int :=
  if t.length = 0 then ((0, 0, []), 0, 3) else
  if rd t 0 ≠ 167 then ((0, 0, []), 0, 4) else
  if t.length < 4 then ((0, 0, []), 0, 3) else
  if 4096 < rd t 2 + 256 * rd t 3 then ((0, 0, []), 0, 6) else
  if (t.length : Int) < rd t 2 + 256 * rd t 3 + 8 then ((0, 0, []), 0, 3) else
  if fourI (crc ((t.drop 1).take (rd t 2 + 256 * rd t 3 + 3).toNat)) = (t.drop (rd t 2 + 256 * rd t 3 + 4).toNat).take 4 then
    ((rd t 1, a, (t.drop 4).take (rd t 2 + 256 * rd t 3).toNat), a + (rd t 2 + 256 * rd t 3) + 8, 0)
  else ((0, 0, []), 0, 5)
def openR (l : List Int) (a : Int) : (Int × Int × List Int) × Int × Int :=
  if a < 0 ∨ (l.length : Int) < a then ((0, 0, []), 0, 2) else openT (l.drop a.toNat) a
end Go.Proofs.YtoandmnefgimoaaDoor.PL

end

section
set_option linter.unusedSimpArgs false
set_option linter.unusedVariables false
namespace Go.Proofs.YtoandmnefgimoaaDoor.PL
open Go.RowKit Go.Proofs.YtoandmnefgimoaaDoorW.PrintWords Go.Proofs.YtoandmnefgimoaaDoorW.PrintMore Go.Proofs.YtoandmnefgimoaaDoor.Crc
theorem four_int (n : Nat) : ([(n : Int) % 256, (n : Int) / 256 % 256, (n : Int) / 65536 % 256, (n : Int) / 16777216 % 256] : List Int) = fourI n := by
  simp only [fourI, List.cons.injEq, and_true]
  omega
theorem Seal_ev {kind : Int} {b : List Int} (h0 : 0 ≤ kind) (h1 : kind < 256) (hb : IsB b) : Ev (fun k => seal_Seal.f k kind b) (sealR kind b) := by
  unfold seal_Seal.f sealR
  by_cases h : 4096 < b.length
  · simp only [if_pos h, if_pos (show (b.length : Int) > 4096 by omega)]
    exact Ev.now _
  · simp only [if_neg h, if_neg (show ¬ (b.length : Int) > 4096 by omega)]
    have e1 : (kind :: ((b.length : Int) % 256) :: ((b.length : Int) / 256 % 256) :: b) = bodyS kind b := by
      simp only [bodyS, List.cons.injEq, and_true, true_and]; omega
    rw [e1]
    refine Ev.bind (Sum_ev (bodyS_b h0 h1 hb) (by rw [bodyS_length]; omega)) ?_
    rw [four_int]
    exact Ev.now _
theorem refSeal_ev {kind : Int} {b : List Int} (h0 : 0 ≤ kind) (h1 : kind < 256) (hb : IsB b) : Ev (fun k => grapevineref01_Seal.f k kind b) (sealR kind b) := by
  unfold grapevineref01_Seal.f sealR
  by_cases h : 4096 < b.length
  · simp only [if_pos h, if_pos (show (b.length : Int) > 4096 by omega)]
    exact Ev.now _
  · have hw : wrap64 ((b.length : Int) / 256) = (b.length : Int) / 256 := wrap_ok (by omega) (by omega)
    simp only [if_neg h, if_neg (show ¬ (b.length : Int) > 4096 by omega), Option.bind_some, hw]
    have e1 : ([kind, (b.length : Int) % 256, ((b.length : Int) / 256) % 256] ++ b : List Int) = bodyS kind b := by
      simp only [bodyS, List.cons_append, List.nil_append, List.cons.injEq, and_true, true_and]; omega
    have hl := bodyS_length kind b
    have hc := crc_lt (bodyS_b h0 h1 hb)
    simp only [e1, if_pos (show ([kind, (b.length : Int) % 256, ((b.length : Int) / 256) % 256] : List Int).length + b.length < 140737488355328 by simp; omega), if_pos (show ([167] : List Int).length + (bodyS kind b).length < 140737488355328 by simp [hl]; omega)]
    refine Ev.bind (refSum_ev (bodyS_b h0 h1 hb) (by rw [hl]; omega)) ?_
    have e4 : grapevineref01_Four.f ((more 0 (nats (bodyS kind b)) : Nat) : Int) = some (fourI (crc (bodyS kind b))) := Four_eq hc
    simp only [e4, Option.bind_some, if_pos (show ([167] ++ bodyS kind b : List Int).length + (fourI (crc (bodyS kind b))).length < 140737488355328 by simp [hl, fourI_length]; omega)]
    exact Ev.now _
def flat (x : (Int × Int × List Int) × Int × Int) : Int × Int × List Int × Int × Int := (x.1.1, x.1.2.1, x.1.2.2, x.2.1, x.2.2)
theorem wrapi_ok {x : Int} (h : -9223372036854775808 ≤ x) (h' : x ≤ 9223372036854775807) : IntKind.i64.wrap x = x := by
  simp only [IntKind.wrap, IntKind.bits, IntKind.signed]
  simp
  omega
theorem or_bytes {a b : Nat} (ha : a < 256) (hb : b < 256) : Go.bits .or .i64 (a : Int) ((b * 256 : Nat) : Int) = ((a + 256 * b : Nat) : Int) := by
  have e1 : a ||| b * 256 = a + 256 * b := by
    have := Nat.two_pow_add_eq_or_of_lt (i := 8) (b := a) (by omega) b
    rw [Nat.or_comm, Nat.mul_comm b 256, ← show 2 ^ 8 * b + a = 256 * b ||| a from this]
    omega
  have e : (BitVec.ofInt 64 (a : Int) ||| BitVec.ofInt 64 ((b * 256 : Nat) : Int)).toNat = a + 256 * b := by
    rw [BitVec.toNat_or, BitVec.ofInt_natCast, BitVec.ofInt_natCast, BitVec.toNat_ofNat, BitVec.toNat_ofNat, Nat.mod_eq_of_lt (by omega), Nat.mod_eq_of_lt (by omega), e1]
  show IntKind.i64.wrap (((BitVec.ofInt 64 (a : Int) ||| BitVec.ofInt 64 ((b * 256 : Nat) : Int)).toNat : Nat) : Int) = _
  rw [e, wrapi_ok (by omega) (by omega)]
theorem rd_b {l : List Int} (hl : IsB l) (i : Int) : 0 ≤ rd l i ∧ rd l i < 256 := by
  unfold rd
  rw [List.getD_eq_getElem?_getD]
  cases h : l[i.toNat]? with
  | none => simp
  | some x => exact hl x (List.mem_of_getElem? h)
theorem open_n {t : List Int} (ht : IsB t) : seal_Open.n t = rd t 2 + 256 * rd t 3 := by
  have h2 := rd_b ht 2
  have h3 := rd_b ht 3
  unfold seal_Open.n
  rw [wrap_ok (by omega) (by omega), wrap_ok (x := rd t 3) (by omega) (by omega), wrap_ok (by omega) (by omega)]
  obtain ⟨a, ea⟩ : ∃ a : Nat, rd t 2 = (a : Int) := ⟨(rd t 2).toNat, by omega⟩
  obtain ⟨b, eb⟩ : ∃ b : Nat, rd t 3 = (b : Int) := ⟨(rd t 3).toNat, by omega⟩
  have := or_bytes (a := a) (b := b) (by omega) (by omega)
  rw [ea, eb]
  rw [show ((b : Int) * 256) = ((b * 256 : Nat) : Int) by omega, this]
  omega
theorem take4 {t : List Int} {i : Int} (h0 : 0 ≤ i) (h : i + 4 ≤ t.length) : (t.drop i.toNat).take 4 = [rd t i, rd t (i + 1), rd t (i + 2), rd t (i + 3)] := by
  rw [rd_drop h0 (by omega), rd_drop (i := i + 1) (by omega) (by omega), rd_drop (i := i + 1 + 1) (by omega) (by omega), rd_drop (i := i + 1 + 1 + 1) (by omega) (by omega)]
  simp only [List.take_succ_cons, List.take_zero]
  rw [show i + 1 + 1 = i + 2 by omega, show i + 2 + 1 = i + 3 by omega]
theorem four_iff {s : Nat} {a b c d : Int} : fourI s = [a, b, c, d] ↔ a = (s : Int) % 256 ∧ b = (s : Int) / 256 % 256 ∧ c = (s : Int) / 65536 % 256 ∧ d = (s : Int) / 16777216 % 256 := by
  rw [← four_int]
  simp only [List.cons.injEq, and_true]
  constructor
  · rintro ⟨rfl, rfl, rfl, rfl⟩; simp
  · rintro ⟨rfl, rfl, rfl, rfl⟩; simp
theorem Open_ev {l : List Int} {a : Int} (hl : IsB l) (hn : l.length ≤ 4611686018427387904) : Ev (fun k => seal_Open.f k l a) (flat (openR l a)) := by
  unfold seal_Open.f openR
  by_cases h1 : a < 0
  · simp only [if_pos h1, if_pos (show a < 0 ∨ (l.length : Int) < a from .inl h1)]
    exact Ev.now _
  by_cases h2 : a > (l.length : Int)
  · simp only [if_neg h1, if_pos h2, if_pos (show a < 0 ∨ (l.length : Int) < a from .inr h2)]
    exact Ev.now _
  simp only [if_neg h1, if_neg h2, if_neg (show ¬ (a < 0 ∨ (l.length : Int) < a) by omega)]
  obtain ⟨t, ht⟩ : ∃ t, t = l.drop a.toNat := ⟨_, rfl⟩
  have hb : IsB t := ht ▸ IsB_drop hl _
  have htl : t.length = l.length - a.toNat := by rw [ht, List.length_drop]
  simp only [← ht, open_n hb]
  unfold openT
  by_cases h3 : t.length = 0
  · simp only [if_pos h3, if_pos (show ((t.length : Nat) : Int) = 0 by omega)]
    exact Ev.now _
  by_cases h4 : rd t 0 = 167
  case neg =>
    simp only [if_neg h3, if_neg (show ¬ ((t.length : Nat) : Int) = 0 by omega), if_neg h4, if_pos (show rd t 0 ≠ 167 from h4)]
    exact Ev.now _
  simp only [if_neg h3, if_neg (show ¬ ((t.length : Nat) : Int) = 0 by omega), if_pos h4, if_neg (show ¬ rd t 0 ≠ 167 by simpa using h4)]
  by_cases h5 : t.length < 4
  · simp only [if_pos h5, if_pos (show ((t.length : Nat) : Int) < 4 by omega)]
    exact Ev.now _
  have b2 := rd_b hb 2
  have b3 := rd_b hb 3
  obtain ⟨n, hn'⟩ : ∃ n, n = rd t 2 + 256 * rd t 3 := ⟨_, rfl⟩
  have hn0 : 0 ≤ n := by omega
  simp only [if_neg h5, if_neg (show ¬ ((t.length : Nat) : Int) < 4 by omega), ← hn']
  by_cases h6 : 4096 < n
  · simp only [if_pos h6, if_pos (show n > 4096 from h6)]
    exact Ev.now _
  simp only [if_neg h6, if_neg (show ¬ n > 4096 from h6), if_pos hn0]
  by_cases h7 : (t.length : Int) < n + 8
  · simp only [if_pos h7]
    exact Ev.now _
  simp only [if_neg h7]
  unfold seal_Open.t
  have ey : (t.take (4 + n).toNat).drop 1 = (t.drop 1).take (n + 3).toNat := by
    rw [List.drop_take, show (4 + n).toNat - 1 = (n + 3).toNat by omega]
  have hyb : IsB ((t.drop 1).take (n + 3).toNat) := IsB_take (IsB_drop hb _) _
  have hyl : ((t.drop 1).take (n + 3).toNat).length ≤ 9223372036854775807 := by rw [List.length_take, List.length_drop]; omega
  rw [ey]
  refine Ev.bind (Sum_ev hyb hyl) ?_
  have e4 := take4 (t := t) (i := n + 4) (by omega) (by omega)
  rw [e4]
  have w1 : wrap64 (a + n) = a + n := wrap_ok (by omega) (by omega)
  have w2 : wrap64 (a + n + 8) = a + n + 8 := wrap_ok (by omega) (by omega)
  rw [w1, w2, show 4 + n = n + 4 by omega, show 5 + n = n + 4 + 1 by omega, show 6 + n = n + 4 + 2 by omega, show 7 + n = n + 4 + 3 by omega]
  generalize hs : (more 0 (nats ((t.drop 1).take (n + 3).toNat)) : Nat) = s
  have hcr : crc ((t.drop 1).take (n + 3).toNat) = s := hs
  rw [hcr]
  by_cases e : fourI s = [rd t (n + 4), rd t (n + 4 + 1), rd t (n + 4 + 2), rd t (n + 4 + 3)]
  · obtain ⟨p1, p2, p3, p4⟩ := four_iff.1 e
    simp only [if_pos e, if_pos p1, if_pos p2, if_pos p3, if_pos p4]
    exact Ev.now _
  · simp only [if_neg e]
    have hne := fun h => e (four_iff.2 h)
    by_cases p1 : rd t (n + 4) = (s : Int) % 256
    · by_cases p2 : rd t (n + 4 + 1) = (s : Int) / 256 % 256
      · by_cases p3 : rd t (n + 4 + 2) = (s : Int) / 65536 % 256
        · have p4 : ¬ rd t (n + 4 + 3) = (s : Int) / 16777216 % 256 := fun p4 => hne ⟨p1, p2, p3, p4⟩
          simp only [if_pos p1, if_pos p2, if_pos p3, if_neg p4]
          exact Ev.now _
        · simp only [if_pos p1, if_pos p2, if_neg p3]
          exact Ev.now _
      · simp only [if_pos p1, if_neg p2]
        exact Ev.now _
    · simp only [if_neg p1]
      exact Ev.now _
end Go.Proofs.YtoandmnefgimoaaDoor.PL

end
