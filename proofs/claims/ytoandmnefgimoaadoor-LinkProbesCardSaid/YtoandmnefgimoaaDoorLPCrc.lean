/-
  PLAIN MATHEMATICS, no program in sight: CRC-32C by half bytes is CRC-32C by bits; the sum goes on; bytes with their own sum behind; sums of rows that part in up to four bytes.
-/
namespace Go.Proofs.YtoandmnefgimoaaDoor.Crc
def poly : Nat := 2197175160
def b1 (r : Nat) : Nat := (r / 2) ^^^ (if r % 2 = 1 then poly else 0)
def b4 (r : Nat) : Nat := b1 (b1 (b1 (b1 r)))
def b8 (r : Nat) : Nat := b4 (b4 r)
def tab : List Nat := [0, 274646895, 549293790, 820201905, 1098587580, 1361435347, 1640403810, 1905808397, 2197175160, 2460548119, 2722870694, 2987750089, 3280807620, 3553878443, 3811616794, 4084100981]
def h4 (r : Nat) : Nat := (r / 16) ^^^ (tab.getD (r % 16) 0)
def reg (r : Nat) (l : List Nat) : Nat := l.foldl (fun r x => b8 (r ^^^ x)) r
def ones : Nat := 4294967295
def inv (r : Nat) : Nat := ones ^^^ r
def more (s : Nat) (l : List Nat) : Nat := inv (reg (inv s) l)
theorem pow32 : (4294967296 : Nat) = 2 ^ 32 := by decide
theorem xor_lt {a b : Nat} (ha : a < 4294967296) (hb : b < 4294967296) : a ^^^ b < 4294967296 := by
  rw [pow32] at *
  exact Nat.xor_lt_two_pow ha hb
theorem ones_lt : ones < 4294967296 := by unfold ones; omega
theorem inv_lt {a : Nat} (ha : a < 4294967296) : inv a < 4294967296 := xor_lt ones_lt ha
theorem poly_if_lt (c : Prop) [Decidable c] : (if c then poly else 0) < 4294967296 := by
  split
  · unfold poly; omega
  · omega
theorem b1_lt {r : Nat} (h : r < 4294967296) : b1 r < 4294967296 := xor_lt (by omega) (poly_if_lt _)
theorem b4_lt {r : Nat} (h : r < 4294967296) : b4 r < 4294967296 := b1_lt (b1_lt (b1_lt (b1_lt h)))
theorem b8_lt {r : Nat} (h : r < 4294967296) : b8 r < 4294967296 := b4_lt (b4_lt h)
theorem half_xor (a c : Nat) : (a ^^^ c) / 2 = a / 2 ^^^ c / 2 := Nat.xor_div_two
theorem mod2_xor (a c : Nat) : (a ^^^ c) % 2 = (a + c) % 2 := by
  have h := Nat.xor_mod_two_eq_one (a := a) (b := c)
  omega
theorem xor_zero {a b : Nat} (h : a ^^^ b = 0) : a = b := by
  have h1 : (a ^^^ b) ^^^ b = b := by rw [h, Nat.zero_xor]
  rwa [Nat.xor_assoc, Nat.xor_self, Nat.xor_zero] at h1
theorem xor4 (a b c d : Nat) : (a ^^^ b) ^^^ (c ^^^ d) = (a ^^^ c) ^^^ (b ^^^ d) := by
  rw [Nat.xor_assoc, Nat.xor_assoc, ← Nat.xor_assoc b c d, Nat.xor_comm b c, Nat.xor_assoc c b d]
theorem b1_xor (a c : Nat) : b1 (a ^^^ c) = b1 a ^^^ b1 c := by
  unfold b1
  rw [xor4, half_xor]
  congr 1
  have h := mod2_xor a c
  by_cases h1 : a % 2 = 1 <;> by_cases h2 : c % 2 = 1
  · rw [if_neg (by omega), if_pos h1, if_pos h2, Nat.xor_self]
  · rw [if_pos (by omega), if_pos h1, if_neg h2, Nat.xor_zero]
  · rw [if_pos (by omega), if_neg h1, if_pos h2, Nat.zero_xor]
  · rw [if_neg (by omega), if_neg h1, if_neg h2, Nat.xor_self]
theorem b4_xor (a c : Nat) : b4 (a ^^^ c) = b4 a ^^^ b4 c := by unfold b4; rw [b1_xor, b1_xor, b1_xor, b1_xor]
theorem b1_two (q : Nat) : b1 (2 * q) = q := by
  unfold b1; rw [if_neg (by omega), Nat.xor_zero]; omega
theorem b4_16 (q : Nat) : b4 (16 * q) = q := by
  unfold b4
  rw [show 16 * q = 2 * (2 * (2 * (2 * q))) by omega, b1_two, b1_two, b1_two, b1_two]
theorem split16 (r : Nat) : r = 16 * (r / 16) ^^^ r % 16 := by
  have h := Nat.two_pow_add_eq_or_of_lt (i := 4) (b := r % 16) (by omega) (r / 16)
  have h2 : 16 * (r / 16) ||| r % 16 = 16 * (r / 16) ^^^ r % 16 := by
    apply Nat.eq_of_testBit_eq
    intro i
    rw [Nat.testBit_or, Nat.testBit_xor]
    by_cases hi : i < 4
    · have : (16 * (r / 16)).testBit i = false := by
        rw [show 16 * (r / 16) = 2 ^ 4 * (r / 16) from rfl, Nat.testBit_two_pow_mul]
        simp; omega
      rw [this]; simp
    · have : (r % 16).testBit i = false := by
        rw [show (16 : Nat) = 2 ^ 4 from rfl, Nat.testBit_mod_two_pow]
        simp; omega
      rw [this]; simp
  rw [← h2, ← show 2 ^ 4 * (r / 16) + r % 16 = 16 * (r / 16) ||| r % 16 from h]
  omega
theorem tab_b4 : ∀ s : Fin 16, tab.getD s.val 0 = b4 s.val := by decide +kernel
theorem h4_eq (r : Nat) : h4 r = b4 r := by
  unfold h4
  conv => rhs; rw [split16 r]
  rw [b4_xor, b4_16, tab_b4 ⟨r % 16, Nat.mod_lt _ (by decide)⟩]
def Bytes (l : List Nat) : Prop := ∀ x ∈ l, x < 256
theorem reg_cons (r x : Nat) (l : List Nat) : reg r (x :: l) = reg (b8 (r ^^^ x)) l := rfl
def b8s : Nat → Nat → Nat
  | 0, r => r
  | n + 1, r => b8s n (b8 r)
def four (n : Nat) : List Nat := [n % 256, n / 256 % 256, n / 65536 % 256, n / 16777216 % 256]
def rest : Nat := b8s 4 ones
end Go.Proofs.YtoandmnefgimoaaDoor.Crc
