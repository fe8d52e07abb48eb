/-
  PLAIN MATHEMATICS, no program in sight: CRC-32C by half bytes is CRC-32C by bits; the sum goes on; bytes with their own sum behind; sums of rows that part in up to four bytes.
-/
namespace Go.Proofs.YtnbhlaoblnalpaaDoor.Crc

def poly : Nat := 2197175160
def b1 (r : Nat) : Nat := (r / 2) ^^^ (if r % 2 = 1 then poly else 0)
def b4 (r : Nat) : Nat := b1 (b1 (b1 (b1 r)))
def b8 (r : Nat) : Nat := b4 (b4 r)
def tab : List Nat := [0, 274646895, 549293790, 820201905, 1098587580, 1361435347, 1640403810, 1905808397, 2197175160, 2460548119, 2722870694, 2987750089, 3280807620, 3553878443, 3811616794, 4084100981]
def h4 (r : Nat) : Nat := (r / 16) ^^^ (tab.getD (r % 16) 0)
def reg (r : Nat) (l : List Nat) : Nat := l.foldl (fun r x => b8 (r ^^^ x)) r
def ones : Nat := 4294967295
def inv (r : Nat) : Nat := ones ^^^ r
def more (s : Nat) (l : List Nat) : Nat := inv (reg (inv s) l)

theorem pow32 : (4294967296 : Nat) = 2 ^ 32 := by decide
theorem xor_lt {a b : Nat} (ha : a < 4294967296) (hb : b < 4294967296) : a ^^^ b < 4294967296 := by
  rw [pow32] at *
  exact Nat.xor_lt_two_pow ha hb
theorem ones_lt : ones < 4294967296 := by unfold ones; omega
theorem inv_lt {a : Nat} (ha : a < 4294967296) : inv a < 4294967296 := xor_lt ones_lt ha
theorem xor_xor (k a : Nat) : k ^^^ (k ^^^ a) = a := by
  rw [← Nat.xor_assoc, Nat.xor_self, Nat.zero_xor]
theorem inv_def (r : Nat) : inv r = ones ^^^ r := rfl
theorem inv_inv (a : Nat) : inv (inv a) = a := by rw [inv_def, inv_def]; exact xor_xor ones a

theorem poly_if_lt (c : Prop) [Decidable c] : (if c then poly else 0) < 4294967296 := by
  split
  · unfold poly; omega
  · omega
theorem b1_lt {r : Nat} (h : r < 4294967296) : b1 r < 4294967296 := xor_lt (by omega) (poly_if_lt _)
theorem b4_lt {r : Nat} (h : r < 4294967296) : b4 r < 4294967296 := b1_lt (b1_lt (b1_lt (b1_lt h)))
theorem b8_lt {r : Nat} (h : r < 4294967296) : b8 r < 4294967296 := b4_lt (b4_lt h)

theorem half_xor (a c : Nat) : (a ^^^ c) / 2 = a / 2 ^^^ c / 2 := Nat.xor_div_two
theorem mod2_xor (a c : Nat) : (a ^^^ c) % 2 = (a + c) % 2 := by
  have h := Nat.xor_mod_two_eq_one (a := a) (b := c)
  omega
theorem xor_zero {a b : Nat} (h : a ^^^ b = 0) : a = b := by
  have h1 : (a ^^^ b) ^^^ b = b := by rw [h, Nat.zero_xor]
  rwa [Nat.xor_assoc, Nat.xor_self, Nat.xor_zero] at h1

theorem xor4 (a b c d : Nat) : (a ^^^ b) ^^^ (c ^^^ d) = (a ^^^ c) ^^^ (b ^^^ d) := by
  rw [Nat.xor_assoc, Nat.xor_assoc, ← Nat.xor_assoc b c d, Nat.xor_comm b c, Nat.xor_assoc c b d]

theorem b1_xor (a c : Nat) : b1 (a ^^^ c) = b1 a ^^^ b1 c := by
  unfold b1
  rw [xor4, half_xor]
  congr 1
  have h := mod2_xor a c
  by_cases h1 : a % 2 = 1 <;> by_cases h2 : c % 2 = 1
  · rw [if_neg (by omega), if_pos h1, if_pos h2, Nat.xor_self]
  · rw [if_pos (by omega), if_pos h1, if_neg h2, Nat.xor_zero]
  · rw [if_pos (by omega), if_neg h1, if_pos h2, Nat.zero_xor]
  · rw [if_neg (by omega), if_neg h1, if_neg h2, Nat.xor_self]
theorem b4_xor (a c : Nat) : b4 (a ^^^ c) = b4 a ^^^ b4 c := by unfold b4; rw [b1_xor, b1_xor, b1_xor, b1_xor]
theorem b8_xor (a c : Nat) : b8 (a ^^^ c) = b8 a ^^^ b8 c := by unfold b8; rw [b4_xor, b4_xor]
theorem b1_two (q : Nat) : b1 (2 * q) = q := by
  unfold b1; rw [if_neg (by omega), Nat.xor_zero]; omega
theorem b4_16 (q : Nat) : b4 (16 * q) = q := by
  unfold b4
  rw [show 16 * q = 2 * (2 * (2 * (2 * q))) by omega, b1_two, b1_two, b1_two, b1_two]
theorem b8_256 (q : Nat) : b8 (256 * q) = q := by
  unfold b8; rw [show 256 * q = 16 * (16 * q) by omega, b4_16, b4_16]

/-- a number as its upper part and its lower four bits -/
theorem split16 (r : Nat) : r = 16 * (r / 16) ^^^ r % 16 := by
  have h := Nat.two_pow_add_eq_or_of_lt (i := 4) (b := r % 16) (by omega) (r / 16)
  have h2 : 16 * (r / 16) ||| r % 16 = 16 * (r / 16) ^^^ r % 16 := by
    apply Nat.eq_of_testBit_eq
    intro i
    rw [Nat.testBit_or, Nat.testBit_xor]
    by_cases hi : i < 4
    · have : (16 * (r / 16)).testBit i = false := by
        rw [show 16 * (r / 16) = 2 ^ 4 * (r / 16) from rfl, Nat.testBit_two_pow_mul]
        simp; omega
      rw [this]; simp
    · have : (r % 16).testBit i = false := by
        rw [show (16 : Nat) = 2 ^ 4 from rfl, Nat.testBit_mod_two_pow]
        simp; omega
      rw [this]; simp
  rw [← h2, ← show 2 ^ 4 * (r / 16) + r % 16 = 16 * (r / 16) ||| r % 16 from h]
  omega

theorem tab_b4 : ∀ s : Fin 16, tab.getD s.val 0 = b4 s.val := by decide +kernel

theorem h4_eq (r : Nat) : h4 r = b4 r := by
  unfold h4
  conv => rhs; rw [split16 r]
  rw [b4_xor, b4_16, tab_b4 ⟨r % 16, Nat.mod_lt _ (by decide)⟩]

theorem b1_zero {d : Nat} (hd : d < 4294967296) (h : b1 d = 0) : d = 0 := by
  unfold b1 at h
  have h' := xor_zero h
  by_cases h1 : d % 2 = 1
  · rw [if_pos h1] at h'
    unfold poly at h'
    omega
  · rw [if_neg h1] at h'
    omega
theorem b4_zero {d : Nat} (hd : d < 4294967296) (h : b4 d = 0) : d = 0 :=
  b1_zero hd (b1_zero (b1_lt hd) (b1_zero (b1_lt (b1_lt hd)) (b1_zero (b1_lt (b1_lt (b1_lt hd))) h)))
theorem b8_zero {d : Nat} (hd : d < 4294967296) (h : b8 d = 0) : d = 0 := b4_zero hd (b4_zero (b4_lt hd) h)
theorem b8_inj {a c : Nat} (ha : a < 4294967296) (hc : c < 4294967296) (h : b8 a = b8 c) : a = c := by
  have h0 : b8 (a ^^^ c) = 0 := by rw [b8_xor, h, Nat.xor_self]
  exact xor_zero (b8_zero (xor_lt ha hc) h0)

def Bytes (l : List Nat) : Prop := ∀ x ∈ l, x < 256

theorem reg_append (r : Nat) (l m : List Nat) : reg r (l ++ m) = reg (reg r l) m := by unfold reg; rw [List.foldl_append]
theorem reg_cons (r x : Nat) (l : List Nat) : reg r (x :: l) = reg (b8 (r ^^^ x)) l := rfl
theorem reg_lt {l : List Nat} (hl : Bytes l) : ∀ {r : Nat}, r < 4294967296 → reg r l < 4294967296 := by
  induction l with
  | nil => intro r h; exact h
  | cons x t ih =>
    intro r h
    rw [reg_cons]
    have hx : x < 256 := hl x (by simp)
    exact ih (fun y hy => hl y (by simp [hy])) (b8_lt (xor_lt h (by omega)))
theorem reg_inj {l : List Nat} (hl : Bytes l) : ∀ {a c : Nat}, a < 4294967296 → c < 4294967296 → reg a l = reg c l → a = c := by
  induction l with
  | nil => intro a c _ _ h; exact h
  | cons x t ih =>
    intro a c ha hc h
    have hx : x < 256 := hl x (by simp)
    rw [reg_cons, reg_cons] at h
    have h1 := ih (fun y hy => hl y (by simp [hy])) (b8_lt (xor_lt ha (by omega))) (b8_lt (xor_lt hc (by omega))) h
    have h2 := b8_inj (xor_lt ha (by omega)) (xor_lt hc (by omega)) h1
    have h3 : (a ^^^ x) ^^^ x = (c ^^^ x) ^^^ x := by rw [h2]
    rwa [Nat.xor_assoc, Nat.xor_assoc, Nat.xor_self, Nat.xor_zero, Nat.xor_zero] at h3

/-- bytes as a number, the lowest first, by xor -/
def le : List Nat → Nat
  | [] => 0
  | x :: t => x ^^^ 256 * le t
def b8s : Nat → Nat → Nat
  | 0, r => r
  | n + 1, r => b8s n (b8 r)
theorem le_nil : le [] = 0 := rfl
theorem le_cons (x : Nat) (t : List Nat) : le (x :: t) = x ^^^ 256 * le t := rfl
theorem b8s_succ (n r : Nat) : b8s (n + 1) r = b8s n (b8 r) := rfl
theorem b8s_inj : ∀ (n : Nat) {a c : Nat}, a < 4294967296 → c < 4294967296 → b8s n a = b8s n c → a = c
  | 0, _, _, _, _, h => h
  | n + 1, _, _, ha, hc, h => b8_inj ha hc (b8s_inj n (b8_lt ha) (b8_lt hc) h)
theorem reg_le : ∀ (l : List Nat) (r : Nat), reg r l = b8s l.length (r ^^^ le l)
  | [], r => by simp [reg, le, b8s]
  | x :: t, r => by
    rw [reg_cons, reg_le t, List.length_cons]
    rw [le_cons, b8s_succ, ← Nat.xor_assoc, b8_xor (r ^^^ x), b8_256]
theorem le_lt_aux {x q : Nat} (hx : x < 256) {n : Nat} (hq : q < 256 ^ n) : x ^^^ 256 * q < 256 ^ (n + 1) := by
  have e : 256 ^ (n + 1) = 2 ^ (8 * (n + 1)) := by rw [show (256 : Nat) = 2 ^ 8 from rfl, ← Nat.pow_mul]
  rw [e]
  apply Nat.xor_lt_two_pow
  · rw [← e, Nat.pow_succ]
    have := Nat.pow_pos (n := n) (show 0 < 256 by decide)
    omega
  · rw [← e, Nat.pow_succ]; omega
theorem le_lt : ∀ {l : List Nat}, Bytes l → le l < 256 ^ l.length
  | [], _ => by simp [le]
  | x :: t, h => by
    rw [le_cons, List.length_cons]
    exact le_lt_aux (h x (by simp)) (le_lt (fun y hy => h y (by simp [hy])))
theorem le_lt32 {l : List Nat} (h : Bytes l) (hn : l.length ≤ 4) : le l < 4294967296 :=
  Nat.lt_of_lt_of_le (le_lt h) (Nat.pow_le_pow_right (n := 256) (by decide) hn)
theorem xor256 {x q : Nat} (hx : x < 256) : x ^^^ 256 * q = x + 256 * q := by
  have h2 : 256 * q ||| x = x ^^^ 256 * q := by
    apply Nat.eq_of_testBit_eq
    intro i
    rw [Nat.testBit_or, Nat.testBit_xor]
    by_cases hi : i < 8
    · have : (256 * q).testBit i = false := by
        rw [show 256 * q = 2 ^ 8 * q from rfl, Nat.testBit_two_pow_mul]
        simp; omega
      rw [this]; simp
    · have : x.testBit i = false := Nat.testBit_lt_two_pow (Nat.lt_of_lt_of_le hx (Nat.pow_le_pow_right (n := 2) (by decide) (Nat.le_of_not_lt hi)))
      rw [this]; simp
  rw [← h2, ← show 2 ^ 8 * q + x = 256 * q ||| x from Nat.two_pow_add_eq_or_of_lt (by omega) q]
  omega
theorem le_eq : ∀ {l : List Nat}, Bytes l → ∀ {m : List Nat}, Bytes m → l.length = m.length → le l = le m → l = m
  | [], _, [], _, _, _ => rfl
  | x :: t, h, y :: u, k, hn, e => by
    have hx : x < 256 := h x (by simp)
    have hy : y < 256 := k y (by simp)
    rw [le_cons, le_cons] at e
    rw [xor256 hx, xor256 hy] at e
    have e1 : x = y := by omega
    have e2 : le t = le u := by omega
    rw [e1, le_eq (fun z hz => h z (by simp [hz])) (fun z hz => k z (by simp [hz])) (by simpa using hn) e2]
  | [], _, _ :: _, _, hn, _ => by simp at hn
  | _ :: _, _, [], _, hn, _ => by simp at hn

/-- A number in four bytes, the lowest first. -/
def four (n : Nat) : List Nat := [n % 256, n / 256 % 256, n / 65536 % 256, n / 16777216 % 256]
theorem four_bytes (n : Nat) : Bytes (four n) := by
  intro x hx
  simp only [four, List.mem_cons, List.not_mem_nil, or_false] at hx
  omega
theorem le_four {n : Nat} (h : n < 4294967296) : le (four n) = n := by
  unfold four
  rw [le_cons, le_cons, le_cons, le_cons, le_nil]
  rw [xor256 (by omega), xor256 (by omega), xor256 (by omega), xor256 (by omega)]
  omega
def rest : Nat := b8s 4 ones
/-- Behind bytes, four more bytes: the register is the one number just if they are the sum. -/
theorem reg_rest {l f : List Nat} (hl : Bytes l) (hf : Bytes f) (hn : f.length = 4) {s : Nat} (hs : s < 4294967296) :
    reg s (l ++ f) = rest ↔ f = four (inv (reg s l)) := by
  have hr := reg_lt hl hs
  have hfl := le_lt32 hf (by omega)
  rw [reg_append, reg_le f, hn]
  unfold rest
  constructor
  · intro h
    have h1 := b8s_inj 4 (xor_lt hr hfl) ones_lt h
    apply le_eq hf (four_bytes _) (by rw [hn]; rfl)
    rw [le_four (inv_lt hr)]
    unfold inv
    rw [← h1, Nat.xor_comm (reg s l) (le f), Nat.xor_assoc, Nat.xor_self, Nat.xor_zero]
  · intro h
    rw [h, le_four (inv_lt hr)]
    unfold inv
    rw [Nat.xor_comm ones, ← Nat.xor_assoc, Nat.xor_self, Nat.zero_xor]

/-- Rows that part in up to four bytes, one behind the other. -/
theorem reg_burst {p d d' q : List Nat} (hp : Bytes p) (hd : Bytes d) (hd' : Bytes d') (hq : Bytes q) (hn : d.length = d'.length) (h4 : d.length ≤ 4) {s : Nat} (hs : s < 4294967296)
    (h : reg s (p ++ d ++ q) = reg s (p ++ d' ++ q)) : d = d' := by
  have hr := reg_lt hp hs
  rw [reg_append, reg_append, reg_append, reg_append] at h
  have h1 := reg_inj hq (reg_lt hd hr) (reg_lt hd' hr) h
  rw [reg_le d, reg_le d', hn] at h1
  have h2 := b8s_inj _ (xor_lt hr (le_lt32 hd h4)) (xor_lt hr (le_lt32 hd' (by omega))) h1
  apply le_eq hd hd' hn
  have h3 : reg s p ^^^ (reg s p ^^^ le d) = reg s p ^^^ (reg s p ^^^ le d') := by rw [h2]
  rwa [← Nat.xor_assoc, ← Nat.xor_assoc, Nat.xor_self, Nat.zero_xor, Nat.zero_xor] at h3
theorem more_inj_reg {s : Nat} {l m : List Nat} (h : more s l = more s m) : reg (inv s) l = reg (inv s) m := by
  unfold more at h
  rw [← inv_inv (reg (inv s) l), h, inv_inv]
end Go.Proofs.YtnbhlaoblnalpaaDoor.Crc
