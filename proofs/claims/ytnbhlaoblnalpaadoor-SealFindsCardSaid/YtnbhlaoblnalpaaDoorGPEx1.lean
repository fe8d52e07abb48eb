-- PRINTED by gprint.py (a session's own driver over the kit's print): not trusted; Lean checks it.
import Derived.Test.YtnbhlaoblnalpaaDoorGPEx0
namespace Go.Proofs.YtnbhlaoblnalpaaDoor.PE
open Go.RowKit Go.Proofs.YtnbhlaoblnalpaaDoorW.PrintWords Go.Proofs.YtnbhlaoblnalpaaDoorW.PrintLast Go.Proofs.YtnbhlaoblnalpaaDoorW.PrintMore
attribute [local go_sem] max2_int min2_int max_two min_two max_three min_three max_four min_four   -- for this text's walks alone
set_option linter.unusedVariables false
set_option linter.unusedSimpArgs false

/-! ### seal_More: function 18 -/
-- typed by hand: it reads the package's table
def sealHalf : List Int := [0, 274646895, 549293790, 820201905, 1098587580, 1361435347, 1640403810, 1905808397, 2197175160, 2460548119, 2722870694, 2987750089, 3280807620, 3553878443, 3811616794, 4084100981]
/-- The table lies in its block. -/
def TabW (w : World) : Prop := Kd.C (Kd.int .u32) w (some ⟨0, 0, none⟩) 16 sealHalf
theorem tabW_of_cells {w : World} (h : ∀ i, i < sealHalf.length → w.cell? ⟨0, i, none⟩ = some (.int .u32 (sealHalf.getD i 0))) : TabW w :=
  Kd.C_of_reads (enc := Value.int .u32) (d := (0 : Int)) (h1 := fun _ => rfl) ⟨rfl, by decide, fun _ => ⟨_, rfl, fun j hj => by
    have h1 := h j hj
    have ea : (⟨0, 0, none⟩ : Addr).add j = ⟨0, j, none⟩ := by simp [Addr.add]; omega
    rw [ea]; exact h1⟩⟩
theorem TabW.below {w w1 : World} (h : TabW w) (hb : Below w.heap.size w w1) : TabW w1 := Kd.C_below h hb
theorem TabW.alloc {w : World} (h : TabW w) (o : Obj) : TabW (w.alloc o) := Kd.C_alloc h o
theorem TabW.drew {w : World} (h : TabW w) : TabW w.drew := Kd.C_drew h
theorem TabW.drewN {w : World} (h : TabW w) (m : Nat) : TabW (w.drewN m) := Kd.C_drewN h m
theorem tab_cell {w : World} (h : TabW w) {i : Int} (h0 : 0 ≤ i) (h1 : i < 16) : w.cell? ⟨0, i.toNat, none⟩ = some (.int .u32 (rd sealHalf i)) := by
  obtain ⟨ad, e, hx⟩ := Kd.at_int h i h0 h1
  cases e
  have ea : (⟨0, 0, none⟩ : Addr).add i.toNat = ⟨0, i.toNat, none⟩ := by simp [Addr.add]; omega
  rwa [ea] at hx
theorem and15 (y : Int) : 0 ≤ Go.bits .and .u32 y 15 ∧ Go.bits .and .u32 y 15 < 16 := by
  have hlt : (BitVec.ofInt 32 y &&& BitVec.ofInt 32 15).toNat < 2 ^ 4 := by
    rw [BitVec.toNat_and]
    exact Nat.and_lt_two_pow _ (by decide)
  have e : Go.bits .and .u32 y 15 = ((BitVec.ofInt 32 y &&& BitVec.ofInt 32 15).toNat : Int) := by
    show IntKind.u32.wrap (((BitVec.ofInt 32 y &&& BitVec.ofInt 32 15).toNat : Nat) : Int) = _
    generalize (BitVec.ofInt 32 y &&& BitVec.ofInt 32 15).toNat = n at hlt
    simp only [IntKind.wrap, IntKind.bits, IntKind.signed]
    simp
    omega
  rw [e]
  omega
def seal_More.h (r : Int) : Int := Go.bits .xor .u32 (r / 16) (rd sealHalf (Go.bits .and .u32 r 15))
def seal_More.l0 : Nat → List Int → Int → Int → Option Int
  | 0, _, _, _ => none
  | k + 1, l, r, i => if i < (l.length : Int) then (if 0 ≤ i then seal_More.l0 k l (seal_More.h (seal_More.h (Go.bits .xor .u32 r (rd l i % 4294967296)))) (wrap64 (i + 1)) else none) else some (Go.bits .xor .u32 4294967295 r)
def seal_More.f (k : Nat) (a0 : Int) (l1 : List Int) : Option Int := seal_More.l0 k l1 (Go.bits .xor .u32 4294967295 a0) 0
set_option maxHeartbeats 8000000 in
set_option maxRecDepth 100000 in
theorem seal_More.calls (k : Nat) (a0 : Int) (A1 : Option Addr) (c1 : Nat) (l1 : List Int) (r : Int) (w : World) (hr1 : Kd.C (Kd.int .u8) w A1 l1.length l1) (hc1 : l1.length ≤ c1) (ht : TabW w) (h : seal_More.f k a0 l1 = some r) :
    Calls Tryd.prog 18 #[.int .u32 a0, .slice A1 l1.length c1] w fun e w' => e = .returned (.int .u32 r) ∧ Drawn0 w w' := by
  have HR1 := Aside0.mk hr1
  have HC1 := Aside0.mk hc1
  have HT := Aside0.mk ht
  clear hr1 hc1 ht
  have H : seal_More.l0 k l1 (Go.bits .xor .u32 4294967295 a0) 0 = some r := h
  clear h
  have H' := Aside0.mk H
  clear H
  go_enter Tryd.func18, Tryd.ntmps18
  go_wp2
  have emax : IntKind.u32.max = 4294967295 := by decide
  rw [emax]
  go_loopg [5, 12] k (fun kq v5 v12 w' => ∃ (x5_1 : Int) (x12_1 : Int), v5 = .int .u32 x5_1 ∧ v12 = .int .i64 x12_1 ∧ Aside0 (seal_More.l0 kq l1 x5_1 x12_1 = some r) ∧ Aside0 (kq ≤ k) ∧ Drawn0 w w')
  case atStart => exact ⟨(Go.bits .xor .u32 4294967295 a0), (0), (by first | rfl | (simp; done) | (simp [*]; done)), (by first | rfl | (simp; done) | (simp [*]; done)), H', ⟨Nat.le_refl _⟩, by repeat (first | exact Drawn0.refl _ | apply Drawn0.step)⟩
  case round =>
    clear H'
    obtain ⟨x5_1, x12_1, rfl, rfl, HA, HK1, ⟨m1, rfl⟩⟩ := hrel
    cases gk with
    | zero => exact absurd HA.out (by simp [seal_More.l0])
    | succ k1 =>
      have H := HA.out
      clear HA
      simp only [seal_More.l0] at H
      by_cases c3 : x12_1 < (l1.length : Int)
      · rw [if_pos c3] at H
        have c3b0 : decide (x12_1 < (l1.length : Int)) = true := decide_eq_true c3
        by_cases c4 : 0 ≤ x12_1
        · rw [if_pos c4] at H
          have H' := Aside0.mk H
          clear H
          obtain ⟨ad106, e106, hx106_0⟩ := Kd.at_int HR1.out x12_1 c4 c3
          cases e106
          have p106 := eq_true c4
          have q106 := eq_true c3
          clear c3 c4
          have i1 := and15 (Go.bits .xor .u32 x5_1 (rd l1 x12_1 % 4294967296))
          have i2 := and15 (seal_More.h (Go.bits .xor .u32 x5_1 (rd l1 x12_1 % 4294967296)))
          have t1 := tab_cell HT.out i1.1 i1.2
          have t2 := tab_cell HT.out i2.1 i2.2
          simp only [seal_More.h] at i2 t2
          have p1 := eq_true i1.1
          have p2 := eq_true i2.1
          have q1 := eq_true i1.2
          have q2 := eq_true i2.2
          clear i1 i2
          go_wp2
          go_roundg k1
          case measure => have := HK1.out; omega
          case rel => exact ⟨_, wrap64 (x12_1 + 1), rfl, (by first | rfl | (simp; done) | (simp [*]; done)), H', ⟨by have := HK1.out; omega⟩, by repeat (first | exact Drawn0.refl _ | apply Drawn0.step)⟩
        · rw [if_neg c4] at H
          exact absurd H (by simp)
      · rw [if_neg c3] at H
        have c3b0 : decide (x12_1 < (l1.length : Int)) = false := decide_eq_false c3
        clear c3
        obtain rfl := Option.some.inj H
        go_wp2
        go_ret
        exact ⟨by first | rfl | (simp; done) | (simp [*]; done), by repeat (first | exact Drawn0.refl _ | apply Drawn0.step)⟩


/-! ### seal_Sum: function 16 -/
def seal_Sum.f (k : Nat) (l0 : List Int) : Option (Int) := (seal_More.f k 0 l0).bind fun t101 => (some t101)
set_option maxHeartbeats 8000000 in
set_option maxRecDepth 100000 in
theorem seal_Sum.calls (k : Nat) (A0 : Option Addr) (c0 : Nat) (l0 : List Int) (r : Int) (w : World) (hr0 : Kd.C (Kd.int .u8) w A0 l0.length l0) (hc0 : l0.length ≤ c0) (ht : TabW w) (h : seal_Sum.f k l0 = some r) :
    Calls Tryd.prog 16 #[.slice A0 l0.length c0] w fun e w' => e = .returned (.int .u32 r) ∧ Drawn0 w w' := by
  have HT := Aside0.mk ht
  clear ht
  have HR0 := Aside0.mk hr0
  have HC0 := Aside0.mk hc0
  clear hr0 hc0
  have H : ((seal_More.f k 0 l0).bind fun t101 => (some t101)) = some r := h
  clear h
  replace H := Option.bind_eq_some_iff.mp H
  obtain ⟨t101, A20, H⟩ := H
  replace H : (some t101) = some r := H
  have A2 := Aside0.mk A20
  clear A20
  obtain rfl := Option.some.inj H
  go_enter Tryd.func16, Tryd.ntmps16
  go_wp2_with (first | ((with_reducible refine gate_callee (f := 18) rfl ?_); refine goesL_ (some 4) rfl rfl Tryd.func18 (by kernel_rfl) rfl #[.int .u32 0, .slice A0 l0.length c0] rfl (by (try simp only [List.map_toArray, List.map_cons, List.map_nil]); first | done | rfl | (simp only [List.length_drop, List.length_take]; rfl)) ?_; (with_reducible refine (seal_More.calls k 0 _ _ l0 t101 _ ?side1 ?side2 ?sideT A2.out).mono ?_); (case sideT => (with_reducible repeat (first | exact HT.out | refine TabW.alloc ?_ _ | refine TabW.drewN ?_ _ | refine TabW.drew ?_ | refine TabW.below HT.out HB.out))); (case side1 => repeat (first | exact HR0.out | (with_reducible refine Kd.C_alloc ?_ _) | (with_reducible refine Kd.C_drewN ?_ _) | (with_reducible refine Kd.C_drew ?_))); (case side2 => exact HC0.out); rintro e w' ⟨rfl, ⟨nd, rfl⟩⟩; refine ⟨_, rfl, ?_⟩))
  go_ret
  exact ⟨by first | rfl | (simp; done) | (simp [*]; done), by repeat (first | exact Drawn0.refl _ | apply Drawn0.step)⟩

/-! ### grapevinelaw01_live: function 15 -/
-- typed by hand: a conversion of a constant text to bytes
theorem lit_C (w : World) (e : TypeId) (fr : Nat × Nat) (xs : List Int) (hn : xs.length ≤ 9223372036854775807) : Kd.C (Kd.int .u8) (w.alloc (.cells (xs.map (Value.int .u8)).toArray e fr)) (some ⟨w.heap.size, 0, none⟩) xs.length xs := by
  refine Kd.C_of_reads (enc := Value.int .u8) (d := (0 : Int)) (h1 := fun _ => rfl) ⟨rfl, hn, fun _ => ⟨_, rfl, fun j hj => ?_⟩⟩
  have ea : (⟨w.heap.size, 0, none⟩ : Addr).add j = ⟨w.heap.size, j, none⟩ := by simp [Addr.add]; omega
  rw [ea, World.cell?_alloc_mark]
  simp [List.getD_eq_getElem?_getD, hj]
/-! ### grapevineref01_More: function 19 -/
mutual
def grapevineref01_More.l0 : Nat → List Int → Int → Int → Option (Int)
  | 0, _, _, _ => none
  | k + 1, x1, x5, x6 => if x6 < (x1.length : Int) then (if 0 ≤ x6 then (grapevineref01_More.l1 k x1 (Go.bits .xor .u32 x5 ((rd x1 x6) % 4294967296)) x6 0) else (none)) else (some (Go.bits .xor .u32 x5 4294967295))
def grapevineref01_More.l1 : Nat → List Int → Int → Int → Int → Option (Int)
  | 0, _, _, _, _ => none
  | k + 1, x1, x5, x6, x7 => if x7 < 8 then (if (Int.tmod x5 2) = 1 then (grapevineref01_More.l1 k x1 (Go.bits .xor .u32 ((Int.tdiv x5 2) % 4294967296) 2197175160) x6 (wrap64 (x7 + 1))) else (grapevineref01_More.l1 k x1 ((Int.tdiv x5 2) % 4294967296) x6 (wrap64 (x7 + 1)))) else (grapevineref01_More.l0 k x1 x5 (wrap64 (x6 + 1)))
end
def grapevineref01_More.f (k : Nat) (a0 : Int) (l1 : List Int) : Option (Int) := grapevineref01_More.l0 k l1 (Go.bits .xor .u32 a0 4294967295) 0
/-! ### grapevineref01_Sum: function 17 -/
def grapevineref01_Sum.f (k : Nat) (l0 : List Int) : Option (Int) := (grapevineref01_More.f k 0 l0).bind fun t103 => (some t103)
/-! ### grapevinelaw01_SealSums: function 3 -/
/-! ### grapevinelaw01_SealJoined: function 4 -/
/-! ### grapevineref01_Four: function 20 -/
def grapevineref01_Four.f (a0 : Int) : Option (List Int) := some (([(a0) % 256, ((Int.tdiv a0 256) % 4294967296) % 256, ((Int.tdiv a0 65536) % 4294967296) % 256, ((Int.tdiv a0 16777216) % 4294967296) % 256] : List Int))
/-! ### grapevinelaw01_SealRests: function 5 -/
end Go.Proofs.YtnbhlaoblnalpaaDoor.PE
