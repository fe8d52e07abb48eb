import Derived.Test.YtoandmnefgimoaaDoorLBPLx0
namespace Go.Proofs.YtoandmnefgimoaaDoor.PL
open Go.RowKit Go.Proofs.YtoandmnefgimoaaDoorW.PrintWords Go.Proofs.YtoandmnefgimoaaDoorW.PrintLast Go.Proofs.YtoandmnefgimoaaDoorW.PrintMore
attribute [local go_sem] max2_int min2_int max_two min_two max_three min_three max_four min_four
set_option linter.unusedVariables false
set_option linter.unusedSimpArgs false
def sealHalf : List Int := [0, 274646895, 549293790, 820201905, 1098587580, 1361435347, 1640403810, 1905808397, 2197175160, 2460548119, 2722870694, 2987750089, 3280807620, 3553878443, 3811616794, 4084100981]
def TabW (w : World) : Prop := Kd.C (Kd.int .u32) w (some ⟨0, 0, none⟩) 16 sealHalf
theorem tabW_of_cells {w : World} (h : ∀ i, i < sealHalf.length → w.cell? ⟨0, i, none⟩ = some (.int .u32 (sealHalf.getD i 0))) : TabW w :=
 Kd.C_of_reads (enc := Value.int .u32) (d := (0 : Int)) (h1 := fun _ => rfl) ⟨rfl, by decide, fun _ => ⟨_, rfl, fun j hj => by
  have h1 := h j hj
  have ea : (⟨0, 0, none⟩ : Addr).add j = ⟨0, j, none⟩ := by simp [Addr.add]; omega
  rw [ea]; exact h1⟩⟩
theorem TabW.below {w w1 : World} (h : TabW w) (hb : Below w.heap.size w w1) : TabW w1 := Kd.C_below h hb
theorem TabW.alloc {w : World} (h : TabW w) (o : Obj) : TabW (w.alloc o) := Kd.C_alloc h o
theorem TabW.drew {w : World} (h : TabW w) : TabW w.drew := Kd.C_drew h
theorem TabW.drewN {w : World} (h : TabW w) (m : Nat) : TabW (w.drewN m) := Kd.C_drewN h m
theorem tab_cell {w : World} (h : TabW w) {i : Int} (h0 : 0 ≤ i) (h1 : i < 16) : w.cell? ⟨0, i.toNat, none⟩ = some (.int .u32 (rd sealHalf i)) := by
 obtain ⟨ad, e, hx⟩ := Kd.at_int h i h0 h1
 cases e
 have ea : (⟨0, 0, none⟩ : Addr).add i.toNat = ⟨0, i.toNat, none⟩ := by simp [Addr.add]; omega
 rwa [ea] at hx
theorem and15 (y : Int) : 0 ≤ Go.bits .and .u32 y 15 ∧ Go.bits .and .u32 y 15 < 16 := by
 have hlt : (BitVec.ofInt 32 y &&& BitVec.ofInt 32 15).toNat < 2 ^ 4 := by
  rw [BitVec.toNat_and]
  exact Nat.and_lt_two_pow _ (by decide)
 have e : Go.bits .and .u32 y 15 = ((BitVec.ofInt 32 y &&& BitVec.ofInt 32 15).toNat : Int) := by
  show IntKind.u32.wrap (((BitVec.ofInt 32 y &&& BitVec.ofInt 32 15).toNat : Nat) : Int) = _
  generalize (BitVec.ofInt 32 y &&& BitVec.ofInt 32 15).toNat = n at hlt
  simp only [IntKind.wrap, IntKind.bits, IntKind.signed]
  simp
  omega
 rw [e]
 omega
def seal_More.h (r : Int) : Int := Go.bits .xor .u32 (r / 16) (rd sealHalf (Go.bits .and .u32 r 15))
def seal_More.l0 : Nat → List Int → Int → Int → Option Int
 | 0, _, _, _ => none
 | k + 1, l, r, i => if i < (l.length : Int) then (if 0 ≤ i then seal_More.l0 k l (seal_More.h (seal_More.h (Go.bits .xor .u32 r (rd l i % 4294967296)))) (wrap64 (i + 1)) else none) else some (Go.bits .xor .u32 4294967295 r)
def seal_More.f (k : Nat) (a0 : Int) (l1 : List Int) : Option Int := seal_More.l0 k l1 (Go.bits .xor .u32 4294967295 a0) 0
set_option maxHeartbeats 8000000 in
set_option maxRecDepth 100000 in
theorem seal_More.calls (k : Nat) (a0 : Int) (A1 : Option Addr) (c1 : Nat) (l1 : List Int) (r : Int) (w : World) (hr1 : Kd.C (Kd.int .u8) w A1 l1.length l1) (hc1 : l1.length ≤ c1) (ht : TabW w) (h : seal_More.f k a0 l1 = some r) :
 Calls Tryd.prog 51 #[.int .u32 a0, .slice A1 l1.length c1] w fun e w' => e = .returned (.int .u32 r) ∧ Drawn0 w w' := by
 have HR1 := am_ hr1
 have HC1 := am_ hc1
 have HT := am_ ht
 clear hr1 hc1 ht
 have H : seal_More.l0 k l1 (Go.bits .xor .u32 4294967295 a0) 0 = some r := h
 clear h
 have H' := am_ H
 clear H
 go_enter Tryd.func51, Tryd.ntmps51
 go_wp2
 have emax : IntKind.u32.max = 4294967295 := by decide
 rw [emax]
 go_loopg [5, 12] k (fun kq v5 v12 w' => ∃ (x5_1 : Int) (x12_1 : Int), v5 = .int .u32 x5_1 ∧ v12 = .int .i64 x12_1 ∧ Aside0 (seal_More.l0 kq l1 x5_1 x12_1 = some r) ∧ Aside0 (kq ≤ k) ∧ Drawn0 w w')
 case atStart => exact ⟨(Go.bits .xor .u32 4294967295 a0), (0), (by rfl), (by rfl), H', ⟨Nat.le_refl _⟩, by repeat (exact Drawn0.refl _)⟩
 case round =>
 clear H'
 obtain ⟨x5_1, x12_1, rfl, rfl, HA, HK1, ⟨m1, rfl⟩⟩ := hrel
 cases gk with
 | zero => exact absurd HA.out (by simp [seal_More.l0])
 | succ k1 =>
 have H := HA.out
 clear HA
 simp only [seal_More.l0] at H
 by_cases c3 : x12_1 < (l1.length : Int)
 ·
  rw [if_pos c3] at H
  have c3b0 : decide (x12_1 < (l1.length : Int)) = true := decide_eq_true c3
  by_cases c4 : 0 ≤ x12_1
  ·
   rw [if_pos c4] at H
   have H' := am_ H
   clear H
   obtain ⟨ad106, e106, hx106_0⟩ := Kd.at_int HR1.out x12_1 c4 c3
   cases e106
   have p106 := eq_true c4
   have q106 := eq_true c3
   clear c3 c4
   have i1 := and15 (Go.bits .xor .u32 x5_1 (rd l1 x12_1 % 4294967296))
   have i2 := and15 (seal_More.h (Go.bits .xor .u32 x5_1 (rd l1 x12_1 % 4294967296)))
   have t1 := tab_cell HT.out i1.1 i1.2
   have t2 := tab_cell HT.out i2.1 i2.2
   simp only [seal_More.h] at i2 t2
   have p1 := eq_true i1.1
   have p2 := eq_true i2.1
   have q1 := eq_true i1.2
   have q2 := eq_true i2.2
   clear i1 i2
   go_wp2
   go_roundg k1
   case measure => have := HK1.out; omega
   case rel => exact ⟨_, wrap64 (x12_1 + 1), rfl, (by rfl), H', ⟨by have := HK1.out; omega⟩, by repeat (first | exact Drawn0.refl _ | apply Drawn0.step)⟩
  rw [if_neg c4] at H
  exact absurd H (by simp)
 rw [if_neg c3] at H
 have c3b0 : decide (x12_1 < (l1.length : Int)) = false := decide_eq_false c3
 clear c3
 obtain rfl := Option.some.inj H
 go_wp2
 go_ret
 exact ⟨by first | rfl | (simp; done) | (simp [*]; done), by repeat (first | exact Drawn0.refl _ | apply Drawn0.step)⟩
def seal_Sum.f (k : Nat) (l0 : List Int) : Option (Int) := (seal_More.f k 0 l0).bind fun t160 => (some t160)
set_option maxHeartbeats 8000000 in
set_option maxRecDepth 100000 in
theorem seal_Sum.calls (k : Nat) (A0 : Option Addr) (c0 : Nat) (l0 : List Int) (r : Int) (w : World) (hr0 : Kd.C (Kd.int .u8) w A0 l0.length l0) (hc0 : l0.length ≤ c0) (ht : TabW w) (h : seal_Sum.f k l0 = some r) :
 Calls Tryd.prog 39 #[.slice A0 l0.length c0] w fun e w' => e = .returned (.int .u32 r) ∧ Drawn0 w w' := by
 have HT := am_ ht
 clear ht
 have HR0 := am_ hr0
 have HC0 := am_ hc0
 clear hr0 hc0
 have H : ((seal_More.f k 0 l0).bind fun t160 => (some t160)) = some r := h
 clear h
 replace H := Option.bind_eq_some_iff.mp H
 obtain ⟨t160, A20, H⟩ := H
 try dsimp only at H
 have A2 := am_ A20
 clear A20
 obtain rfl := Option.some.inj H
 go_enter Tryd.func39, Tryd.ntmps39
 go_wp2_with (((with_reducible refine gate_callee (f := 51) rfl ?_); refine gL (some 4) Tryd.func51 #[.int .u32 0, .slice A0 l0.length c0] ?_; (with_reducible refine (seal_More.calls k 0 _ _ l0 t160 _ ?side1 ?side2 ?sideT A2.out).mono ?_); (case sideT => (with_reducible repeat (exact HT.out))); (case side1 => repeat (exact HR0.out)); (case side2 => exact HC0.out); rintro e w' ⟨rfl, ⟨nd, rfl⟩⟩; refine ⟨_, rfl, ?_⟩))
 go_ret
 exact ⟨by first | rfl | (simp; done) | (simp [*]; done), by repeat (first | exact Drawn0.refl _ | apply Drawn0.step)⟩
namespace KdMore
open Kd
section
variable {P : Program} {ops : Array Oper} {rest : List Oper} {o : Oper} {a : Act} {Q : Exit → Act → World → Prop} {α : Type}
theorem R_make_cap {enc : α → Value} {h1 : ∀ x, (enc x).oneCell' = true} {w0 W : World} (base e : Nat) (hgd : o.guard = none) {N : Tmp} (hd : o.dst = some N) (t : TypeId) (x y : Operand) (ho : o.op = .makeSlice t x y) (n c : Nat) (hx : a.eval x = .int .i64 (n : Int)) (hy : a.eval y = .int .i64 (c : Int))
 (ht : P.underlying t = some (.slice e)) (z0 : α) (bytes : Nat) (hinfo : (P.info? e).map (fun i => (i.zero, i.size, i.bytes)) = some (some (enc z0), 1, bytes)) (hz : (enc z0).cells = #[enc z0]) {ok : Nat → Prop} (hfresh : ok W.heap.size) (hnc : n ≤ c) (hl : c * bytes ≤ 281474976710656) (hb : 0 < bytes)
 (HB : Below base w0 W) (hbase : base ≤ W.heap.size)
 (h : ∀ w1, (scalar enc h1).R e w1 base ok (.slice (some ⟨W.heap.size, 0, none⟩) n c) (List.replicate n z0) → Below base w0 w1 → W.grownBy w1 none → W.heap.size < w1.heap.size → wpList P ops Q rest (a.put o.dst (.slice (some ⟨W.heap.size, 0, none⟩) n c)) w1) : wpList P ops Q (o :: rest) a W := by
 obtain ⟨i0, hi, hzz⟩ := Option.map_eq_some_iff.1 hinfo
 simp only [Prod.mk.injEq] at hzz
 obtain ⟨hz0, hz1, hz2⟩ := hzz
 have hc : c ≤ 281474976710656 := Nat.le_trans (Nat.le_mul_of_pos_right _ hb) hl
 have hr := run_make (P := P) W t e i0 (enc z0) ht hi hz0 .i64 .i64 (n : Int) (c : Int) (by omega) (by omega)
  (by
   have h3 : ((i0.bytes * c : Nat) : Int) ≤ 281474976710656 := by rw [hz2, Nat.mul_comm]; omega
   rwa [Int.natCast_mul] at h3) (by omega)
 simp only [Int.toNat_natCast] at hr
 rw [hz1, Nat.mul_one] at hr
 have hrun : (execOp a.eval o).run P W = .ok (.value (.slice (some ⟨W.heap.size, 0, none⟩) n c)) (W.alloc (.cells (madeCells (enc z0).cells c) e)) := by
  simp [execOp, ho, hx, hy, hr]
 have hm : (madeCells (enc z0).cells c).toList = encs enc (List.replicate c z0) := by
  apply List.ext_getElem
  ·
   simp [size_madeCells, encs]
  intro i g1 g2
  simp [madeCells, hz, encs, Nat.mod_one]
 refine event_run hgd hrun (h _ (R_of_own ?_ ?_) (HB.alloc hbase _) (World.grownBy_alloc W _ none) (by show W.heap.size < (W.heap.push _).size; simp))
 ·
  have h2 := World.ownsRow_lit (base := base) (e := e) (size := 1) W (madeCells (enc z0).cells c) c hbase (by simp [maxLen]; omega) (by simp [size_madeCells])
  have h3 := own_take h2 hnc
  rw [hm] at h3
  have e1 : (encs enc (List.replicate c z0)).take (n * 1) = encs enc (List.replicate n z0) := by
   simp [encs, List.take_replicate, Nat.min_eq_left hnc]
  rw [e1] at h3
  simpa using h3
 intro k hk
 have : W.heap.size = k := by simpa [Value.ownBlock] using hk
 subst this
 exact hfresh
theorem R_copy_at {enc : α → Value} {h1 : ∀ x, (enc x).oneCell' = true} (d : α) {w0 W : World} (base : Nat) (hgd : o.guard = none) (s x : Operand) (t t' e : TypeId)
 (ho : o.op = .call { callee := .builtin .copy, args := #[s, x], argTypes := #[t, t'] }) (ht : P.underlying t = some (.slice e)) (hinfo : (P.info? e).map (·.size) = some 1)
 (g cap n k n' c' : Nat) (xs ys : List α) (A : Option Addr) (m c : Nat) (ok : Nat → Prop) (hs : a.eval s = .slice (some ⟨g, k, none⟩) n' c') (hx : a.eval x = .slice A m c) (hn : m ≤ n') (hk : k + m ≤ n)
 (HO : (scalar enc h1).R e W base ok (.slice (some ⟨g, 0, none⟩) n cap) xs) (HR : (scalar enc h1).C W A m ys) (HB : Below base w0 W) (hbase : base ≤ W.heap.size)
 (h : ∀ w1, (scalar enc h1).R e w1 base ok (.slice (some ⟨g, 0, none⟩) n cap) (xs.take k ++ ys ++ xs.drop (k + m)) → Below base w0 w1 → W.grownBy w1 (some g) → wpList P ops Q rest (a.put o.dst (.int .i64 (m : Int))) w1) :
 wpList P ops Q (o :: rest) a W := by
 obtain ⟨rfl, _⟩ := R_reads' HO
 have hR := reads_of_C (enc := enc) (d := d) (h1 := h1) HR
 have hm : ys.length = m := hR.1
 have hown := own_of_R HO
 have fin : ∀ w1, (Builtin.copy_ #[t, t'] o.type #[.slice (some ⟨g, k, none⟩) n' c', .slice A m c]).run P W = .ok (goInt m) w1 → (scalar enc h1).R e w1 base ok (.slice (some ⟨g, 0, none⟩) xs.length cap) (xs.take k ++ ys ++ xs.drop (k + m)) → W.grownBy w1 (some g) → wpList P ops Q (o :: rest) a W := by
  intro w1 hr hrow hg
  refine wpList_plain hgd fun K hK => ?_
  unfold Oper.wp execOp
  simp only [ho, resolve, invoke, builtin, Sem.run_bind, Sem.run_pure, Result.andThen_ok, List.map_toArray, List.map_cons, List.map_nil, hs, hx, hr]
  exact hK _ _ (h w1 hrow (HB.grown hg hbase (by
   have := own_base hown
   simpa [Value.ownBlock] using this)) hg)
 rcases Nat.eq_zero_or_pos m with h0 | hp
 ·
  refine fin W ?_ (by
   have e0 : ys = [] := List.eq_nil_of_length_eq_zero (by omega)
   rw [h0, e0]; simpa using HO) (World.grownBy.refl W _)
  rw [h0]
  exact run_copy_none W t t' o.type e _ A n' c' 0 c ht hinfo (by simp)
 obtain ⟨ad, hA, hc⟩ := hR.2.2 (by omega)
 rcases hown.2 with ⟨hx1, hx0⟩ | ⟨g', cap', cur, hv, hb, hh, hnc, hcm, hcs, htake⟩
 ·
  omega
 injection hv with hv1 _ hv3
 injection hv1 with hv1
 injection hv1 with hv1
 subst hv1; subst hv3
 have hcs1 : cur.size = cap := by omega
 have hsrc : ∀ j u, (encs enc ys)[j]? = some u → W.cell? (ad.add j) = some u := by
  intro j u hu
  have hj : j < ys.length := by
   rcases Nat.lt_or_ge j ys.length with h | h
   ·
    exact h
   rw [List.getElem?_eq_none (by rw [encs_length]; exact h)] at hu
   cases hu
  rw [encs_get (d := d) _ j hj] at hu
  rw [hc j (by omega), ← hu]
 have hkl : (encs enc ys).length = m := by rw [encs_length, hm]
 have hr := run_copy_cells (P := P) W t t' o.type e g k n' c' ad m c (encs enc ys) ht hinfo (by rw [hkl]; exact (Nat.min_eq_left hn).symm) hsrc
  (fun j hj => by rw [cell_of_row W g _ cur e (0, 0) hh]; simp; omega) (fun j _ => kf_ hh _) (by intro u hu; simp only [encs, List.mem_map] at hu; obtain ⟨q, _, rfl⟩ := hu; exact h1 q)
 obtain ⟨cur', h3, h4, h5⟩ := setCells_row (encs enc ys) k W cur hh (by rw [hkl]; omega)
 obtain ⟨s1, s2, s3, s4⟩ := setCells_same g (encs enc ys) k W
 refine fin _ (by rw [hA, hr, hkl]) (R_of_own ?_ HO.1) ⟨s1, s2, s3, by rw [s4]; exact Nat.le_refl _, fun i _ hi => setCells_far _ _ i (fun he => hi (by rw [he]))⟩
 have hln : (xs.take k ++ ys ++ xs.drop (k + m)).length = xs.length := by
  rw [List.length_append, List.length_append, List.length_take, List.length_drop]
  omega
 refine ⟨by rw [encs_length, hln, Nat.mul_one], .inr ⟨g, cap, cur', by rw [hln], hb, h3, by rw [hln]; exact hnc, hcm, by rw [h4, hcs], ?_⟩⟩
 have htk : cur.toList.take xs.length = encs enc xs := by rw [← htake, Nat.mul_one]
 rw [h5, hln, Nat.mul_one, hkl]
 have e1 : encs enc (xs.take k ++ ys ++ xs.drop (k + m)) = (encs enc xs).take k ++ encs enc ys ++ (encs enc xs).drop (k + m) := by simp [encs, List.map_take, List.map_drop]
 have hA : (cur.toList.take k ++ encs enc ys).length = k + m := by rw [List.length_append, List.length_take, hkl, Array.length_toList]; omega
 rw [e1, ← htk, List.take_take, Nat.min_eq_left (by omega), List.drop_take, List.take_append, List.take_of_length_le (by omega), hA]
end
end KdMore
def seal_Seal.f (k : Nat) (a0 : Int) (l1 : List Int) : Option (List Int × Int) :=
 if (l1.length : Int) > 4096 then some ([], 6) else
 (seal_Sum.f k (a0 :: ((l1.length : Int) % 256) :: ((l1.length : Int) / 256 % 256) :: l1)).bind fun s =>
 some ((167 :: a0 :: ((l1.length : Int) % 256) :: ((l1.length : Int) / 256 % 256) :: l1) ++ [s % 256, s / 256 % 256, s / 65536 % 256, s / 16777216 % 256], 0)
theorem seal_row (n : Nat) (l1 : List Int) (hn : n = l1.length + 4) (a b c d : Int) :
 (((((List.replicate n (0 : Int)).set (0 : Int).toNat a).set (1 : Int).toNat b).set (2 : Int).toNat c).set (3 : Int).toNat d).take 4 ++ l1 ++ (((((List.replicate n (0 : Int)).set (0 : Int).toNat a).set (1 : Int).toNat b).set (2 : Int).toNat c).set (3 : Int).toNat d).drop (4 + l1.length) = a :: b :: c :: d :: l1 := by
 subst hn
 have e : List.replicate (l1.length + 4) (0 : Int) = 0 :: 0 :: 0 :: 0 :: List.replicate l1.length 0 := rfl
 rw [e]
 have e0 : (0 : Int).toNat = 0 := rfl
 have e1 : (1 : Int).toNat = 1 := rfl
 have e2 : (2 : Int).toNat = 2 := rfl
 have e3 : (3 : Int).toNat = 3 := rfl
 rw [e0, e1, e2, e3, Nat.add_comm]
 simp [List.drop_replicate]
set_option maxHeartbeats 8000000 in
set_option maxRecDepth 100000 in
theorem seal_Seal.calls (k : Nat) (a0 : Int) (A1 : Option Addr) (c1 : Nat) (l1 : List Int) (r1 : List Int) (r2 : Int) (w : World) (hr1 : Kd.C (Kd.int .u8) w A1 l1.length l1) (hc1 : l1.length ≤ c1) (ht : TabW w) (h : seal_Seal.f k a0 l1 = some (r1, r2)) :
 Calls Tryd.prog 27 #[.int .u8 a0, .slice A1 l1.length c1] w fun e w' => ∃ v0_ : Value, e = .returned (.tuple #[v0_, .int .i64 r2]) ∧ Kd.R (Kd.int .u8) 5 w' w.heap.size (fun _ => True) v0_ r1 ∧ Below w.heap.size w w' := by
 have HR1 := am_ hr1
 have HC1 := am_ hc1
 have HT := am_ ht
 clear hr1 hc1 ht
 have HB := am_ (Below.refl w.heap.size w)
 unfold seal_Seal.f at h
 by_cases c3 : (l1.length : Int) > 4096
 ·
  rw [if_pos c3] at h
  have c3b0 : decide (4096 < (l1.length : Int)) = true := decide_eq_true c3
  have c3b1 : decide (4096 < l1.length) = true := decide_eq_true (by omega)
  clear c3
  simp only [Option.some.injEq, Prod.mk.injEq] at h
  obtain ⟨rfl, rfl⟩ := h
  go_enter Tryd.func27, Tryd.ntmps27
  go_wp2
  go_ret2
  exact ⟨_, rfl, Kd.R_nil _ _ _ _ _, by repeat (with_reducible exact HB.out)⟩
 rw [if_neg c3] at h
 have c3b0 : decide (4096 < (l1.length : Int)) = false := decide_eq_false c3
 have c3b1 : decide (4096 < l1.length) = false := decide_eq_false (by omega)
 have hle : l1.length ≤ 4096 := by omega
 clear c3
 obtain ⟨s, hs, h⟩ := Option.bind_eq_some_iff.mp h
 simp only [Option.some.injEq, Prod.mk.injEq] at h
 obtain ⟨hr, rfl⟩ := h
 obtain ⟨x2, hx2⟩ : ∃ x : Int, x = (l1.length : Int) % 256 := ⟨_, rfl⟩
 obtain ⟨x3, hx3⟩ : ∃ x : Int, x = (l1.length : Int) / 256 % 256 := ⟨_, rfl⟩
 obtain ⟨body, hbody⟩ : ∃ b : List Int, b = a0 :: x2 :: x3 :: l1 := ⟨_, rfl⟩
 have hout : (167 :: a0 :: x2 :: x3 :: l1 : List Int) = 167 :: body := by rw [hbody]
 rw [← hx2, ← hx3, hout] at hr
 rw [← hx2, ← hx3, ← hbody] at hs
 have hbl : body.length = l1.length + 3 := by rw [hbody]; rfl
 obtain ⟨n4, hn4⟩ : ∃ n : Nat, n = l1.length + 4 := ⟨_, rfl⟩
 obtain ⟨n8, hn8⟩ : ∃ n : Nat, n = l1.length + 8 := ⟨_, rfl⟩
 have w4 : wrap64 (4 + (l1.length : Int)) = (n4 : Int) := by unfold wrap64; omega
 have w8 : wrap64 (8 + (l1.length : Int)) = (n8 : Int) := by unfold wrap64; omega
 obtain ⟨i0, hi0, hz0⟩ := Option.map_eq_some_iff.1 info5
 have hsz0 : i0.size = 1 := by simp only [Prod.mk.injEq] at hz0; exact hz0.2.1
 have hi1 : (Tryd.prog.info? 5).map (·.size) = some 1 := by rw [hi0]; simp [hsz0]
 have hsl4 : ∀ W : World, (Instr.slice 42 (.slice (some ⟨w.heap.size, 0, none⟩) n4 n8) (some (.int .i64 4)) none none).run Tryd.prog W = .ok (.slice (some ⟨w.heap.size, 4, none⟩) l1.length (n8 - 4)) W := by
  intro W
  have hq := cut_from (P := Tryd.prog) 42 5 .i64 Tryd.underlying42 hi0 1 hsz0 (some ⟨w.heap.size, 0, none⟩) n4 n8 4 (by omega) (by omega) W
  rw [if_neg (by omega)] at hq
  rw [show n4 - (4 : Int).toNat = l1.length by omega] at hq
  exact hq
 have hsl1 : ∀ W : World, (Instr.slice 42 (.slice (some ⟨w.heap.size, 0, none⟩) n4 n8) (some (.int .i64 1)) none none).run Tryd.prog W = .ok (.slice (some ⟨w.heap.size, 1, none⟩) body.length (n8 - 1)) W := by
  intro W
  have hq := cut_from (P := Tryd.prog) 42 5 .i64 Tryd.underlying42 hi0 1 hsz0 (some ⟨w.heap.size, 0, none⟩) n4 n8 1 (by omega) (by omega) W
  rw [if_neg (by omega)] at hq
  rw [show n4 - (1 : Int).toNat = body.length by omega] at hq
  exact hq
 have q0 := eq_true (show (0 : Int) < (n4 : Int) by omega)
 have q0n := eq_true (show 0 < n4 by omega)
 have q1n := eq_true (show 1 < n4 by omega)
 have q2n := eq_true (show 2 < n4 by omega)
 have q3n := eq_true (show 3 < n4 by omega)
 have q1 := eq_true (show (1 : Int) < (n4 : Int) by omega)
 have q2 := eq_true (show (2 : Int) < (n4 : Int) by omega)
 have q3 := eq_true (show (3 : Int) < (n4 : Int) by omega)
 have HS := am_ hs
 have HRR := am_ hr
 have HN := am_ (show n4 = l1.length + 4 ∧ n8 = l1.length + 8 ∧ l1.length ≤ 4096 ∧ body.length = l1.length + 3 from ⟨hn4, hn8, hle, hbl⟩)
 have HX2 := am_ hx2
 have HX3 := am_ hx3
 have HBD := am_ hbody
 clear hs hr hn4 hn8 hle hbl hx2 hx3 hbody hout
 go_enter Tryd.func27, Tryd.ntmps27
 go_wp2_with (first
  | ((with_reducible refine gd_ (N := 17) rfl ?_); refine KdMore.R_make_cap (enc := Value.int .u8) (h1 := fun _ => rfl) (w0 := w) w.heap.size 5 rfl rfl 42 (.tmp 13) (.tmp 16) rfl n4 n8 (by rw [← w4]; rfl) (by rw [← w8]; rfl) Tryd.underlying42 0 1 info5 rfl (ok := fun _ => True) trivial (by have := HN.out; omega) (by have := HN.out; omega) (by omega) (by repeat (exact HB.out)) (Nat.le_refl _) ?_; intro w1 ho hb hg hlt; have z0 := Kd.R_celln (0 : Int) ho 0 (by omega) (by have := HN.out; omega); have z1 := Kd.R_celln (0 : Int) ho 1 (by omega) (by have := HN.out; omega); have z2 := Kd.R_celln (0 : Int) ho 2 (by omega) (by have := HN.out; omega); have z3 := Kd.R_celln (0 : Int) ho 3 (by omega) (by have := HN.out; omega); have zc0 : w1.cell? ⟨w.heap.size, 0, none⟩ = some (.int .u8 (rdOf 0 (List.replicate n4 0) 0)) := z0.1; have zc1 : w1.cell? ⟨w.heap.size, 1, none⟩ = some (.int .u8 (rdOf 0 (List.replicate n4 0) 1)) := z1.1; have zc2 : w1.cell? ⟨w.heap.size, 2, none⟩ = some (.int .u8 (rdOf 0 (List.replicate n4 0) 2)) := z2.1; have zc3 : w1.cell? ⟨w.heap.size, 3, none⟩ = some (.int .u8 (rdOf 0 (List.replicate n4 0) 3)) := z3.1; have zf0 : w1.frozen? ⟨w.heap.size, 0, none⟩ = false := z0.2; have zf1 : w1.frozen? ⟨w.heap.size, 1, none⟩ = false := z1.2; have zf2 : w1.frozen? ⟨w.heap.size, 2, none⟩ = false := z2.2; have zf3 : w1.frozen? ⟨w.heap.size, 3, none⟩ = false := z3.2; clear z0 z1 z2 z3; have HO1 := am_ ho; have HB1 := am_ hb; have HLT := am_ hlt; clear ho hb hg hlt HB)
  | ((with_reducible refine gate_builtin (b := .copy) (xs := #[.tmp 35, .tmp 36]) rfl ?_); refine KdMore.R_copy_at (enc := Value.int .u8) (h1 := fun _ => rfl) (0 : Int) (w0 := w) w.heap.size rfl (.tmp 35) (.tmp 36) 42 42 5 rfl Tryd.underlying42 hi1 w.heap.size n8 n4 4 l1.length (n8 - 4) _ l1 A1 l1.length c1 (fun _ => True) rfl rfl (Nat.le_refl _) (by have := HN.out; omega) (Kd.R_putn (Kd.R_putn (Kd.R_putn (Kd.R_putn HO1.out 0 167) 1 a0) 2 ((l1.length : Int) % 256)) 3 ((l1.length : Int) / 256 % 256)) (Kd.C_below HR1.out (by repeat ((with_reducible first | exact HB1.out | refine bs_ ?_ (Nat.le_refl _))))) (by repeat ((with_reducible first | exact HB1.out | refine bs_ ?_ (Nat.le_refl _)))) (bz_ (by repeat ((with_reducible first | exact HB1.out | refine bs_ ?_ (Nat.le_refl _))))) ?_; intro w2 ho hb hg; rw [seal_row n4 l1 HN.out.1, ← HX2.out, ← HX3.out] at ho; have e0_ : (167 :: a0 :: x2 :: x3 :: l1 : List Int) = 167 :: body := (by rw [HBD.out]); rw [e0_] at ho; have HO2 := am_ ho; have HB2 := am_ hb; have hcc := Kd.C_drop (m := 1) (c := n8) (by have h2 := (Kd.R_reads' ho).2.2; exact h2) (by simp) (by have := HN.out; simp only [List.length_cons]; omega); rw [if_neg (by have := HN.out; omega)] at hcc; have HCB := am_ (show Kd.C (Kd.int .u8) w2 (some ⟨w.heap.size, 1, none⟩) body.length body from hcc); clear ho hb hg e0_ hcc zc0 zc1 zc2 zc3 zf0 zf1 zf2 zf3 HO1 HB1)
  | ((with_reducible refine gate_callee (f := 39) rfl ?_); refine gL (some 40) Tryd.func39 #[.slice (some ⟨w.heap.size, 1, none⟩) body.length (n8 - 1)] ?_; refine (seal_Sum.calls k _ (n8 - 1) body s _ HCB.out (by have := HN.out; omega) (TabW.below HT.out HB2.out) HS.out).mono ?_; rintro e w' ⟨rfl, ⟨nd, rfl⟩⟩; refine ⟨_, rfl, ?_⟩)
  | ((with_reducible refine gd_ (N := 53) rfl ?_); refine Kd.R_lit (Kd.int .u8) _ 5 ?hg (N := 53) ?hd (xs := ([s % 256, s / 256 % 256, s / 65536 % 256, s / 16777216 % 256] : List Int)) (inner := [.int .u8 (s % 256), .int .u8 (s / 256 % 256), .int .u8 (s / 65536 % 256), .int .u8 (s / 16777216 % 256)]) (ok := fun _ => True) (okp := fun _ => True) ?hr ?hp (fun _ hk => hk) trivial (Below.refl _ _) (Nat.le_refl _) (by simp) ?_; (case hd => rfl); (case hg => rfl); (case hr => (go_simp; done)); (case hp => exact (Reps.one (show Kd.M (Kd.int .u8) _ _ _ (s % 256) [.int .u8 (s % 256)] from rfl) (Reps.one (show Kd.M (Kd.int .u8) _ _ _ (s / 256 % 256) [.int .u8 (s / 256 % 256)] from rfl) (Reps.one (show Kd.M (Kd.int .u8) _ _ _ (s / 65536 % 256) [.int .u8 (s / 65536 % 256)] from rfl) (Reps.one (show Kd.M (Kd.int .u8) _ _ _ (s / 16777216 % 256) [.int .u8 (s / 16777216 % 256)] from rfl) (Reps.none _ _)))))); intro v3 w3 ho3 hb hg_ hnew_; clear hg_ hnew_; have HO3 := am_ (Kd.R_lower (Kd.R_new' ho3 (Kd.R_lt (by (with_reducible repeat (apply Kd.R_drewN)); exact HO2.out))) (bz_ (by repeat (with_reducible first | exact HB2.out | apply bn_)))); have n0_ := am_ (Kd.R_elder' (by (with_reducible repeat (apply Kd.R_drewN)); exact HO2.out) (Kd.R_base ho3) hb); have HB3 := am_ (below_step (by repeat (with_reducible first | exact HB2.out | apply bn_)) hb); clear HO2; have HO2 := n0_; clear n0_ hb ho3 HB2 HCB; obtain ⟨Al, cl, el⟩ := Kd.R_slice HO3.out; subst el)
  | ((with_reducible refine gate_builtin (b := .append) (xs := #[.tmp 41, .tmp 53]) rfl ?_); at_builtin; refine Kd.R_append_rows (Kd.int .u8) (w0 := w) w.heap.size rfl (.tmp 41) (.tmp 53) 42 5 (.int .u8 0) 1 rfl Tryd.underlying42 info5 rfl (by decide) (by omega) (.slice (some ⟨w.heap.size, 0, none⟩) n4 n8) (167 :: body) ([s % 256, s / 256 % 256, s / 65536 % 256, s / 16777216 % 256] : List Int) _ _ _ (fun k_ => True ∧ some k_ ≠ (.slice Al 4 cl : Value).ownBlock) (fun _ => False) rfl rfl ?aO ?aR (fun _ _ h => h) (fun _ h => h.elim) ?aF ?aB ?aS ?aL ?_; (case aR => exact (Kd.R_reads' HO3.out).2.2); (case aB => exact HB3.out); (case aF => exact (fun k_ hk => ⟨trivial, Kd.fresh' (Kd.R_lt HO3.out) k_ hk⟩)); (case aO => exact HO2.out); (case aS => exact (bz_ HB3.out)); (case aL => (have := HN.out; simp only [List.length_cons, List.length_nil]; omega)); intro v4 w4 ho hb hg hat; have HO4 := am_ ho; have HB4 := am_ hb; clear ho hb hg hat))
 go_ret2
 exact ⟨_, rfl, Kd.R_mono (by rw [← HRR.out]; exact HO4.out) (fun _ _ => trivial), HB4.out⟩
end Go.Proofs.YtoandmnefgimoaaDoor.PL
