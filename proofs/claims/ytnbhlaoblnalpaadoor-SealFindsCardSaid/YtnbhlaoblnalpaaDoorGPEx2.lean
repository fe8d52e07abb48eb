-- PRINTED by gprint.py (a session's own driver over the kit's print): not trusted; Lean checks it.
import Derived.Test.YtnbhlaoblnalpaaDoorGPEx0
import Derived.Test.YtnbhlaoblnalpaaDoorGPEx1
namespace Go.Proofs.YtnbhlaoblnalpaaDoor.PE
open Go.RowKit Go.Proofs.YtnbhlaoblnalpaaDoorW.PrintWords Go.Proofs.YtnbhlaoblnalpaaDoorW.PrintLast Go.Proofs.YtnbhlaoblnalpaaDoorW.PrintMore
attribute [local go_sem] max2_int min2_int max_two min_two max_three min_three max_four min_four   -- for this text's walks alone
set_option linter.unusedVariables false
set_option linter.unusedSimpArgs false

/-! ### grapevinelaw01_SealApart: function 6 -/
-- typed by mk_apart.py: the true path alone
/-! ### seal_Seal: function 21 -/
-- typed by hand: a make with a capacity of its own, a copy into a part
namespace KdMore
open Kd
section
variable {P : Program} {ops : Array Oper} {rest : List Oper} {o : Oper} {a : Act} {Q : Exit → Act → World → Prop} {α : Type}
/-- make([]T, n, c), of scalars. -/
theorem R_make_cap {enc : α → Value} {h1 : ∀ x, (enc x).oneCell' = true} {w0 W : World} (base e : Nat) (hgd : o.guard = none) {N : Tmp} (hd : o.dst = some N) (t : TypeId) (x y : Operand) (ho : o.op = .makeSlice t x y) (n c : Nat) (hx : a.eval x = .int .i64 (n : Int)) (hy : a.eval y = .int .i64 (c : Int))
    (ht : P.underlying t = some (.slice e)) (z0 : α) (bytes : Nat) (hinfo : (P.info? e).map (fun i => (i.zero, i.size, i.bytes)) = some (some (enc z0), 1, bytes)) (hz : (enc z0).cells = #[enc z0]) {ok : Nat → Prop} (hfresh : ok W.heap.size) (hnc : n ≤ c) (hl : c * bytes ≤ 281474976710656) (hb : 0 < bytes)
    (HB : Below base w0 W) (hbase : base ≤ W.heap.size)
    (h : ∀ w1, (scalar enc h1).R e w1 base ok (.slice (some ⟨W.heap.size, 0, none⟩) n c) (List.replicate n z0) → Below base w0 w1 → W.grownBy w1 none → W.heap.size < w1.heap.size → wpList P ops Q rest (a.put o.dst (.slice (some ⟨W.heap.size, 0, none⟩) n c)) w1) : wpList P ops Q (o :: rest) a W := by
  obtain ⟨i0, hi, hzz⟩ := Option.map_eq_some_iff.1 hinfo
  simp only [Prod.mk.injEq] at hzz
  obtain ⟨hz0, hz1, hz2⟩ := hzz
  have hc : c ≤ 281474976710656 := Nat.le_trans (Nat.le_mul_of_pos_right _ hb) hl
  have hr := run_make (P := P) W t e i0 (enc z0) ht hi hz0 .i64 .i64 (n : Int) (c : Int) (by omega) (by omega)
    (by
      have h3 : ((i0.bytes * c : Nat) : Int) ≤ 281474976710656 := by rw [hz2, Nat.mul_comm]; omega
      rwa [Int.natCast_mul] at h3) (by omega)
  simp only [Int.toNat_natCast] at hr
  rw [hz1, Nat.mul_one] at hr
  have hrun : (execOp a.eval o).run P W = .ok (.value (.slice (some ⟨W.heap.size, 0, none⟩) n c)) (W.alloc (.cells (madeCells (enc z0).cells c) e)) := by
    simp [execOp, ho, hx, hy, hr]
  have hm : (madeCells (enc z0).cells c).toList = encs enc (List.replicate c z0) := by
    apply List.ext_getElem
    · simp [size_madeCells, encs]
    · intro i g1 g2
      simp [madeCells, hz, encs, Nat.mod_one]
  refine event_run hgd hrun (h _ (R_of_own ?_ ?_) (HB.alloc hbase _) (World.grownBy_alloc W _ none) (by show W.heap.size < (W.heap.push _).size; simp))
  · have h2 := World.ownsRow_lit (base := base) (e := e) (size := 1) W (madeCells (enc z0).cells c) c hbase (by simp [maxLen]; omega) (by simp [size_madeCells])
    have h3 := own_take h2 hnc
    rw [hm] at h3
    have e1 : (encs enc (List.replicate c z0)).take (n * 1) = encs enc (List.replicate n z0) := by
      simp [encs, List.take_replicate, Nat.min_eq_left hnc]
    rw [e1] at h3
    simpa using h3
  · intro k hk
    have : W.heap.size = k := by simpa [Value.ownBlock] using hk
    subst this
    exact hfresh
/-- copy(v[k:], ys), v a row of scalars of one's own, wide enough. -/
theorem R_copy_at {enc : α → Value} {h1 : ∀ x, (enc x).oneCell' = true} (d : α) {w0 W : World} (base : Nat) (hgd : o.guard = none) (s x : Operand) (t t' e : TypeId)
    (ho : o.op = .call { callee := .builtin .copy, args := #[s, x], argTypes := #[t, t'] }) (ht : P.underlying t = some (.slice e)) (hinfo : (P.info? e).map (·.size) = some 1)
    (g cap n k n' c' : Nat) (xs ys : List α) (A : Option Addr) (m c : Nat) (ok : Nat → Prop) (hs : a.eval s = .slice (some ⟨g, k, none⟩) n' c') (hx : a.eval x = .slice A m c) (hn : m ≤ n') (hk : k + m ≤ n)
    (HO : (scalar enc h1).R e W base ok (.slice (some ⟨g, 0, none⟩) n cap) xs) (HR : (scalar enc h1).C W A m ys) (HB : Below base w0 W) (hbase : base ≤ W.heap.size)
    (h : ∀ w1, (scalar enc h1).R e w1 base ok (.slice (some ⟨g, 0, none⟩) n cap) (xs.take k ++ ys ++ xs.drop (k + m)) → Below base w0 w1 → W.grownBy w1 (some g) → wpList P ops Q rest (a.put o.dst (.int .i64 (m : Int))) w1) :
    wpList P ops Q (o :: rest) a W := by
  obtain ⟨rfl, _⟩ := R_reads' HO
  have hR := reads_of_C (enc := enc) (d := d) (h1 := h1) HR
  have hm : ys.length = m := hR.1
  have hown := own_of_R HO
  have fin : ∀ w1, (Builtin.copy_ #[t, t'] o.type #[.slice (some ⟨g, k, none⟩) n' c', .slice A m c]).run P W = .ok (goInt m) w1 → (scalar enc h1).R e w1 base ok (.slice (some ⟨g, 0, none⟩) xs.length cap) (xs.take k ++ ys ++ xs.drop (k + m)) → W.grownBy w1 (some g) → wpList P ops Q (o :: rest) a W := by
    intro w1 hr hrow hg
    refine wpList_plain hgd fun K hK => ?_
    unfold Oper.wp execOp
    simp only [ho, resolve, invoke, builtin, Sem.run_bind, Sem.run_pure, Result.andThen_ok, List.map_toArray, List.map_cons, List.map_nil, hs, hx, hr]
    exact hK _ _ (h w1 hrow (HB.grown hg hbase (by
      have := own_base hown
      simpa [Value.ownBlock] using this)) hg)
  rcases Nat.eq_zero_or_pos m with h0 | hp
  · refine fin W ?_ (by
      have e0 : ys = [] := List.eq_nil_of_length_eq_zero (by omega)
      rw [h0, e0]; simpa using HO) (World.grownBy.refl W _)
    rw [h0]
    exact run_copy_none W t t' o.type e _ A n' c' 0 c ht hinfo (by simp)
  · obtain ⟨ad, hA, hc⟩ := hR.2.2 (by omega)
    rcases hown.2 with ⟨hx1, hx0⟩ | ⟨g', cap', cur, hv, hb, hh, hnc, hcm, hcs, htake⟩
    · omega
    injection hv with hv1 _ hv3
    injection hv1 with hv1
    injection hv1 with hv1
    subst hv1; subst hv3
    have hcs1 : cur.size = cap := by omega
    have hsrc : ∀ j u, (encs enc ys)[j]? = some u → W.cell? (ad.add j) = some u := by
      intro j u hu
      have hj : j < ys.length := by
        rcases Nat.lt_or_ge j ys.length with h | h
        · exact h
        · rw [List.getElem?_eq_none (by rw [encs_length]; exact h)] at hu
          cases hu
      rw [encs_get (d := d) _ j hj] at hu
      rw [hc j (by omega), ← hu]
    have hkl : (encs enc ys).length = m := by rw [encs_length, hm]
    have hr := run_copy_cells (P := P) W t t' o.type e g k n' c' ad m c (encs enc ys) ht hinfo (by rw [hkl]; exact (Nat.min_eq_left hn).symm) hsrc
      (fun j hj => by rw [cell_of_row W g _ cur e (0, 0) hh]; simp; omega) (fun j _ => blk_frozen hh _) (by intro u hu; simp only [encs, List.mem_map] at hu; obtain ⟨q, _, rfl⟩ := hu; exact h1 q)
    obtain ⟨cur', h3, h4, h5⟩ := setCells_row (encs enc ys) k W cur hh (by rw [hkl]; omega)
    obtain ⟨s1, s2, s3, s4⟩ := setCells_same g (encs enc ys) k W
    refine fin _ (by rw [hA, hr, hkl]) (R_of_own ?_ HO.1) ⟨s1, s2, s3, by rw [s4]; exact Nat.le_refl _, fun i _ hi => setCells_far _ _ i (fun he => hi (by rw [he]))⟩
    have hln : (xs.take k ++ ys ++ xs.drop (k + m)).length = xs.length := by
      rw [List.length_append, List.length_append, List.length_take, List.length_drop]
      omega
    refine ⟨by rw [encs_length, hln, Nat.mul_one], .inr ⟨g, cap, cur', by rw [hln], hb, h3, by rw [hln]; exact hnc, hcm, by rw [h4, hcs], ?_⟩⟩
    have htk : cur.toList.take xs.length = encs enc xs := by rw [← htake, Nat.mul_one]
    rw [h5, hln, Nat.mul_one, hkl]
    have e1 : encs enc (xs.take k ++ ys ++ xs.drop (k + m)) = (encs enc xs).take k ++ encs enc ys ++ (encs enc xs).drop (k + m) := by simp [encs, List.map_take, List.map_drop]
    have hA : (cur.toList.take k ++ encs enc ys).length = k + m := by rw [List.length_append, List.length_take, hkl, Array.length_toList]; omega
    rw [e1, ← htk, List.take_take, Nat.min_eq_left (by omega), List.drop_take, List.take_append, List.take_of_length_le (by omega), hA]
end
end KdMore

def seal_Seal.f (k : Nat) (a0 : Int) (l1 : List Int) : Option (List Int × Int) :=
  if (l1.length : Int) > 4096 then some ([], 6) else
  (seal_Sum.f k (a0 :: ((l1.length : Int) % 256) :: ((l1.length : Int) / 256 % 256) :: l1)).bind fun s =>
    some ((167 :: a0 :: ((l1.length : Int) % 256) :: ((l1.length : Int) / 256 % 256) :: l1) ++ [s % 256, s / 256 % 256, s / 65536 % 256, s / 16777216 % 256], 0)
theorem seal_row (n : Nat) (l1 : List Int) (hn : n = l1.length + 4) (a b c d : Int) :
    (((((List.replicate n (0 : Int)).set (0 : Int).toNat a).set (1 : Int).toNat b).set (2 : Int).toNat c).set (3 : Int).toNat d).take 4 ++ l1 ++ (((((List.replicate n (0 : Int)).set (0 : Int).toNat a).set (1 : Int).toNat b).set (2 : Int).toNat c).set (3 : Int).toNat d).drop (4 + l1.length) = a :: b :: c :: d :: l1 := by
  subst hn
  have e : List.replicate (l1.length + 4) (0 : Int) = 0 :: 0 :: 0 :: 0 :: List.replicate l1.length 0 := rfl
  rw [e]
  have e0 : (0 : Int).toNat = 0 := rfl
  have e1 : (1 : Int).toNat = 1 := rfl
  have e2 : (2 : Int).toNat = 2 := rfl
  have e3 : (3 : Int).toNat = 3 := rfl
  rw [e0, e1, e2, e3, Nat.add_comm]
  simp [List.drop_replicate]
set_option maxHeartbeats 8000000 in
set_option maxRecDepth 100000 in
theorem seal_Seal.calls (k : Nat) (a0 : Int) (A1 : Option Addr) (c1 : Nat) (l1 : List Int) (r1 : List Int) (r2 : Int) (w : World) (hr1 : Kd.C (Kd.int .u8) w A1 l1.length l1) (hc1 : l1.length ≤ c1) (ht : TabW w) (h : seal_Seal.f k a0 l1 = some (r1, r2)) :
    Calls Tryd.prog 21 #[.int .u8 a0, .slice A1 l1.length c1] w fun e w' => ∃ v0_ : Value, e = .returned (.tuple #[v0_, .int .i64 r2]) ∧ Kd.R (Kd.int .u8) 5 w' w.heap.size (fun _ => True) v0_ r1 ∧ Below w.heap.size w w' := by
  have HR1 := Aside0.mk hr1
  have HC1 := Aside0.mk hc1
  have HT := Aside0.mk ht
  clear hr1 hc1 ht
  have HB := Aside0.mk (Below.refl w.heap.size w)
  unfold seal_Seal.f at h
  by_cases c3 : (l1.length : Int) > 4096
  · rw [if_pos c3] at h
    have c3b0 : decide (4096 < (l1.length : Int)) = true := decide_eq_true c3
    have c3b1 : decide (4096 < l1.length) = true := decide_eq_true (by omega)
    clear c3
    simp only [Option.some.injEq, Prod.mk.injEq] at h
    obtain ⟨rfl, rfl⟩ := h
    go_enter Tryd.func21, Tryd.ntmps21
    go_wp2
    go_ret2
    exact ⟨_, rfl, Kd.R_nil _ _ _ _ _, by repeat (first | (with_reducible first | exact HB.out | apply below_alloc | apply pw_below_drewN | apply below_drew1) | exact HB.out)⟩
  · rw [if_neg c3] at h
    have c3b0 : decide (4096 < (l1.length : Int)) = false := decide_eq_false c3
    have c3b1 : decide (4096 < l1.length) = false := decide_eq_false (by omega)
    have hle : l1.length ≤ 4096 := by omega
    clear c3
    obtain ⟨s, hs, h⟩ := Option.bind_eq_some_iff.mp h
    simp only [Option.some.injEq, Prod.mk.injEq] at h
    obtain ⟨hr, rfl⟩ := h
    -- names for what is made
    obtain ⟨x2, hx2⟩ : ∃ x : Int, x = (l1.length : Int) % 256 := ⟨_, rfl⟩
    obtain ⟨x3, hx3⟩ : ∃ x : Int, x = (l1.length : Int) / 256 % 256 := ⟨_, rfl⟩
    obtain ⟨body, hbody⟩ : ∃ b : List Int, b = a0 :: x2 :: x3 :: l1 := ⟨_, rfl⟩
    have hout : (167 :: a0 :: x2 :: x3 :: l1 : List Int) = 167 :: body := by rw [hbody]
    rw [← hx2, ← hx3, hout] at hr
    rw [← hx2, ← hx3, ← hbody] at hs
    have hbl : body.length = l1.length + 3 := by rw [hbody]; rfl
    obtain ⟨n4, hn4⟩ : ∃ n : Nat, n = l1.length + 4 := ⟨_, rfl⟩
    obtain ⟨n8, hn8⟩ : ∃ n : Nat, n = l1.length + 8 := ⟨_, rfl⟩
    have w4 : wrap64 (4 + (l1.length : Int)) = (n4 : Int) := by unfold wrap64; omega
    have w8 : wrap64 (8 + (l1.length : Int)) = (n8 : Int) := by unfold wrap64; omega
    obtain ⟨i0, hi0, hz0⟩ := Option.map_eq_some_iff.1 info5
    have hsz0 : i0.size = 1 := by simp only [Prod.mk.injEq] at hz0; exact hz0.2.1
    have hi1 : (Tryd.prog.info? 5).map (·.size) = some 1 := by rw [hi0]; simp [hsz0]
    have hsl4 : ∀ W : World, (Instr.slice 23 (.slice (some ⟨w.heap.size, 0, none⟩) n4 n8) (some (.int .i64 4)) none none).run Tryd.prog W = .ok (.slice (some ⟨w.heap.size, 4, none⟩) l1.length (n8 - 4)) W := by
      intro W
      have hq := cut_from (P := Tryd.prog) 23 5 .i64 Tryd.underlying23 hi0 1 hsz0 (some ⟨w.heap.size, 0, none⟩) n4 n8 4 (by omega) (by omega) W
      rw [if_neg (by omega)] at hq
      rw [show n4 - (4 : Int).toNat = l1.length by omega] at hq
      exact hq
    have hsl1 : ∀ W : World, (Instr.slice 23 (.slice (some ⟨w.heap.size, 0, none⟩) n4 n8) (some (.int .i64 1)) none none).run Tryd.prog W = .ok (.slice (some ⟨w.heap.size, 1, none⟩) body.length (n8 - 1)) W := by
      intro W
      have hq := cut_from (P := Tryd.prog) 23 5 .i64 Tryd.underlying23 hi0 1 hsz0 (some ⟨w.heap.size, 0, none⟩) n4 n8 1 (by omega) (by omega) W
      rw [if_neg (by omega)] at hq
      rw [show n4 - (1 : Int).toNat = body.length by omega] at hq
      exact hq
    have q0 := eq_true (show (0 : Int) < (n4 : Int) by omega)
    have q0n := eq_true (show 0 < n4 by omega)
    have q1n := eq_true (show 1 < n4 by omega)
    have q2n := eq_true (show 2 < n4 by omega)
    have q3n := eq_true (show 3 < n4 by omega)
    have q1 := eq_true (show (1 : Int) < (n4 : Int) by omega)
    have q2 := eq_true (show (2 : Int) < (n4 : Int) by omega)
    have q3 := eq_true (show (3 : Int) < (n4 : Int) by omega)
    have HS := Aside0.mk hs
    have HRR := Aside0.mk hr
    have HN := Aside0.mk (show n4 = l1.length + 4 ∧ n8 = l1.length + 8 ∧ l1.length ≤ 4096 ∧ body.length = l1.length + 3 from ⟨hn4, hn8, hle, hbl⟩)
    have HX2 := Aside0.mk hx2
    have HX3 := Aside0.mk hx3
    have HBD := Aside0.mk hbody
    clear hs hr hn4 hn8 hle hbl hx2 hx3 hbody hout
    go_enter Tryd.func21, Tryd.ntmps21
    go_wp2_with (first
      | ((with_reducible refine gate_dst (N := 17) rfl ?_); refine KdMore.R_make_cap (enc := Value.int .u8) (h1 := fun _ => rfl) (w0 := w) w.heap.size 5 rfl rfl 23 (.tmp 13) (.tmp 16) rfl n4 n8 (by rw [← w4]; rfl) (by rw [← w8]; rfl) Tryd.underlying23 0 1 info5 rfl (ok := fun _ => True) trivial (by have := HN.out; omega) (by have := HN.out; omega) (by omega) (by repeat (first | exact HB.out | apply below_alloc | apply pw_below_drewN)) (Nat.le_refl _) ?_; intro w1 ho hb hg hlt; have z0 := Kd.R_celln (0 : Int) ho 0 (by omega) (by have := HN.out; omega); have z1 := Kd.R_celln (0 : Int) ho 1 (by omega) (by have := HN.out; omega); have z2 := Kd.R_celln (0 : Int) ho 2 (by omega) (by have := HN.out; omega); have z3 := Kd.R_celln (0 : Int) ho 3 (by omega) (by have := HN.out; omega); have zc0 : w1.cell? ⟨w.heap.size, 0, none⟩ = some (.int .u8 (rdOf 0 (List.replicate n4 0) 0)) := z0.1; have zc1 : w1.cell? ⟨w.heap.size, 1, none⟩ = some (.int .u8 (rdOf 0 (List.replicate n4 0) 1)) := z1.1; have zc2 : w1.cell? ⟨w.heap.size, 2, none⟩ = some (.int .u8 (rdOf 0 (List.replicate n4 0) 2)) := z2.1; have zc3 : w1.cell? ⟨w.heap.size, 3, none⟩ = some (.int .u8 (rdOf 0 (List.replicate n4 0) 3)) := z3.1; have zf0 : w1.frozen? ⟨w.heap.size, 0, none⟩ = false := z0.2; have zf1 : w1.frozen? ⟨w.heap.size, 1, none⟩ = false := z1.2; have zf2 : w1.frozen? ⟨w.heap.size, 2, none⟩ = false := z2.2; have zf3 : w1.frozen? ⟨w.heap.size, 3, none⟩ = false := z3.2; clear z0 z1 z2 z3; have HO1 := Aside0.mk ho; have HB1 := Aside0.mk hb; have HLT := Aside0.mk hlt; clear ho hb hg hlt HB)
      | ((with_reducible refine gate_builtin (b := .copy) (xs := #[.tmp 35, .tmp 36]) rfl ?_); refine KdMore.R_copy_at (enc := Value.int .u8) (h1 := fun _ => rfl) (0 : Int) (w0 := w) w.heap.size rfl (.tmp 35) (.tmp 36) 23 23 5 rfl Tryd.underlying23 hi1 w.heap.size n8 n4 4 l1.length (n8 - 4) _ l1 A1 l1.length c1 (fun _ => True) rfl rfl (Nat.le_refl _) (by have := HN.out; omega) (Kd.R_putn (Kd.R_putn (Kd.R_putn (Kd.R_putn HO1.out 0 167) 1 a0) 2 ((l1.length : Int) % 256)) 3 ((l1.length : Int) / 256 % 256)) (Kd.C_below HR1.out (by repeat (first | (with_reducible first | exact HB1.out | apply below_alloc | apply pw_below_drewN | apply below_drew1 | refine below_set ?_ (Nat.le_refl _)) | exact HB1.out))) (by repeat (first | (with_reducible first | exact HB1.out | apply below_alloc | apply pw_below_drewN | apply below_drew1 | refine below_set ?_ (Nat.le_refl _)) | exact HB1.out)) (below_size (by repeat (first | (with_reducible first | exact HB1.out | apply below_alloc | apply pw_below_drewN | apply below_drew1 | refine below_set ?_ (Nat.le_refl _)) | exact HB1.out))) ?_; intro w2 ho hb hg; rw [seal_row n4 l1 HN.out.1, ← HX2.out, ← HX3.out] at ho; have e0_ : (167 :: a0 :: x2 :: x3 :: l1 : List Int) = 167 :: body := (by rw [HBD.out]); rw [e0_] at ho; have HO2 := Aside0.mk ho; have HB2 := Aside0.mk hb; have hcc := Kd.C_drop (m := 1) (c := n8) (by have h2 := (Kd.R_reads' ho).2.2; exact h2) (by simp) (by have := HN.out; simp only [List.length_cons]; omega); rw [if_neg (by have := HN.out; omega)] at hcc; have HCB := Aside0.mk (show Kd.C (Kd.int .u8) w2 (some ⟨w.heap.size, 1, none⟩) body.length body from hcc); clear ho hb hg e0_ hcc zc0 zc1 zc2 zc3 zf0 zf1 zf2 zf3 HO1 HB1)
      | ((with_reducible refine gate_callee (f := 16) rfl ?_); refine goesL_ (some 40) rfl rfl Tryd.func16 (by kernel_rfl) rfl #[.slice (some ⟨w.heap.size, 1, none⟩) body.length (n8 - 1)] rfl (by (try simp only [List.map_toArray, List.map_cons, List.map_nil]); first | done | rfl) ?_; refine (seal_Sum.calls k _ (n8 - 1) body s _ HCB.out (by have := HN.out; omega) (TabW.below HT.out HB2.out) HS.out).mono ?_; rintro e w' ⟨rfl, ⟨nd, rfl⟩⟩; refine ⟨_, rfl, ?_⟩)
      | ((with_reducible refine gate_dst (N := 53) rfl ?_); refine Kd.R_lit (Kd.int .u8) _ 5 ?hg (N := 53) ?hd (xs := ([s % 256, s / 256 % 256, s / 65536 % 256, s / 16777216 % 256] : List Int)) (inner := [.int .u8 (s % 256), .int .u8 (s / 256 % 256), .int .u8 (s / 65536 % 256), .int .u8 (s / 16777216 % 256)]) (ok := fun _ => True) (okp := fun _ => True) ?hr ?hp (fun _ hk => hk) trivial (Below.refl _ _) (Nat.le_refl _) (by simp) ?_; (case hd => rfl); (case hg => rfl); (case hr => first | (go_simp; done) | (go_simp; rfl)); (case hp => exact (Reps.one (show Kd.M (Kd.int .u8) _ _ _ (s % 256) [.int .u8 (s % 256)] from rfl) (Reps.one (show Kd.M (Kd.int .u8) _ _ _ (s / 256 % 256) [.int .u8 (s / 256 % 256)] from rfl) (Reps.one (show Kd.M (Kd.int .u8) _ _ _ (s / 65536 % 256) [.int .u8 (s / 65536 % 256)] from rfl) (Reps.one (show Kd.M (Kd.int .u8) _ _ _ (s / 16777216 % 256) [.int .u8 (s / 16777216 % 256)] from rfl) (Reps.none _ _)))))); intro v3 w3 ho3 hb hg_ hnew_; clear hg_ hnew_; have HO3 := Aside0.mk (Kd.R_lower (Kd.R_new' ho3 (Kd.R_lt (by (with_reducible repeat (first | apply Kd.R_alloc | apply Kd.R_drewN | apply Kd.R_drew)); exact HO2.out))) (below_size (by repeat (first | (with_reducible first | exact HB2.out | apply below_alloc | apply pw_below_drewN | apply below_drew1) | exact HB2.out)))); have n0_ := Aside0.mk (Kd.R_elder' (by (with_reducible repeat (first | apply Kd.R_alloc | apply Kd.R_drewN | apply Kd.R_drew)); exact HO2.out) (Kd.R_base ho3) hb); have HB3 := Aside0.mk (below_step (by repeat (first | (with_reducible first | exact HB2.out | apply below_alloc | apply pw_below_drewN | apply below_drew1) | exact HB2.out)) hb); clear HO2; have HO2 := n0_; clear n0_ hb ho3 HB2 HCB; obtain ⟨Al, cl, el⟩ := Kd.R_slice HO3.out; subst el)
      | ((with_reducible refine gate_builtin (b := .append) (xs := #[.tmp 41, .tmp 53]) rfl ?_); at_builtin; refine Kd.R_append_rows (Kd.int .u8) (w0 := w) w.heap.size rfl (.tmp 41) (.tmp 53) 23 5 (.int .u8 0) 1 rfl Tryd.underlying23 info5 rfl (by decide) (by omega) (.slice (some ⟨w.heap.size, 0, none⟩) n4 n8) (167 :: body) ([s % 256, s / 256 % 256, s / 65536 % 256, s / 16777216 % 256] : List Int) _ _ _ (fun k_ => True ∧ some k_ ≠ (.slice Al 4 cl : Value).ownBlock) (fun _ => False) rfl rfl ?aO ?aR (fun _ _ h => h) (fun _ h => h.elim) ?aF ?aB ?aS ?aL ?_; (case aR => exact (Kd.R_reads' HO3.out).2.2); (case aB => exact (by repeat (first | (with_reducible first | exact HB3.out | apply below_alloc | apply pw_below_drewN | apply below_drew1) | exact HB3.out))); (case aF => exact (fun k_ hk => ⟨trivial, Kd.fresh' (Kd.R_lt HO3.out) k_ hk⟩)); (case aO => exact (by (with_reducible repeat (first | apply Kd.R_alloc | apply Kd.R_drewN | apply Kd.R_drew)); exact HO2.out)); (case aS => exact (below_size (by repeat (first | (with_reducible first | exact HB3.out | apply below_alloc | apply pw_below_drewN | apply below_drew1) | exact HB3.out)))); (case aL => (have := HN.out; simp only [List.length_cons, List.length_nil]; omega)); intro v4 w4 ho hb hg hat; have HO4 := Aside0.mk ho; have HB4 := Aside0.mk hb; clear ho hb hg hat))
    go_ret2
    exact ⟨_, rfl, Kd.R_mono (by rw [← HRR.out]; exact HO4.out) (fun _ _ => trivial), HB4.out⟩


/-! ### grapevineref01_Seal: function 22 -/
/-! ### seal_Open: function 24 -/
-- typed by mk_open.py: a copy into a row of its own
def seal_Open.n (t : List Int) : Int := Go.bits .or .i64 (wrap64 (rd t 2)) (wrap64 (wrap64 (rd t 3) * 256))
def seal_Open.t (k : Nat) (t : List Int) (a1 n : Int) : Option (Int × Int × List Int × Int × Int) :=
  (seal_Sum.f k ((t.take (4 + n).toNat).drop 1)).bind fun s =>
    if rd t (4 + n) = s % 256 then (if rd t (5 + n) = s / 256 % 256 then (if rd t (6 + n) = s / 65536 % 256 then (if rd t (7 + n) = s / 16777216 % 256 then
      some (rd t 1, a1, (t.drop 4).take n.toNat, wrap64 (wrap64 (a1 + n) + 8), 0)
    else some (0, 0, [], 0, 5)) else some (0, 0, [], 0, 5)) else some (0, 0, [], 0, 5)) else some (0, 0, [], 0, 5)
def seal_Open.f (k : Nat) (l0 : List Int) (a1 : Int) : Option (Int × Int × List Int × Int × Int) :=
  if a1 < 0 then some (0, 0, [], 0, 2) else
  if a1 > (l0.length : Int) then some (0, 0, [], 0, 2) else
  if (((l0.drop a1.toNat).length : Nat) : Int) = 0 then some (0, 0, [], 0, 3) else
  if rd (l0.drop a1.toNat) 0 = 167 then
    if (((l0.drop a1.toNat).length : Nat) : Int) < 4 then some (0, 0, [], 0, 3) else
    if seal_Open.n (l0.drop a1.toNat) > 4096 then some (0, 0, [], 0, 6) else
    if 0 ≤ seal_Open.n (l0.drop a1.toNat) then
      if (((l0.drop a1.toNat).length : Nat) : Int) < seal_Open.n (l0.drop a1.toNat) + 8 then some (0, 0, [], 0, 3) else
      seal_Open.t k (l0.drop a1.toNat) a1 (seal_Open.n (l0.drop a1.toNat))
    else none
  else some (0, 0, [], 0, 4)
set_option maxHeartbeats 16000000 in
set_option maxRecDepth 100000 in
theorem seal_Open.calls (k : Nat) (A0 : Option Addr) (c0 : Nat) (l0 : List Int) (a1 : Int) (r1 : Int) (r2 : Int) (r3 : List Int) (r4 : Int) (r5 : Int) (w : World) (hr0 : Kd.C (Kd.int .u8) w A0 l0.length l0) (hc0 : l0.length ≤ c0) (ht : TabW w) (h : seal_Open.f k l0 a1 = some (r1, r2, r3, r4, r5)) :
    Calls Tryd.prog 24 #[.slice A0 l0.length c0, .int .i64 a1] w fun e w' => ∃ v2_ : Value, e = .returned (.tuple #[.agg #[.int .u8 r1, .int .i64 r2, v2_], .int .i64 r4, .int .i64 r5]) ∧ Kd.R (Kd.int .u8) 5 w' w.heap.size (fun _ => True) v2_ r3 ∧ Below w.heap.size w w' := by
  have hu39 := Tryd.underlying39
  have HR0 := Aside0.mk hr0
  have HC0 := Aside0.mk hc0
  have HT := Aside0.mk ht
  clear hr0 hc0 ht
  unfold seal_Open.f at h
  obtain ⟨i0, hi0, hz0⟩ := Option.map_eq_some_iff.1 info5
  have hsz0 : i0.size = 1 := by simp only [Prod.mk.injEq] at hz0; exact hz0.2.1
  have hi1 : (Tryd.prog.info? 5).map (·.size) = some 1 := by rw [hi0]; simp [hsz0]
  clear hz0
  by_cases c1 : a1 < 0
  · rw [if_pos c1] at h
    have c1b : decide (a1 < 0) = true := decide_eq_true c1
    clear c1
    simp only [Option.some.injEq, Prod.mk.injEq] at h
    obtain ⟨rfl, rfl, rfl, rfl, rfl⟩ := h
    go_enter Tryd.func24, Tryd.ntmps24
    go_wp2_with (((with_reducible refine gate_dst (N := 4) rfl ?_); refine box_event ?hg (N := 4) ?hd (cs := #[.int .u8 0, .int .i64 0, .slice none 0 0]) (t := 39) ?hr ?_; (case hd => rfl); (case hg => rfl); (case hr => first | (go_simp; done) | (go_simp; rfl)); intro gb hgb w1 hbox hb; have GE := Aside0.mk (show w.heap.size ≤ gb by (rw [hgb]; exact Nat.le_refl _)); have BK := Aside0.mk hbox; have HB := Aside0.mk hb; have hcz0 : w1.cell? ⟨gb, 0, none⟩ = some (.int .u8 0) := (blk_cell hbox 0).trans rfl; have hcz1 : w1.cell? ⟨gb, 1, none⟩ = some (.int .i64 0) := (blk_cell hbox 1).trans rfl; have hcz2 : w1.cell? ⟨gb, 2, none⟩ = some (.slice none 0 0) := (blk_cell hbox 2).trans rfl; have hfz0 := blk_frozen hbox 0; have hfz1 := blk_frozen hbox 1; have hfz2 := blk_frozen hbox 2; clear hgb hbox hb))
    refine bodyPost_ret (results_ctt rfl _ _ gb 39 #[.int .u8 0, .int .i64 0, .slice none 0 0] (0, 0) _ rfl (by (with_reducible repeat (first | refine blk_drewN ?_ _ | refine blk_drew ?_ | refine blk_alloc ?_ _)); refine blk_put (cs := #[.int .u8 0, .int .i64 0, .slice none 0 0]) ?_ 2 _ rfl; (with_reducible repeat (first | refine blk_drewN ?_ _ | refine blk_drew ?_ | refine blk_alloc ?_ _)); refine blk_put (cs := #[.int .u8 0, .int .i64 0, .slice none 0 0]) ?_ 1 _ rfl; (with_reducible repeat (first | refine blk_drewN ?_ _ | refine blk_drew ?_ | refine blk_alloc ?_ _)); refine blk_put (cs := #[.int .u8 0, .int .i64 0, .slice none 0 0]) ?_ 0 _ rfl; (with_reducible repeat (first | refine blk_drewN ?_ _ | refine blk_drew ?_ | refine blk_alloc ?_ _)); exact BK.out) Tryd.underlying39 rfl (by kernel_rfl)) rfl ?_
    exact ⟨_, rfl, Kd.R_nil _ _ _ _ _, by repeat (first | (with_reducible first | exact HB.out | apply below_alloc | apply pw_below_drewN | apply below_drew1 | refine below_set ?_ GE.out) | exact HB.out)⟩
  rw [if_neg c1] at h
  have c1b : decide (a1 < 0) = false := decide_eq_false c1
  by_cases c2 : a1 > (l0.length : Int)
  · rw [if_pos c2] at h
    have c2b : decide ((l0.length : Int) < a1) = true := decide_eq_true c2
    clear c1 c2
    simp only [Option.some.injEq, Prod.mk.injEq] at h
    obtain ⟨rfl, rfl, rfl, rfl, rfl⟩ := h
    go_enter Tryd.func24, Tryd.ntmps24
    go_wp2_with (((with_reducible refine gate_dst (N := 4) rfl ?_); refine box_event ?hg (N := 4) ?hd (cs := #[.int .u8 0, .int .i64 0, .slice none 0 0]) (t := 39) ?hr ?_; (case hd => rfl); (case hg => rfl); (case hr => first | (go_simp; done) | (go_simp; rfl)); intro gb hgb w1 hbox hb; have GE := Aside0.mk (show w.heap.size ≤ gb by (rw [hgb]; exact Nat.le_refl _)); have BK := Aside0.mk hbox; have HB := Aside0.mk hb; have hcz0 : w1.cell? ⟨gb, 0, none⟩ = some (.int .u8 0) := (blk_cell hbox 0).trans rfl; have hcz1 : w1.cell? ⟨gb, 1, none⟩ = some (.int .i64 0) := (blk_cell hbox 1).trans rfl; have hcz2 : w1.cell? ⟨gb, 2, none⟩ = some (.slice none 0 0) := (blk_cell hbox 2).trans rfl; have hfz0 := blk_frozen hbox 0; have hfz1 := blk_frozen hbox 1; have hfz2 := blk_frozen hbox 2; clear hgb hbox hb))
    refine bodyPost_ret (results_ctt rfl _ _ gb 39 #[.int .u8 0, .int .i64 0, .slice none 0 0] (0, 0) _ rfl (by (with_reducible repeat (first | refine blk_drewN ?_ _ | refine blk_drew ?_ | refine blk_alloc ?_ _)); refine blk_put (cs := #[.int .u8 0, .int .i64 0, .slice none 0 0]) ?_ 2 _ rfl; (with_reducible repeat (first | refine blk_drewN ?_ _ | refine blk_drew ?_ | refine blk_alloc ?_ _)); refine blk_put (cs := #[.int .u8 0, .int .i64 0, .slice none 0 0]) ?_ 1 _ rfl; (with_reducible repeat (first | refine blk_drewN ?_ _ | refine blk_drew ?_ | refine blk_alloc ?_ _)); refine blk_put (cs := #[.int .u8 0, .int .i64 0, .slice none 0 0]) ?_ 0 _ rfl; (with_reducible repeat (first | refine blk_drewN ?_ _ | refine blk_drew ?_ | refine blk_alloc ?_ _)); exact BK.out) Tryd.underlying39 rfl (by kernel_rfl)) rfl ?_
    exact ⟨_, rfl, Kd.R_nil _ _ _ _ _, by repeat (first | (with_reducible first | exact HB.out | apply below_alloc | apply pw_below_drewN | apply below_drew1 | refine below_set ?_ GE.out) | exact HB.out)⟩
  rw [if_neg c2] at h
  have c2b : decide ((l0.length : Int) < a1) = false := decide_eq_false c2
  obtain ⟨t, htt⟩ : ∃ t : List Int, t = l0.drop a1.toNat := ⟨_, rfl⟩
  rw [← htt] at h
  have htl : t.length = l0.length - a1.toNat := by rw [htt, List.length_drop]
  obtain ⟨A2, hA2⟩ : ∃ A2, A2 = (if c0 = a1.toNat then A0 else A0.map (·.add (a1.toNat * 1))) := ⟨_, rfl⟩
  obtain ⟨c2', hc2'⟩ : ∃ c : Nat, c = c0 - a1.toNat := ⟨_, rfl⟩
  have hsl : ∀ W : World, (Instr.slice 23 (.slice A0 l0.length c0) (some (.int .i64 a1)) none none).run Tryd.prog W = .ok (.slice A2 t.length c2') W := by
    intro W
    have hq := cut_from (P := Tryd.prog) 23 5 .i64 Tryd.underlying23 hi0 1 hsz0 A0 l0.length c0 a1 (by omega) (by omega) W
    rw [hA2, hc2', htl]
    exact hq
  have hct : Kd.C (Kd.int .u8) w A2 t.length t := by
    rw [hA2, htt]
    exact Kd.C_drop (m := a1.toNat) (c := c0) HR0.out (by omega) HC0.out
  have HCT := Aside0.mk hct
  have HTL := Aside0.mk (show t.length ≤ c2' by have := HC0.out; omega)
  have HTT := Aside0.mk htt
  have HTN := Aside0.mk (show t.length ≤ 9223372036854775807 from hct.2.1)
  have htle := HTL.out
  clear hct htt hA2 hc2' c1 c2 htl
  by_cases c3 : ((t.length : Nat) : Int) = 0
  · rw [if_pos c3] at h
    have c3b : ((t.length : Int) == 0) = true := beq_iff_eq.mpr c3
    have c3n : (t.length == 0) = true := beq_iff_eq.mpr (by omega)
    have c3e : t.length = 0 := by omega
    clear c3
    simp only [Option.some.injEq, Prod.mk.injEq] at h
    obtain ⟨rfl, rfl, rfl, rfl, rfl⟩ := h
    go_enter Tryd.func24, Tryd.ntmps24
    go_wp2_with (((with_reducible refine gate_dst (N := 4) rfl ?_); refine box_event ?hg (N := 4) ?hd (cs := #[.int .u8 0, .int .i64 0, .slice none 0 0]) (t := 39) ?hr ?_; (case hd => rfl); (case hg => rfl); (case hr => first | (go_simp; done) | (go_simp; rfl)); intro gb hgb w1 hbox hb; have GE := Aside0.mk (show w.heap.size ≤ gb by (rw [hgb]; exact Nat.le_refl _)); have BK := Aside0.mk hbox; have HB := Aside0.mk hb; have hcz0 : w1.cell? ⟨gb, 0, none⟩ = some (.int .u8 0) := (blk_cell hbox 0).trans rfl; have hcz1 : w1.cell? ⟨gb, 1, none⟩ = some (.int .i64 0) := (blk_cell hbox 1).trans rfl; have hcz2 : w1.cell? ⟨gb, 2, none⟩ = some (.slice none 0 0) := (blk_cell hbox 2).trans rfl; have hfz0 := blk_frozen hbox 0; have hfz1 := blk_frozen hbox 1; have hfz2 := blk_frozen hbox 2; clear hgb hbox hb))
    refine bodyPost_ret (results_ctt rfl _ _ gb 39 #[.int .u8 0, .int .i64 0, .slice none 0 0] (0, 0) _ rfl (by (with_reducible repeat (first | refine blk_drewN ?_ _ | refine blk_drew ?_ | refine blk_alloc ?_ _)); refine blk_put (cs := #[.int .u8 0, .int .i64 0, .slice none 0 0]) ?_ 2 _ rfl; (with_reducible repeat (first | refine blk_drewN ?_ _ | refine blk_drew ?_ | refine blk_alloc ?_ _)); refine blk_put (cs := #[.int .u8 0, .int .i64 0, .slice none 0 0]) ?_ 1 _ rfl; (with_reducible repeat (first | refine blk_drewN ?_ _ | refine blk_drew ?_ | refine blk_alloc ?_ _)); refine blk_put (cs := #[.int .u8 0, .int .i64 0, .slice none 0 0]) ?_ 0 _ rfl; (with_reducible repeat (first | refine blk_drewN ?_ _ | refine blk_drew ?_ | refine blk_alloc ?_ _)); exact BK.out) Tryd.underlying39 rfl (by kernel_rfl)) rfl ?_
    exact ⟨_, rfl, Kd.R_nil _ _ _ _ _, by repeat (first | (with_reducible first | exact HB.out | apply below_alloc | apply pw_below_drewN | apply below_drew1 | refine below_set ?_ GE.out) | exact HB.out)⟩
  rw [if_neg c3] at h
  have c3b : ((t.length : Int) == 0) = false := beq_eq_false_iff_ne.mpr c3
  have c3n : (t.length == 0) = false := beq_eq_false_iff_ne.mpr (by omega)
  have c3d := eq_false (show ¬ t.length = 0 by omega)
  obtain ⟨ad, eA, hx0_⟩ := Kd.at_int HCT.out 0 (by omega) (by omega)
  subst eA
  have HX0 := Aside0.mk (show w.cell? ad = some (.int .u8 (rd t 0)) from (by have e0_ : ad.add (0 : Int).toNat = ad := (by simp [Addr.add]); rw [e0_] at hx0_; exact hx0_))
  have p0 := eq_true (show (0 : Int) < (t.length : Int) by omega)
  have p0n := eq_true (show 0 < t.length by omega)
  clear hx0_
  by_cases c4 : rd t 0 = 167
  case neg =>
    rw [if_neg c4] at h
    have c4b : (rd t 0 != 167) = true := by simpa using c4
    have c4c : (rd t 0 == 167) = false := beq_eq_false_iff_ne.mpr c4
    clear c3 c4
    simp only [Option.some.injEq, Prod.mk.injEq] at h
    obtain ⟨rfl, rfl, rfl, rfl, rfl⟩ := h
    go_enter Tryd.func24, Tryd.ntmps24
    go_wp2_with (((with_reducible refine gate_dst (N := 4) rfl ?_); refine box_event ?hg (N := 4) ?hd (cs := #[.int .u8 0, .int .i64 0, .slice none 0 0]) (t := 39) ?hr ?_; (case hd => rfl); (case hg => rfl); (case hr => first | (go_simp; done) | (go_simp; rfl)); intro gb hgb w1 hbox hb; have GE := Aside0.mk (show w.heap.size ≤ gb by (rw [hgb]; exact Nat.le_refl _)); have BK := Aside0.mk hbox; have HB := Aside0.mk hb; have hcz0 : w1.cell? ⟨gb, 0, none⟩ = some (.int .u8 0) := (blk_cell hbox 0).trans rfl; have hcz1 : w1.cell? ⟨gb, 1, none⟩ = some (.int .i64 0) := (blk_cell hbox 1).trans rfl; have hcz2 : w1.cell? ⟨gb, 2, none⟩ = some (.slice none 0 0) := (blk_cell hbox 2).trans rfl; have hfz0 := blk_frozen hbox 0; have hfz1 := blk_frozen hbox 1; have hfz2 := blk_frozen hbox 2; clear hgb hbox hb; have hx0 := (HB.out.cell (World.block_lt_of_cell? w _ HX0.out)).trans HX0.out))
    refine bodyPost_ret (results_ctt rfl _ _ gb 39 #[.int .u8 0, .int .i64 0, .slice none 0 0] (0, 0) _ rfl (by (with_reducible repeat (first | refine blk_drewN ?_ _ | refine blk_drew ?_ | refine blk_alloc ?_ _)); refine blk_put (cs := #[.int .u8 0, .int .i64 0, .slice none 0 0]) ?_ 2 _ rfl; (with_reducible repeat (first | refine blk_drewN ?_ _ | refine blk_drew ?_ | refine blk_alloc ?_ _)); refine blk_put (cs := #[.int .u8 0, .int .i64 0, .slice none 0 0]) ?_ 1 _ rfl; (with_reducible repeat (first | refine blk_drewN ?_ _ | refine blk_drew ?_ | refine blk_alloc ?_ _)); refine blk_put (cs := #[.int .u8 0, .int .i64 0, .slice none 0 0]) ?_ 0 _ rfl; (with_reducible repeat (first | refine blk_drewN ?_ _ | refine blk_drew ?_ | refine blk_alloc ?_ _)); exact BK.out) Tryd.underlying39 rfl (by kernel_rfl)) rfl ?_
    exact ⟨_, rfl, Kd.R_nil _ _ _ _ _, by repeat (first | (with_reducible first | exact HB.out | apply below_alloc | apply pw_below_drewN | apply below_drew1 | refine below_set ?_ GE.out) | exact HB.out)⟩
  rw [if_pos c4] at h
  have c4b : (rd t 0 != 167) = false := by simpa using c4
  have c4c : (rd t 0 == 167) = true := beq_iff_eq.mpr c4
  by_cases c5 : ((t.length : Nat) : Int) < 4
  · rw [if_pos c5] at h
    have c5b : decide ((t.length : Int) < 4) = true := decide_eq_true c5
    have c5n : decide (t.length < 4) = true := decide_eq_true (by omega)
    clear c3 c4 c5
    simp only [Option.some.injEq, Prod.mk.injEq] at h
    obtain ⟨rfl, rfl, rfl, rfl, rfl⟩ := h
    go_enter Tryd.func24, Tryd.ntmps24
    go_wp2_with (((with_reducible refine gate_dst (N := 4) rfl ?_); refine box_event ?hg (N := 4) ?hd (cs := #[.int .u8 0, .int .i64 0, .slice none 0 0]) (t := 39) ?hr ?_; (case hd => rfl); (case hg => rfl); (case hr => first | (go_simp; done) | (go_simp; rfl)); intro gb hgb w1 hbox hb; have GE := Aside0.mk (show w.heap.size ≤ gb by (rw [hgb]; exact Nat.le_refl _)); have BK := Aside0.mk hbox; have HB := Aside0.mk hb; have hcz0 : w1.cell? ⟨gb, 0, none⟩ = some (.int .u8 0) := (blk_cell hbox 0).trans rfl; have hcz1 : w1.cell? ⟨gb, 1, none⟩ = some (.int .i64 0) := (blk_cell hbox 1).trans rfl; have hcz2 : w1.cell? ⟨gb, 2, none⟩ = some (.slice none 0 0) := (blk_cell hbox 2).trans rfl; have hfz0 := blk_frozen hbox 0; have hfz1 := blk_frozen hbox 1; have hfz2 := blk_frozen hbox 2; clear hgb hbox hb; have hx0 := (HB.out.cell (World.block_lt_of_cell? w _ HX0.out)).trans HX0.out))
    refine bodyPost_ret (results_ctt rfl _ _ gb 39 #[.int .u8 0, .int .i64 0, .slice none 0 0] (0, 0) _ rfl (by (with_reducible repeat (first | refine blk_drewN ?_ _ | refine blk_drew ?_ | refine blk_alloc ?_ _)); refine blk_put (cs := #[.int .u8 0, .int .i64 0, .slice none 0 0]) ?_ 2 _ rfl; (with_reducible repeat (first | refine blk_drewN ?_ _ | refine blk_drew ?_ | refine blk_alloc ?_ _)); refine blk_put (cs := #[.int .u8 0, .int .i64 0, .slice none 0 0]) ?_ 1 _ rfl; (with_reducible repeat (first | refine blk_drewN ?_ _ | refine blk_drew ?_ | refine blk_alloc ?_ _)); refine blk_put (cs := #[.int .u8 0, .int .i64 0, .slice none 0 0]) ?_ 0 _ rfl; (with_reducible repeat (first | refine blk_drewN ?_ _ | refine blk_drew ?_ | refine blk_alloc ?_ _)); exact BK.out) Tryd.underlying39 rfl (by kernel_rfl)) rfl ?_
    exact ⟨_, rfl, Kd.R_nil _ _ _ _ _, by repeat (first | (with_reducible first | exact HB.out | apply below_alloc | apply pw_below_drewN | apply below_drew1 | refine below_set ?_ GE.out) | exact HB.out)⟩
  rw [if_neg c5] at h
  have c5b : decide ((t.length : Int) < 4) = false := decide_eq_false c5
  have c5n : decide (t.length < 4) = false := decide_eq_false (by omega)
  obtain ⟨ad1, eA1, hx1_⟩ := Kd.at_int HCT.out 1 (by omega) (by omega)
  cases eA1
  have HX1 := Aside0.mk (show w.cell? ⟨ad.block, ad.off + 1, none⟩ = some (.int .u8 (rd t 1)) from hx1_)
  have p1 := eq_true (show (1 : Int) < (t.length : Int) by omega)
  have p1n := eq_true (show 1 < t.length by omega)
  clear hx1_
  obtain ⟨ad2, eA2, hx2_⟩ := Kd.at_int HCT.out 2 (by omega) (by omega)
  cases eA2
  have HX2 := Aside0.mk (show w.cell? ⟨ad.block, ad.off + 2, none⟩ = some (.int .u8 (rd t 2)) from hx2_)
  have p2 := eq_true (show (2 : Int) < (t.length : Int) by omega)
  have p2n := eq_true (show 2 < t.length by omega)
  clear hx2_
  obtain ⟨ad3, eA3, hx3_⟩ := Kd.at_int HCT.out 3 (by omega) (by omega)
  cases eA3
  have HX3 := Aside0.mk (show w.cell? ⟨ad.block, ad.off + 3, none⟩ = some (.int .u8 (rd t 3)) from hx3_)
  have p3 := eq_true (show (3 : Int) < (t.length : Int) by omega)
  have p3n := eq_true (show 3 < t.length by omega)
  clear hx3_
  obtain ⟨m, hm⟩ : ∃ m : Int, m = seal_Open.n t := ⟨_, rfl⟩
  rw [← hm] at h
  have hme : Go.bits .or .i64 (wrap64 (rd t 2)) (wrap64 (wrap64 (rd t 3) * 256)) = m := hm.symm
  clear hm
  by_cases c6 : m > 4096
  · rw [if_pos c6] at h
    have c6b : decide (4096 < m) = true := decide_eq_true c6
    clear c3 c4 c5 c6
    simp only [Option.some.injEq, Prod.mk.injEq] at h
    obtain ⟨rfl, rfl, rfl, rfl, rfl⟩ := h
    go_enter Tryd.func24, Tryd.ntmps24
    go_wp2_with (((with_reducible refine gate_dst (N := 4) rfl ?_); refine box_event ?hg (N := 4) ?hd (cs := #[.int .u8 0, .int .i64 0, .slice none 0 0]) (t := 39) ?hr ?_; (case hd => rfl); (case hg => rfl); (case hr => first | (go_simp; done) | (go_simp; rfl)); intro gb hgb w1 hbox hb; have GE := Aside0.mk (show w.heap.size ≤ gb by (rw [hgb]; exact Nat.le_refl _)); have BK := Aside0.mk hbox; have HB := Aside0.mk hb; have hcz0 : w1.cell? ⟨gb, 0, none⟩ = some (.int .u8 0) := (blk_cell hbox 0).trans rfl; have hcz1 : w1.cell? ⟨gb, 1, none⟩ = some (.int .i64 0) := (blk_cell hbox 1).trans rfl; have hcz2 : w1.cell? ⟨gb, 2, none⟩ = some (.slice none 0 0) := (blk_cell hbox 2).trans rfl; have hfz0 := blk_frozen hbox 0; have hfz1 := blk_frozen hbox 1; have hfz2 := blk_frozen hbox 2; clear hgb hbox hb; have hx0 := (HB.out.cell (World.block_lt_of_cell? w _ HX0.out)).trans HX0.out; have hx1 := (HB.out.cell (World.block_lt_of_cell? w _ HX1.out)).trans HX1.out; have hx2 := (HB.out.cell (World.block_lt_of_cell? w _ HX2.out)).trans HX2.out; have hx3 := (HB.out.cell (World.block_lt_of_cell? w _ HX3.out)).trans HX3.out))
    go_quiet (fail)
    go_wp2
    refine bodyPost_ret (results_ctt rfl _ _ gb 39 #[.int .u8 0, .int .i64 0, .slice none 0 0] (0, 0) _ rfl (by (with_reducible repeat (first | refine blk_drewN ?_ _ | refine blk_drew ?_ | refine blk_alloc ?_ _)); refine blk_put (cs := #[.int .u8 0, .int .i64 0, .slice none 0 0]) ?_ 2 _ rfl; (with_reducible repeat (first | refine blk_drewN ?_ _ | refine blk_drew ?_ | refine blk_alloc ?_ _)); refine blk_put (cs := #[.int .u8 0, .int .i64 0, .slice none 0 0]) ?_ 1 _ rfl; (with_reducible repeat (first | refine blk_drewN ?_ _ | refine blk_drew ?_ | refine blk_alloc ?_ _)); refine blk_put (cs := #[.int .u8 0, .int .i64 0, .slice none 0 0]) ?_ 0 _ rfl; (with_reducible repeat (first | refine blk_drewN ?_ _ | refine blk_drew ?_ | refine blk_alloc ?_ _)); exact BK.out) Tryd.underlying39 rfl (by kernel_rfl)) rfl ?_
    exact ⟨_, rfl, Kd.R_nil _ _ _ _ _, by repeat (first | (with_reducible first | exact HB.out | apply below_alloc | apply pw_below_drewN | apply below_drew1 | refine below_set ?_ GE.out) | exact HB.out)⟩
  rw [if_neg c6] at h
  have c6b : decide (4096 < m) = false := decide_eq_false c6
  by_cases c7 : 0 ≤ m
  case neg => rw [if_neg c7] at h; exact absurd h (by simp)
  rw [if_pos c7] at h
  have w8 : wrap64 (m + 8) = m + 8 := by unfold wrap64; omega
  by_cases c8 : ((t.length : Nat) : Int) < m + 8
  · rw [if_pos c8] at h
    have c8b : decide ((t.length : Int) < m + 8) = true := decide_eq_true c8
    clear c3 c4 c5 c6 c7 c8
    simp only [Option.some.injEq, Prod.mk.injEq] at h
    obtain ⟨rfl, rfl, rfl, rfl, rfl⟩ := h
    go_enter Tryd.func24, Tryd.ntmps24
    go_wp2_with (((with_reducible refine gate_dst (N := 4) rfl ?_); refine box_event ?hg (N := 4) ?hd (cs := #[.int .u8 0, .int .i64 0, .slice none 0 0]) (t := 39) ?hr ?_; (case hd => rfl); (case hg => rfl); (case hr => first | (go_simp; done) | (go_simp; rfl)); intro gb hgb w1 hbox hb; have GE := Aside0.mk (show w.heap.size ≤ gb by (rw [hgb]; exact Nat.le_refl _)); have BK := Aside0.mk hbox; have HB := Aside0.mk hb; have hcz0 : w1.cell? ⟨gb, 0, none⟩ = some (.int .u8 0) := (blk_cell hbox 0).trans rfl; have hcz1 : w1.cell? ⟨gb, 1, none⟩ = some (.int .i64 0) := (blk_cell hbox 1).trans rfl; have hcz2 : w1.cell? ⟨gb, 2, none⟩ = some (.slice none 0 0) := (blk_cell hbox 2).trans rfl; have hfz0 := blk_frozen hbox 0; have hfz1 := blk_frozen hbox 1; have hfz2 := blk_frozen hbox 2; clear hgb hbox hb; have hx0 := (HB.out.cell (World.block_lt_of_cell? w _ HX0.out)).trans HX0.out; have hx1 := (HB.out.cell (World.block_lt_of_cell? w _ HX1.out)).trans HX1.out; have hx2 := (HB.out.cell (World.block_lt_of_cell? w _ HX2.out)).trans HX2.out; have hx3 := (HB.out.cell (World.block_lt_of_cell? w _ HX3.out)).trans HX3.out))
    go_quiet (fail)
    go_wp2
    refine bodyPost_ret (results_ctt rfl _ _ gb 39 #[.int .u8 0, .int .i64 0, .slice none 0 0] (0, 0) _ rfl (by (with_reducible repeat (first | refine blk_drewN ?_ _ | refine blk_drew ?_ | refine blk_alloc ?_ _)); refine blk_put (cs := #[.int .u8 0, .int .i64 0, .slice none 0 0]) ?_ 2 _ rfl; (with_reducible repeat (first | refine blk_drewN ?_ _ | refine blk_drew ?_ | refine blk_alloc ?_ _)); refine blk_put (cs := #[.int .u8 0, .int .i64 0, .slice none 0 0]) ?_ 1 _ rfl; (with_reducible repeat (first | refine blk_drewN ?_ _ | refine blk_drew ?_ | refine blk_alloc ?_ _)); refine blk_put (cs := #[.int .u8 0, .int .i64 0, .slice none 0 0]) ?_ 0 _ rfl; (with_reducible repeat (first | refine blk_drewN ?_ _ | refine blk_drew ?_ | refine blk_alloc ?_ _)); exact BK.out) Tryd.underlying39 rfl (by kernel_rfl)) rfl ?_
    exact ⟨_, rfl, Kd.R_nil _ _ _ _ _, by repeat (first | (with_reducible first | exact HB.out | apply below_alloc | apply pw_below_drewN | apply below_drew1 | refine below_set ?_ GE.out) | exact HB.out)⟩
  rw [if_neg c8] at h
  have c8b : decide ((t.length : Int) < m + 8) = false := decide_eq_false c8
  unfold seal_Open.t at h
  obtain ⟨s, hs, h⟩ := Option.bind_eq_some_iff.mp h
  have HS := Aside0.mk hs
  clear hs
  obtain ⟨j4, hj4⟩ : ∃ j : Int, j = 4 + m := ⟨_, rfl⟩
  have w4j : wrap64 (4 + m) = j4 := by unfold wrap64; omega
  rw [← hj4] at h
  obtain ⟨j5, hj5⟩ : ∃ j : Int, j = 5 + m := ⟨_, rfl⟩
  have w5j : wrap64 (5 + m) = j5 := by unfold wrap64; omega
  rw [← hj5] at h
  obtain ⟨j6, hj6⟩ : ∃ j : Int, j = 6 + m := ⟨_, rfl⟩
  have w6j : wrap64 (6 + m) = j6 := by unfold wrap64; omega
  rw [← hj6] at h
  obtain ⟨j7, hj7⟩ : ∃ j : Int, j = 7 + m := ⟨_, rfl⟩
  have w7j : wrap64 (7 + m) = j7 := by unfold wrap64; omega
  rw [← hj7] at h
  rw [← hj4] at HS
  obtain ⟨y, hy⟩ : ∃ y : List Int, y = (t.take j4.toNat).drop 1 := ⟨_, rfl⟩
  rw [← hy] at HS
  have hyl : y.length = j4.toNat - 1 := by rw [hy, List.length_drop, List.length_take]; omega
  have hcy : Kd.C (Kd.int .u8) w (some (ad.add (1 * 1))) y.length y := by
    have hq := Kd.C_mid (lo := 1) (hi := j4.toNat) (c := c2') HCT.out (by omega) (by omega) HTL.out
    rw [if_neg (by omega)] at hq
    rw [hy]
    exact hq
  have hsy : ∀ W : World, (Instr.slice 23 (.slice (some ad) t.length c2') (some (.int .i64 1)) (some (.int .i64 j4)) none).run Tryd.prog W = .ok (.slice (some (ad.add (1 * 1))) y.length (c2' - 1)) W := by
    intro W
    have hq := cut_mid (P := Tryd.prog) 23 5 .i64 .i64 Tryd.underlying23 hi0 1 hsz0 (some ad) t.length c2' 1 j4 (by omega) (by omega) (by omega) HTL.out W
    rw [if_neg (by omega)] at hq
    rw [hyl]
    exact hq
  have HYL := Aside0.mk (show y.length ≤ c2' - 1 by omega)
  have HCY := Aside0.mk hcy
  clear hcy hyl hy
  obtain ⟨adj4, eA4, hx4_⟩ := Kd.at_int HCT.out j4 (by omega) (by omega)
  cases eA4
  have HX4 := Aside0.mk (show w.cell? (ad.add j4.toNat) = some (.int .u8 (rd t j4)) from hx4_)
  have p4 := eq_true (show 0 ≤ j4 by omega)
  have q4 := eq_true (show j4 < (t.length : Int) by omega)
  clear hx4_
  obtain ⟨adj5, eA5, hx5_⟩ := Kd.at_int HCT.out j5 (by omega) (by omega)
  cases eA5
  have HX5 := Aside0.mk (show w.cell? (ad.add j5.toNat) = some (.int .u8 (rd t j5)) from hx5_)
  have p5 := eq_true (show 0 ≤ j5 by omega)
  have q5 := eq_true (show j5 < (t.length : Int) by omega)
  clear hx5_
  obtain ⟨adj6, eA6, hx6_⟩ := Kd.at_int HCT.out j6 (by omega) (by omega)
  cases eA6
  have HX6 := Aside0.mk (show w.cell? (ad.add j6.toNat) = some (.int .u8 (rd t j6)) from hx6_)
  have p6 := eq_true (show 0 ≤ j6 by omega)
  have q6 := eq_true (show j6 < (t.length : Int) by omega)
  clear hx6_
  obtain ⟨adj7, eA7, hx7_⟩ := Kd.at_int HCT.out j7 (by omega) (by omega)
  cases eA7
  have HX7 := Aside0.mk (show w.cell? (ad.add j7.toNat) = some (.int .u8 (rd t j7)) from hx7_)
  have p7 := eq_true (show 0 ≤ j7 by omega)
  have q7 := eq_true (show j7 < (t.length : Int) by omega)
  clear hx7_
  have HM := Aside0.mk (show 0 ≤ m ∧ m ≤ 4096 ∧ m + 8 ≤ (t.length : Int) from ⟨c7, by omega, by omega⟩)
  clear hj4 hj5 hj6 hj7 c3 c4 c5 c6 c7 c8
  by_cases e4 : rd t j4 = s % 256
  case neg =>
    rw [if_neg e4] at h
    have e4b : (rd t j4 != s % 256) = true := by simpa using e4
    clear e4
    simp only [Option.some.injEq, Prod.mk.injEq] at h
    obtain ⟨rfl, rfl, rfl, rfl, rfl⟩ := h
    go_enter Tryd.func24, Tryd.ntmps24
    go_wp2_with (((with_reducible refine gate_dst (N := 4) rfl ?_); refine box_event ?hg (N := 4) ?hd (cs := #[.int .u8 0, .int .i64 0, .slice none 0 0]) (t := 39) ?hr ?_; (case hd => rfl); (case hg => rfl); (case hr => first | (go_simp; done) | (go_simp; rfl)); intro gb hgb w1 hbox hb; have GE := Aside0.mk (show w.heap.size ≤ gb by (rw [hgb]; exact Nat.le_refl _)); have BK := Aside0.mk hbox; have HB := Aside0.mk hb; have hcz0 : w1.cell? ⟨gb, 0, none⟩ = some (.int .u8 0) := (blk_cell hbox 0).trans rfl; have hcz1 : w1.cell? ⟨gb, 1, none⟩ = some (.int .i64 0) := (blk_cell hbox 1).trans rfl; have hcz2 : w1.cell? ⟨gb, 2, none⟩ = some (.slice none 0 0) := (blk_cell hbox 2).trans rfl; have hfz0 := blk_frozen hbox 0; have hfz1 := blk_frozen hbox 1; have hfz2 := blk_frozen hbox 2; clear hgb hbox hb; have hx0 := (HB.out.cell (World.block_lt_of_cell? w _ HX0.out)).trans HX0.out; have hx1 := (HB.out.cell (World.block_lt_of_cell? w _ HX1.out)).trans HX1.out; have hx2 := (HB.out.cell (World.block_lt_of_cell? w _ HX2.out)).trans HX2.out; have hx3 := (HB.out.cell (World.block_lt_of_cell? w _ HX3.out)).trans HX3.out; have hx4 := (HB.out.cell (World.block_lt_of_cell? w _ HX4.out)).trans HX4.out; have hx5 := (HB.out.cell (World.block_lt_of_cell? w _ HX5.out)).trans HX5.out; have hx6 := (HB.out.cell (World.block_lt_of_cell? w _ HX6.out)).trans HX6.out; have hx7 := (HB.out.cell (World.block_lt_of_cell? w _ HX7.out)).trans HX7.out))
    go_quiet (fail)
    go_wp2_with (((with_reducible refine gate_callee (f := 16) rfl ?_); refine goesL_ (some 59) rfl rfl Tryd.func16 (by kernel_rfl) rfl #[.slice (some (ad.add (1 * 1))) y.length (c2' - 1)] rfl (by (try simp only [List.map_toArray, List.map_cons, List.map_nil]); first | done | rfl) ?_; refine (seal_Sum.calls k _ (c2' - 1) y s _ ?hC HYL.out ?hT HS.out).mono ?_; (case hC => with_reducible repeat (first | exact Kd.C_below HCY.out HB.out | refine Kd.C_alloc ?_ _ | refine Kd.C_drewN ?_ _ | refine Kd.C_drew ?_)); (case hT => with_reducible repeat (first | exact TabW.below HT.out HB.out | refine TabW.alloc ?_ _ | refine TabW.drewN ?_ _ | refine TabW.drew ?_)); rintro e w' ⟨rfl, ⟨nd, rfl⟩⟩; refine ⟨_, rfl, ?_⟩))
    refine bodyPost_ret (results_ctt rfl _ _ gb 39 #[.int .u8 0, .int .i64 0, .slice none 0 0] (0, 0) _ rfl (by (with_reducible repeat (first | refine blk_drewN ?_ _ | refine blk_drew ?_ | refine blk_alloc ?_ _)); refine blk_put (cs := #[.int .u8 0, .int .i64 0, .slice none 0 0]) ?_ 2 _ rfl; (with_reducible repeat (first | refine blk_drewN ?_ _ | refine blk_drew ?_ | refine blk_alloc ?_ _)); refine blk_put (cs := #[.int .u8 0, .int .i64 0, .slice none 0 0]) ?_ 1 _ rfl; (with_reducible repeat (first | refine blk_drewN ?_ _ | refine blk_drew ?_ | refine blk_alloc ?_ _)); refine blk_put (cs := #[.int .u8 0, .int .i64 0, .slice none 0 0]) ?_ 0 _ rfl; (with_reducible repeat (first | refine blk_drewN ?_ _ | refine blk_drew ?_ | refine blk_alloc ?_ _)); exact BK.out) Tryd.underlying39 rfl (by kernel_rfl)) rfl ?_
    exact ⟨_, rfl, Kd.R_nil _ _ _ _ _, by repeat (first | (with_reducible first | exact HB.out | apply below_alloc | apply pw_below_drewN | apply below_drew1 | refine below_set ?_ GE.out) | exact HB.out)⟩
  rw [if_pos e4] at h
  have e4b : (rd t j4 != s % 256) = false := by simpa using e4
  clear e4
  by_cases e5 : rd t j5 = s / 256 % 256
  case neg =>
    rw [if_neg e5] at h
    have e5b : (rd t j5 != s / 256 % 256) = true := by simpa using e5
    clear e5
    simp only [Option.some.injEq, Prod.mk.injEq] at h
    obtain ⟨rfl, rfl, rfl, rfl, rfl⟩ := h
    go_enter Tryd.func24, Tryd.ntmps24
    go_wp2_with (((with_reducible refine gate_dst (N := 4) rfl ?_); refine box_event ?hg (N := 4) ?hd (cs := #[.int .u8 0, .int .i64 0, .slice none 0 0]) (t := 39) ?hr ?_; (case hd => rfl); (case hg => rfl); (case hr => first | (go_simp; done) | (go_simp; rfl)); intro gb hgb w1 hbox hb; have GE := Aside0.mk (show w.heap.size ≤ gb by (rw [hgb]; exact Nat.le_refl _)); have BK := Aside0.mk hbox; have HB := Aside0.mk hb; have hcz0 : w1.cell? ⟨gb, 0, none⟩ = some (.int .u8 0) := (blk_cell hbox 0).trans rfl; have hcz1 : w1.cell? ⟨gb, 1, none⟩ = some (.int .i64 0) := (blk_cell hbox 1).trans rfl; have hcz2 : w1.cell? ⟨gb, 2, none⟩ = some (.slice none 0 0) := (blk_cell hbox 2).trans rfl; have hfz0 := blk_frozen hbox 0; have hfz1 := blk_frozen hbox 1; have hfz2 := blk_frozen hbox 2; clear hgb hbox hb; have hx0 := (HB.out.cell (World.block_lt_of_cell? w _ HX0.out)).trans HX0.out; have hx1 := (HB.out.cell (World.block_lt_of_cell? w _ HX1.out)).trans HX1.out; have hx2 := (HB.out.cell (World.block_lt_of_cell? w _ HX2.out)).trans HX2.out; have hx3 := (HB.out.cell (World.block_lt_of_cell? w _ HX3.out)).trans HX3.out; have hx4 := (HB.out.cell (World.block_lt_of_cell? w _ HX4.out)).trans HX4.out; have hx5 := (HB.out.cell (World.block_lt_of_cell? w _ HX5.out)).trans HX5.out; have hx6 := (HB.out.cell (World.block_lt_of_cell? w _ HX6.out)).trans HX6.out; have hx7 := (HB.out.cell (World.block_lt_of_cell? w _ HX7.out)).trans HX7.out))
    go_quiet (fail)
    go_wp2_with (((with_reducible refine gate_callee (f := 16) rfl ?_); refine goesL_ (some 59) rfl rfl Tryd.func16 (by kernel_rfl) rfl #[.slice (some (ad.add (1 * 1))) y.length (c2' - 1)] rfl (by (try simp only [List.map_toArray, List.map_cons, List.map_nil]); first | done | rfl) ?_; refine (seal_Sum.calls k _ (c2' - 1) y s _ ?hC HYL.out ?hT HS.out).mono ?_; (case hC => with_reducible repeat (first | exact Kd.C_below HCY.out HB.out | refine Kd.C_alloc ?_ _ | refine Kd.C_drewN ?_ _ | refine Kd.C_drew ?_)); (case hT => with_reducible repeat (first | exact TabW.below HT.out HB.out | refine TabW.alloc ?_ _ | refine TabW.drewN ?_ _ | refine TabW.drew ?_)); rintro e w' ⟨rfl, ⟨nd, rfl⟩⟩; refine ⟨_, rfl, ?_⟩))
    refine bodyPost_ret (results_ctt rfl _ _ gb 39 #[.int .u8 0, .int .i64 0, .slice none 0 0] (0, 0) _ rfl (by (with_reducible repeat (first | refine blk_drewN ?_ _ | refine blk_drew ?_ | refine blk_alloc ?_ _)); refine blk_put (cs := #[.int .u8 0, .int .i64 0, .slice none 0 0]) ?_ 2 _ rfl; (with_reducible repeat (first | refine blk_drewN ?_ _ | refine blk_drew ?_ | refine blk_alloc ?_ _)); refine blk_put (cs := #[.int .u8 0, .int .i64 0, .slice none 0 0]) ?_ 1 _ rfl; (with_reducible repeat (first | refine blk_drewN ?_ _ | refine blk_drew ?_ | refine blk_alloc ?_ _)); refine blk_put (cs := #[.int .u8 0, .int .i64 0, .slice none 0 0]) ?_ 0 _ rfl; (with_reducible repeat (first | refine blk_drewN ?_ _ | refine blk_drew ?_ | refine blk_alloc ?_ _)); exact BK.out) Tryd.underlying39 rfl (by kernel_rfl)) rfl ?_
    exact ⟨_, rfl, Kd.R_nil _ _ _ _ _, by repeat (first | (with_reducible first | exact HB.out | apply below_alloc | apply pw_below_drewN | apply below_drew1 | refine below_set ?_ GE.out) | exact HB.out)⟩
  rw [if_pos e5] at h
  have e5b : (rd t j5 != s / 256 % 256) = false := by simpa using e5
  clear e5
  by_cases e6 : rd t j6 = s / 65536 % 256
  case neg =>
    rw [if_neg e6] at h
    have e6b : (rd t j6 != s / 65536 % 256) = true := by simpa using e6
    clear e6
    simp only [Option.some.injEq, Prod.mk.injEq] at h
    obtain ⟨rfl, rfl, rfl, rfl, rfl⟩ := h
    go_enter Tryd.func24, Tryd.ntmps24
    go_wp2_with (((with_reducible refine gate_dst (N := 4) rfl ?_); refine box_event ?hg (N := 4) ?hd (cs := #[.int .u8 0, .int .i64 0, .slice none 0 0]) (t := 39) ?hr ?_; (case hd => rfl); (case hg => rfl); (case hr => first | (go_simp; done) | (go_simp; rfl)); intro gb hgb w1 hbox hb; have GE := Aside0.mk (show w.heap.size ≤ gb by (rw [hgb]; exact Nat.le_refl _)); have BK := Aside0.mk hbox; have HB := Aside0.mk hb; have hcz0 : w1.cell? ⟨gb, 0, none⟩ = some (.int .u8 0) := (blk_cell hbox 0).trans rfl; have hcz1 : w1.cell? ⟨gb, 1, none⟩ = some (.int .i64 0) := (blk_cell hbox 1).trans rfl; have hcz2 : w1.cell? ⟨gb, 2, none⟩ = some (.slice none 0 0) := (blk_cell hbox 2).trans rfl; have hfz0 := blk_frozen hbox 0; have hfz1 := blk_frozen hbox 1; have hfz2 := blk_frozen hbox 2; clear hgb hbox hb; have hx0 := (HB.out.cell (World.block_lt_of_cell? w _ HX0.out)).trans HX0.out; have hx1 := (HB.out.cell (World.block_lt_of_cell? w _ HX1.out)).trans HX1.out; have hx2 := (HB.out.cell (World.block_lt_of_cell? w _ HX2.out)).trans HX2.out; have hx3 := (HB.out.cell (World.block_lt_of_cell? w _ HX3.out)).trans HX3.out; have hx4 := (HB.out.cell (World.block_lt_of_cell? w _ HX4.out)).trans HX4.out; have hx5 := (HB.out.cell (World.block_lt_of_cell? w _ HX5.out)).trans HX5.out; have hx6 := (HB.out.cell (World.block_lt_of_cell? w _ HX6.out)).trans HX6.out; have hx7 := (HB.out.cell (World.block_lt_of_cell? w _ HX7.out)).trans HX7.out))
    go_quiet (fail)
    go_wp2_with (((with_reducible refine gate_callee (f := 16) rfl ?_); refine goesL_ (some 59) rfl rfl Tryd.func16 (by kernel_rfl) rfl #[.slice (some (ad.add (1 * 1))) y.length (c2' - 1)] rfl (by (try simp only [List.map_toArray, List.map_cons, List.map_nil]); first | done | rfl) ?_; refine (seal_Sum.calls k _ (c2' - 1) y s _ ?hC HYL.out ?hT HS.out).mono ?_; (case hC => with_reducible repeat (first | exact Kd.C_below HCY.out HB.out | refine Kd.C_alloc ?_ _ | refine Kd.C_drewN ?_ _ | refine Kd.C_drew ?_)); (case hT => with_reducible repeat (first | exact TabW.below HT.out HB.out | refine TabW.alloc ?_ _ | refine TabW.drewN ?_ _ | refine TabW.drew ?_)); rintro e w' ⟨rfl, ⟨nd, rfl⟩⟩; refine ⟨_, rfl, ?_⟩))
    refine bodyPost_ret (results_ctt rfl _ _ gb 39 #[.int .u8 0, .int .i64 0, .slice none 0 0] (0, 0) _ rfl (by (with_reducible repeat (first | refine blk_drewN ?_ _ | refine blk_drew ?_ | refine blk_alloc ?_ _)); refine blk_put (cs := #[.int .u8 0, .int .i64 0, .slice none 0 0]) ?_ 2 _ rfl; (with_reducible repeat (first | refine blk_drewN ?_ _ | refine blk_drew ?_ | refine blk_alloc ?_ _)); refine blk_put (cs := #[.int .u8 0, .int .i64 0, .slice none 0 0]) ?_ 1 _ rfl; (with_reducible repeat (first | refine blk_drewN ?_ _ | refine blk_drew ?_ | refine blk_alloc ?_ _)); refine blk_put (cs := #[.int .u8 0, .int .i64 0, .slice none 0 0]) ?_ 0 _ rfl; (with_reducible repeat (first | refine blk_drewN ?_ _ | refine blk_drew ?_ | refine blk_alloc ?_ _)); exact BK.out) Tryd.underlying39 rfl (by kernel_rfl)) rfl ?_
    exact ⟨_, rfl, Kd.R_nil _ _ _ _ _, by repeat (first | (with_reducible first | exact HB.out | apply below_alloc | apply pw_below_drewN | apply below_drew1 | refine below_set ?_ GE.out) | exact HB.out)⟩
  rw [if_pos e6] at h
  have e6b : (rd t j6 != s / 65536 % 256) = false := by simpa using e6
  clear e6
  by_cases e7 : rd t j7 = s / 16777216 % 256
  case neg =>
    rw [if_neg e7] at h
    have e7b : (rd t j7 != s / 16777216 % 256) = true := by simpa using e7
    clear e7
    simp only [Option.some.injEq, Prod.mk.injEq] at h
    obtain ⟨rfl, rfl, rfl, rfl, rfl⟩ := h
    go_enter Tryd.func24, Tryd.ntmps24
    go_wp2_with (((with_reducible refine gate_dst (N := 4) rfl ?_); refine box_event ?hg (N := 4) ?hd (cs := #[.int .u8 0, .int .i64 0, .slice none 0 0]) (t := 39) ?hr ?_; (case hd => rfl); (case hg => rfl); (case hr => first | (go_simp; done) | (go_simp; rfl)); intro gb hgb w1 hbox hb; have GE := Aside0.mk (show w.heap.size ≤ gb by (rw [hgb]; exact Nat.le_refl _)); have BK := Aside0.mk hbox; have HB := Aside0.mk hb; have hcz0 : w1.cell? ⟨gb, 0, none⟩ = some (.int .u8 0) := (blk_cell hbox 0).trans rfl; have hcz1 : w1.cell? ⟨gb, 1, none⟩ = some (.int .i64 0) := (blk_cell hbox 1).trans rfl; have hcz2 : w1.cell? ⟨gb, 2, none⟩ = some (.slice none 0 0) := (blk_cell hbox 2).trans rfl; have hfz0 := blk_frozen hbox 0; have hfz1 := blk_frozen hbox 1; have hfz2 := blk_frozen hbox 2; clear hgb hbox hb; have hx0 := (HB.out.cell (World.block_lt_of_cell? w _ HX0.out)).trans HX0.out; have hx1 := (HB.out.cell (World.block_lt_of_cell? w _ HX1.out)).trans HX1.out; have hx2 := (HB.out.cell (World.block_lt_of_cell? w _ HX2.out)).trans HX2.out; have hx3 := (HB.out.cell (World.block_lt_of_cell? w _ HX3.out)).trans HX3.out; have hx4 := (HB.out.cell (World.block_lt_of_cell? w _ HX4.out)).trans HX4.out; have hx5 := (HB.out.cell (World.block_lt_of_cell? w _ HX5.out)).trans HX5.out; have hx6 := (HB.out.cell (World.block_lt_of_cell? w _ HX6.out)).trans HX6.out; have hx7 := (HB.out.cell (World.block_lt_of_cell? w _ HX7.out)).trans HX7.out))
    go_quiet (fail)
    go_wp2_with (((with_reducible refine gate_callee (f := 16) rfl ?_); refine goesL_ (some 59) rfl rfl Tryd.func16 (by kernel_rfl) rfl #[.slice (some (ad.add (1 * 1))) y.length (c2' - 1)] rfl (by (try simp only [List.map_toArray, List.map_cons, List.map_nil]); first | done | rfl) ?_; refine (seal_Sum.calls k _ (c2' - 1) y s _ ?hC HYL.out ?hT HS.out).mono ?_; (case hC => with_reducible repeat (first | exact Kd.C_below HCY.out HB.out | refine Kd.C_alloc ?_ _ | refine Kd.C_drewN ?_ _ | refine Kd.C_drew ?_)); (case hT => with_reducible repeat (first | exact TabW.below HT.out HB.out | refine TabW.alloc ?_ _ | refine TabW.drewN ?_ _ | refine TabW.drew ?_)); rintro e w' ⟨rfl, ⟨nd, rfl⟩⟩; refine ⟨_, rfl, ?_⟩))
    refine bodyPost_ret (results_ctt rfl _ _ gb 39 #[.int .u8 0, .int .i64 0, .slice none 0 0] (0, 0) _ rfl (by (with_reducible repeat (first | refine blk_drewN ?_ _ | refine blk_drew ?_ | refine blk_alloc ?_ _)); refine blk_put (cs := #[.int .u8 0, .int .i64 0, .slice none 0 0]) ?_ 2 _ rfl; (with_reducible repeat (first | refine blk_drewN ?_ _ | refine blk_drew ?_ | refine blk_alloc ?_ _)); refine blk_put (cs := #[.int .u8 0, .int .i64 0, .slice none 0 0]) ?_ 1 _ rfl; (with_reducible repeat (first | refine blk_drewN ?_ _ | refine blk_drew ?_ | refine blk_alloc ?_ _)); refine blk_put (cs := #[.int .u8 0, .int .i64 0, .slice none 0 0]) ?_ 0 _ rfl; (with_reducible repeat (first | refine blk_drewN ?_ _ | refine blk_drew ?_ | refine blk_alloc ?_ _)); exact BK.out) Tryd.underlying39 rfl (by kernel_rfl)) rfl ?_
    exact ⟨_, rfl, Kd.R_nil _ _ _ _ _, by repeat (first | (with_reducible first | exact HB.out | apply below_alloc | apply pw_below_drewN | apply below_drew1 | refine below_set ?_ GE.out) | exact HB.out)⟩
  rw [if_pos e7] at h
  have e7b : (rd t j7 != s / 16777216 % 256) = false := by simpa using e7
  clear e7
  simp only [Option.some.injEq, Prod.mk.injEq] at h
  obtain ⟨rfl, rfl, rfl, rfl, rfl⟩ := h
  obtain ⟨ys, hys⟩ : ∃ ys : List Int, ys = t.drop 4 := ⟨_, rfl⟩
  have hysl : ys.length = t.length - 4 := by rw [hys, List.length_drop]
  have hcs : Kd.C (Kd.int .u8) w (some (ad.add (4 * 1))) ys.length ys := by
    have hq := Kd.C_drop (m := 4) (c := c2') HCT.out (by have := HM.out; omega) HTL.out
    rw [if_neg (by have := HM.out; have := HTL.out; omega)] at hq
    rw [hys]
    exact hq
  have hss : ∀ W : World, (Instr.slice 23 (.slice (some ad) t.length c2') (some (.int .i64 4)) none none).run Tryd.prog W = .ok (.slice (some (ad.add (4 * 1))) ys.length (c2' - 4)) W := by
    intro W
    have hq := cut_from (P := Tryd.prog) 23 5 .i64 Tryd.underlying23 hi0 1 hsz0 (some ad) t.length c2' 4 (by omega) (by have := HM.out; omega) W
    rw [if_neg (by have := HM.out; have := HTL.out; omega)] at hq
    rw [hysl]
    exact hq
  obtain ⟨zs, hzs⟩ : ∃ zs : List Int, zs = List.replicate m.toNat (0 : Int) := ⟨_, rfl⟩
  have HZS := Aside0.mk hzs
  have HCS := Aside0.mk hcs
  have HYS := Aside0.mk hys
  have HYSL := Aside0.mk hysl
  clear hcs hys hysl hzs
  go_enter Tryd.func24, Tryd.ntmps24
  go_wp2_with (((with_reducible refine gate_dst (N := 4) rfl ?_); refine box_event ?hg (N := 4) ?hd (cs := #[.int .u8 0, .int .i64 0, .slice none 0 0]) (t := 39) ?hr ?_; (case hd => rfl); (case hg => rfl); (case hr => first | (go_simp; done) | (go_simp; rfl)); intro gb hgb w1 hbox hb; have GE := Aside0.mk (show w.heap.size ≤ gb by (rw [hgb]; exact Nat.le_refl _)); have BK := Aside0.mk hbox; have HB := Aside0.mk hb; have hcz0 : w1.cell? ⟨gb, 0, none⟩ = some (.int .u8 0) := (blk_cell hbox 0).trans rfl; have hcz1 : w1.cell? ⟨gb, 1, none⟩ = some (.int .i64 0) := (blk_cell hbox 1).trans rfl; have hcz2 : w1.cell? ⟨gb, 2, none⟩ = some (.slice none 0 0) := (blk_cell hbox 2).trans rfl; have hfz0 := blk_frozen hbox 0; have hfz1 := blk_frozen hbox 1; have hfz2 := blk_frozen hbox 2; clear hgb hbox hb; have hx0 := (HB.out.cell (World.block_lt_of_cell? w _ HX0.out)).trans HX0.out; have hx1 := (HB.out.cell (World.block_lt_of_cell? w _ HX1.out)).trans HX1.out; have hx2 := (HB.out.cell (World.block_lt_of_cell? w _ HX2.out)).trans HX2.out; have hx3 := (HB.out.cell (World.block_lt_of_cell? w _ HX3.out)).trans HX3.out; have hx4 := (HB.out.cell (World.block_lt_of_cell? w _ HX4.out)).trans HX4.out; have hx5 := (HB.out.cell (World.block_lt_of_cell? w _ HX5.out)).trans HX5.out; have hx6 := (HB.out.cell (World.block_lt_of_cell? w _ HX6.out)).trans HX6.out; have hx7 := (HB.out.cell (World.block_lt_of_cell? w _ HX7.out)).trans HX7.out))
  go_quiet (fail)
  go_wp2_with (first | ((with_reducible refine gate_callee (f := 16) rfl ?_); refine goesL_ (some 59) rfl rfl Tryd.func16 (by kernel_rfl) rfl #[.slice (some (ad.add (1 * 1))) y.length (c2' - 1)] rfl (by (try simp only [List.map_toArray, List.map_cons, List.map_nil]); first | done | rfl) ?_; refine (seal_Sum.calls k _ (c2' - 1) y s _ ?hC HYL.out ?hT HS.out).mono ?_; (case hC => with_reducible repeat (first | exact Kd.C_below HCY.out HB.out | refine Kd.C_alloc ?_ _ | refine Kd.C_drewN ?_ _ | refine Kd.C_drew ?_)); (case hT => with_reducible repeat (first | exact TabW.below HT.out HB.out | refine TabW.alloc ?_ _ | refine TabW.drewN ?_ _ | refine TabW.drew ?_)); rintro e w' ⟨rfl, ⟨nd, rfl⟩⟩; refine ⟨_, rfl, ?_⟩) | ((with_reducible refine gate_dst (N := 103) rfl ?_); go_loud (refine Kd.R_make (Kd.int .u8) (w0 := w) w.heap.size 5 rfl (N := 103) rfl 23 (.tmp 102) (.tmp 102) rfl m rfl rfl Tryd.underlying23 (.int .u8 0) 1 info5 rfl (by decide) (by omega) 0 (ok := fun k_ => k_ ≠ gb) (okp := fun _ => False) rfl (fun _ hk => hk.elim) ?hF (by have := HM.out; omega) (by have := HM.out; omega) ?hBB (below_size ?hB2) ?_); go_loud ((case hF => (have hlt : gb < w1.heap.size := blk_lt BK.out; show w1.heap.size ≠ gb; omega)); (case hBB => exact (by repeat (first | (with_reducible first | exact HB.out | apply below_alloc | apply pw_below_drewN | apply below_drew1) | exact HB.out))); (try (case hB2 => exact (by repeat (first | (with_reducible first | exact HB.out | apply below_alloc | apply pw_below_drewN | apply below_drew1) | exact HB.out))))); intro v5 w5 ho hb hg hnew; rw [← HZS.out] at ho; have BK2 := Aside0.mk (blk_grown (by (with_reducible repeat (first | refine blk_drewN ?_ _ | refine blk_drew ?_ | refine blk_alloc ?_ _)); exact BK.out) hg (by simp)); have n1_ := Aside0.mk hb; have HO := Aside0.mk ho; clear BK HB; have BK := BK2; have HB := n1_; clear BK2 n1_ ho hb hg hnew; obtain ⟨Ao, co, eo⟩ := Kd.R_slice HO.out; subst eo; clear hcz0 hcz1 hcz2 hfz0 hfz1 hfz2) | ((with_reducible refine gate_builtin (b := .copy) (xs := #[.tmp 104, .tmp 106]) rfl ?_); go_loud (refine Kd.R_copy (enc := Value.int .u8) (h1 := fun _ => rfl) (0 : Int) (w0 := w) w.heap.size rfl (.tmp 104) (.tmp 106) 23 23 5 rfl Tryd.underlying23 hi1 (.slice Ao zs.length co) zs ys (some (ad.add (4 * 1))) ys.length (c2' - 4) (fun k_ => k_ ≠ gb) rfl rfl HO.out (Kd.C_below HCS.out HB.out) HB.out (below_size HB.out) ?_); intro w6 ho hb hg; have hne : some gb ≠ (Value.slice Ao zs.length co).ownBlock := fun e_ => HO.out.1 gb e_.symm rfl; have BK2 := Aside0.mk (blk_grown BK.out hg hne); have eo : ys.take (min ys.length zs.length) ++ zs.drop (min ys.length zs.length) = (t.drop 4).take m.toNat := (by have h1 := HM.out; have h2 := HYSL.out; have h3 : zs.length = m.toNat := (by rw [HZS.out, List.length_replicate]); rw [h3, Nat.min_eq_right (by omega), List.drop_of_length_le (by omega), List.append_nil, HYS.out]); rw [eo] at ho; clear HO; have HO := Aside0.mk ho; have n1_ := Aside0.mk hb; clear BK HB; have BK := BK2; have HB := n1_; have hx1b := (HB.out.cell (World.block_lt_of_cell? w _ HX1.out)).trans HX1.out; have hcy0 : w6.cell? ⟨gb, 0, none⟩ = some (.int .u8 0) := (blk_cell BK.out 0).trans rfl; have hcy1 : w6.cell? ⟨gb, 1, none⟩ = some (.int .i64 0) := (blk_cell BK.out 1).trans rfl; have hcy2 : w6.cell? ⟨gb, 2, none⟩ = some (.slice none 0 0) := (blk_cell BK.out 2).trans rfl; have hfy0 := blk_frozen BK.out 0; have hfy1 := blk_frozen BK.out 1; have hfy2 := blk_frozen BK.out 2; clear BK2 n1_ ho hb hg hne eo))
  refine bodyPost_ret (results_ctt rfl _ _ gb 39 #[.int .u8 (rd t 1), .int .i64 a1, .slice Ao zs.length co] (0, 0) _ rfl (by (with_reducible repeat (first | refine blk_drewN ?_ _ | refine blk_drew ?_ | refine blk_alloc ?_ _)); refine blk_put (cs := #[.int .u8 (rd t 1), .int .i64 a1, .slice none 0 0]) ?_ 2 _ rfl; (with_reducible repeat (first | refine blk_drewN ?_ _ | refine blk_drew ?_ | refine blk_alloc ?_ _)); refine blk_put (cs := #[.int .u8 (rd t 1), .int .i64 0, .slice none 0 0]) ?_ 1 _ rfl; (with_reducible repeat (first | refine blk_drewN ?_ _ | refine blk_drew ?_ | refine blk_alloc ?_ _)); refine blk_put (cs := #[.int .u8 0, .int .i64 0, .slice none 0 0]) ?_ 0 _ rfl; (with_reducible repeat (first | refine blk_drewN ?_ _ | refine blk_drew ?_ | refine blk_alloc ?_ _)); exact BK.out) Tryd.underlying39 rfl (by kernel_rfl)) rfl ?_
  refine ⟨_, rfl, ?_, by repeat (first | (with_reducible first | exact HB.out | apply below_alloc | apply pw_below_drewN | apply below_drew1 | refine below_set ?_ GE.out) | exact HB.out)⟩
  refine Kd.R_mono (ok := fun k_ => k_ ≠ gb) ?_ (fun _ _ => trivial)
  repeat (first | exact HO.out | (with_reducible refine Kd.R_far ?_ (fun _ hk => hk) _) | (with_reducible refine Kd.R_drewN ?_ _))


end Go.Proofs.YtnbhlaoblnalpaaDoor.PE
