import Derived.Test.YtoandmnefgimoaaDoorLBPLx0
import Derived.Test.YtoandmnefgimoaaDoorLBPLx5
import Derived.Test.YtoandmnefgimoaaDoorLBPLx7
import Derived.Test.YtoandmnefgimoaaDoorLBPLx15
import Derived.Test.YtoandmnefgimoaaDoorLBPLx16
import Derived.Test.YtoandmnefgimoaaDoorLBPLx18
namespace Go.Proofs.YtoandmnefgimoaaDoor.PL
open Go.RowKit Go.Proofs.YtoandmnefgimoaaDoorW.PrintWords Go.Proofs.YtoandmnefgimoaaDoorW.PrintLast Go.Proofs.YtoandmnefgimoaaDoorW.PrintMore
set_option linter.unusedVariables false
set_option linter.unusedSimpArgs false
def parcel_Take.fl (k : Nat) (l0 : List Int) : List Nat → Int → Int → Int → Int → Int → Int → Int → Option (Int × Int × Int × Int × Int × Int × Int)
 | [], p1, p2, p3, p4, p5, at_, e => some (p1, p2, p3, p4, p5, at_, e)
 | j :: js, p1, p2, p3, p4, p5, at_, e => (parcel_taker_num.f k l0 at_ e 1099511627776).bind fun t => parcel_Take.fl k l0 js (if j = 1 then t.1 else p1) (if j = 2 then t.1 else p2) (if j = 3 then t.1 else p3) (if j = 4 then t.1 else p4) (if j = 5 then t.1 else p5) t.2.1 t.2.2
def parcel_Take.its (k : Nat) (l0 : List Int) : Nat → List S77 → Int → Int → Option (List S77 × Int × Int)
 | 0, xs, at_, e => some (xs, at_, e)
 | n + 1, xs, at_, e => (parcel_taker_item.f k l0 at_ e).bind fun i => if xs.length < 3518437208883 then parcel_Take.its k l0 n (xs ++ [⟨i.1, i.2.1, i.2.2.1⟩]) i.2.2.2.1 i.2.2.2.2 else none
def parcel_Take.sps (k : Nat) (l0 : List Int) (at_ e : Int) : Option (List S110 × Int × Int) := if e = 0 then span_Take.f k l0 at_ else some ([], at_, e)
def parcel_Take.mid (k : Nat) (l0 : List Int) (kd at_ e : Int) : Option (List S110 × List S77 × Int × Int) :=
 if kd = 1 then (parcel_Take.sps k l0 at_ e).bind fun s => (parcel_taker_num.f k l0 s.2.1 s.2.2 8).bind fun m => (parcel_Take.its k l0 m.1.toNat [] m.2.1 m.2.2).bind fun q => some (s.1, q.1, q.2.1, q.2.2)
 else some ([], [], at_, e)
def parcel_Take.fin (k : Nat) (l0 : List Int) (kd p1 p2 p3 p4 p5 at_ e : Int) (sp : List S110) (it : List S77) : Option (Int × Int × Int × Int × Int × Int × List S110 × List S77 × Int) :=
 if e = 0 then (if at_ < (l0.length : Int) then some (0, 0, 0, 0, 0, 0, ([] : List S110), ([] : List S77), 4) else (parcel_Check.f k kd p1 p2 p3 p4 p5 sp it).bind fun c => if c = 0 then some (kd, p1, p2, p3, p4, p5, sp, it, 0) else some (0, 0, 0, 0, 0, 0, ([] : List S110), ([] : List S77), c)) else some (0, 0, 0, 0, 0, 0, ([] : List S110), ([] : List S77), e)
def parcel_Take.f (k : Nat) (l0 : List Int) : Option (Int × Int × Int × Int × Int × Int × List S110 × List S77 × Int) :=
 if (l0.length : Int) = 0 then some (0, 0, 0, 0, 0, 0, ([] : List S110), ([] : List S77), 3)
 else if wrap64 (rd l0 0) < 1 then some (0, 0, 0, 0, 0, 0, ([] : List S110), ([] : List S77), 12) else if wrap64 (rd l0 0) > 6 then some (0, 0, 0, 0, 0, 0, ([] : List S110), ([] : List S77), 12)
 else (parcel_Take.fl k l0 (flds (wrap64 (rd l0 0))) 0 0 0 0 0 1 0).bind fun q => (parcel_Take.mid k l0 (wrap64 (rd l0 0)) q.2.2.2.2.2.1 q.2.2.2.2.2.2).bind fun m => parcel_Take.fin k l0 (wrap64 (rd l0 0)) q.1 q.2.1 q.2.2.1 q.2.2.2.1 q.2.2.2.2.1 m.2.2.1 m.2.2.2 m.1 m.2.1
theorem parcel_Take.S_farT {α : Type} {d : Kd α} {e base : Nat} {v : Value} {xs : List α} {w w' : World} (h : Kd.S d e w base (fun _ => True) v xs) {g t : Nat} {cs : Array Value} (hb : w.heap[g]? = some (.cells cs t (0, 0))) (ht : ∀ q, q ∈ e :: d.E → q ≠ t) (hf : ∀ i, i ≠ g → w'.heap[i]? = w.heap[i]?) : Kd.S d e w' base (fun _ => True) v xs :=
 Kd.S_mono (Kd.S_step (Kd.S_bound h) (fun k hk _ => hf k (fun e_ => by
  subst e_
  obtain ⟨_, _, _, q, hq, cells, hc⟩ := hk
  rw [hb] at hc
  injection hc with hc
  injection hc with _ hc _
  exact ht q hq hc.symm))) (fun _ _ => trivial)
theorem parcel_Take.R_keepT {α : Type} {d : Kd α} {e base : Nat} {v : Value} {xs : List α} {w w' : World} (h : Kd.R d e w base (fun _ => True) v xs) {g t : Nat} {cs : Array Value} (hb : w.heap[g]? = some (.cells cs t (0, 0))) (ht : ∀ q, q ∈ e :: d.E → q ≠ t) (hk : KeepBut w w' g none) : Kd.R d e w' base (fun _ => True) v xs :=
 Kd.R_mono (Kd.R_step (Kd.R_bound h) (fun k hk' hlt => hk.2 k hlt (fun e_ => by
  subst e_
  obtain ⟨_, _, _, q, hq, cells, hc⟩ := hk'
  rw [hb] at hc
  injection hc with hc
  injection hc with _ hc _
  exact ht q hq hc.symm) (by simp))) (fun _ _ => trivial)
theorem parcel_Take.S_keepT {α : Type} {d : Kd α} {e base : Nat} {v : Value} {xs : List α} {w w' : World} (h : Kd.S d e w base (fun _ => True) v xs) {g t : Nat} {cs : Array Value} (hb : w.heap[g]? = some (.cells cs t (0, 0))) (ht : ∀ q, q ∈ e :: d.E → q ≠ t) (hk : KeepBut w w' g none) : Kd.S d e w' base (fun k => k < w.heap.size) v xs :=
 Kd.S_mono (Kd.S_step (Kd.S_bound h) (fun k hk' hlt => hk.2 k hlt (fun e_ => by
  subst e_
  obtain ⟨_, _, _, q, hq, cells, hc⟩ := hk'
  rw [hb] at hc
  injection hc with hc
  injection hc with _ hc _
  exact ht q hq hc.symm) (by simp))) (fun _ hk' => hk'.2.2.1)
theorem parcel_Take.ne_pi : ∀ t, t ≠ 96 → ∀ q, q ∈ 96 :: Kd.E (kptr 0) → q ≠ t := fun t ht q hq => by
 have hq' : q ∈ [96] := hq
 simp only [List.mem_singleton] at hq'
 subst hq'
 exact ht.symm
theorem parcel_Take.ne_it : ∀ t, t ≠ 77 → t ≠ 5 → ∀ q, q ∈ 77 :: Kd.E k77 → q ≠ t := fun t h1 h2 q hq => by
 have hq' : q ∈ [77, 5] := hq
 simp only [List.mem_cons, List.not_mem_nil, or_false] at hq'
 rcases hq' with rfl | rfl
 ·
  exact h1.symm
 exact h2.symm
theorem parcel_Take.num_le {k : Nat} {l0 : List Int} {a e m r1 r2 r3 : Int} (h : parcel_taker_num.f k l0 a e m = some (r1, r2, r3)) : r1 ≤ 9223372036854775807 := by
 have hw : ∀ n : Int, wrap64 n ≤ 9223372036854775807 := fun n => by unfold wrap64; omega
 unfold parcel_taker_num.f at h
 by_cases he : e = 0
 ·
  rw [if_pos he] at h
  obtain ⟨t, _, h⟩ := Option.bind_eq_some_iff.mp h
  by_cases h1 : t.2.2 = 0
  ·
   rw [if_pos h1] at h
   by_cases h2 : t.1 > m
   ·
    rw [if_pos h2] at h
    simp only [Option.some.injEq, Prod.mk.injEq] at h
    omega
   rw [if_neg h2] at h
   simp only [Option.some.injEq, Prod.mk.injEq] at h
   have := hw t.1
   omega
  rw [if_neg h1] at h
  simp only [Option.some.injEq, Prod.mk.injEq] at h
  omega
 rw [if_neg he] at h
 simp only [Option.some.injEq, Prod.mk.injEq] at h
 omega
theorem parcel_Take.ex5 {w : World} {j g t : Nat} {c0 c1 c2 c3 c4 c5 c6 c7 : Value} (hj : j = 1 ∨ j = 2 ∨ j = 3 ∨ j = 4 ∨ j = 5) (hb : w.heap[g]? = some (.cells #[c0, c1, c2, c3, c4, c5, c6, c7] t (0, 0))) : ∃ z, w.cell? ⟨g, j, none⟩ = some z := by
 rcases hj with rfl | rfl | rfl | rfl | rfl
 ·
  exact ⟨c1, (kc_ hb 1).trans rfl⟩
 ·
  exact ⟨c2, (kc_ hb 2).trans rfl⟩
 ·
  exact ⟨c3, (kc_ hb 3).trans rfl⟩
 ·
  exact ⟨c4, (kc_ hb 4).trans rfl⟩
 exact ⟨c5, (kc_ hb 5).trans rfl⟩
theorem parcel_Take.put5 {w : World} {j g t : Nat} {c0 c6 c7 : Value} {p1 p2 p3 p4 p5 v : Int} (hj : j = 1 ∨ j = 2 ∨ j = 3 ∨ j = 4 ∨ j = 5) (hb : w.heap[g]? = some (.cells #[c0, .int .i64 p1, .int .i64 p2, .int .i64 p3, .int .i64 p4, .int .i64 p5, c6, c7] t (0, 0))) :
 (w.setCell ⟨g, j, none⟩ (.int .i64 v)).heap[g]? = some (.cells #[c0, .int .i64 (if j = 1 then v else p1), .int .i64 (if j = 2 then v else p2), .int .i64 (if j = 3 then v else p3), .int .i64 (if j = 4 then v else p4), .int .i64 (if j = 5 then v else p5), c6, c7] t (0, 0)) := by
 rcases hj with rfl | rfl | rfl | rfl | rfl
 ·
  exact blk_put hb 1 _ rfl
 ·
  exact blk_put hb 2 _ rfl
 ·
  exact blk_put hb 3 _ rfl
 ·
  exact blk_put hb 4 _ rfl
 exact blk_put hb 5 _ rfl
theorem parcel_Take.far8 (w : World) (g : Nat) (c0 c1 c2 c3 c4 c5 c6 c7 : Value) (i : Nat) (h : i ≠ g) : ((((((((w.setCell ⟨g, 0, none⟩ (c0)).setCell ⟨g, 1, none⟩ (c1)).setCell ⟨g, 2, none⟩ (c2)).setCell ⟨g, 3, none⟩ (c3)).setCell ⟨g, 4, none⟩ (c4)).setCell ⟨g, 5, none⟩ (c5)).setCell ⟨g, 6, none⟩ (c6)).setCell ⟨g, 7, none⟩ (c7)).heap[i]? = w.heap[i]? := by
 rw [parcel_taker_item.far1 _ _ _ _ _ h, parcel_taker_item.far1 _ _ _ _ _ h, parcel_taker_item.far1 _ _ _ _ _ h, parcel_taker_item.far1 _ _ _ _ _ h, parcel_taker_item.far1 _ _ _ _ _ h, parcel_taker_item.far1 _ _ _ _ _ h, parcel_taker_item.far1 _ _ _ _ _ h, parcel_taker_item.far1 _ _ _ _ _ h]
def parcel_Take.T17 : Bool × List (List Nat × List Nat) := (true, [([], []), ([0], [0]), ([], []), ([2], [2]), ([3], [3]), ([1, 4, 3], [1, 4]), ([0, 1, 2, 3, 4, 5], []), ([6, 5, 5, 0, 1, 2, 3, 4, 5], [5, 6])])
def parcel_Take.B17 : List Nat := [0, 1, 0, 4, 12, 31, 63, 127]
theorem parcel_Take.tab17 : rtab .any (opsOf Tryd.f42 17) = parcel_Take.T17 := by kernel_rfl
theorem parcel_Take.bits17 : waitsOk parcel_Take.T17.2 parcel_Take.B17 = true := by kernel_rfl
def parcel_Take.T24 : Bool × List (List Nat × List Nat) := (true, [([], []), ([], []), ([1], [1]), ([2], [2]), ([3], [3]), ([0, 0], [0]), ([4, 5, 0, 1, 2, 3, 4, 5], [4])])
def parcel_Take.B24 : List Nat := [0, 0, 2, 6, 14, 1, 63]
theorem parcel_Take.tab24 : rtab .any (opsOf Tryd.f42 24) = parcel_Take.T24 := by kernel_rfl
theorem parcel_Take.bits24 : waitsOk parcel_Take.T24.2 parcel_Take.B24 = true := by kernel_rfl
set_option maxHeartbeats 16000000 in
set_option maxRecDepth 100000 in
theorem parcel_Take.calls (k : Nat) (A0 : Option Addr) (c0 : Nat) (l0 : List Int) (r1 r2 r3 r4 r5 r6 : Int) (r7 : List S110) (r8 : List S77) (r9 : Int) (w : World) (hr0 : Kd.C (Kd.int .u8) w A0 l0.length l0) (hc0 : l0.length ≤ c0) (h : parcel_Take.f k l0 = some (r1, r2, r3, r4, r5, r6, r7, r8, r9)) :
 Calls Tryd.prog 42 #[.slice A0 l0.length c0] w fun e w' => ∃ v6_ v7_ : Value, e = .returned (.tuple #[.agg #[.int .i64 r1, .int .i64 r2, .int .i64 r3, .int .i64 r4, .int .i64 r5, .int .i64 r6, v6_, v7_], .int .i64 r9]) ∧ Kd.V k110 110 w' w.heap.size (fun k_ => (True ∧ some k_ ≠ v7_.ownBlock) ∧ w.heap.size ≤ k_ ∧ True) v6_ r7 ∧ Kd.S k77 77 w' w.heap.size (fun _ => True) v7_ r8 ∧ Below w.heap.size w w' := by
 have hu51 := Tryd.underlying37
 have hu62 := Tryd.underlying77
 have hu95 := Tryd.underlying118
 have HR0 := am_ hr0
 have HC0 := am_ hc0
 unfold parcel_Take.f at h
 by_cases c1 : (l0.length : Int) = 0
 ·
  rw [if_pos c1] at h
  simp only [Option.some.injEq, Prod.mk.injEq] at h
  obtain ⟨rfl, rfl, rfl, rfl, rfl, rfl, rfl, rfl, rfl⟩ := h
  have c1b := beq_iff_eq.mpr c1
  have c1n : (l0.length == 0) = true := beq_iff_eq.mpr (by omega)
  have c1e : l0.length = 0 := by omega
  clear c1 hr0 hc0
  go_enter Tryd.func42, Tryd.ntmps42
  go_wp2_with (first | ((with_reducible refine gd_ (N := 2) rfl ?_); refine bE 2 #[.int .i64 0, .int .i64 0, .int .i64 0, .int .i64 0, .int .i64 0, .int .i64 0, .slice none 0 0, .slice none 0 0] 37 ?_; intro gr hg w1 hbox hb; have HB1 := am_ hb; have Ggr := am_ (show w.heap.size ≤ gr by rw [hg]; exact Nat.le_refl _); have BR1 := am_ hbox; have hzn_0 : w1.cell? ⟨gr, 0, none⟩ = some (.int .i64 0) := (kc_ BR1.out 0).trans rfl; have hzn_1 : w1.cell? ⟨gr, 1, none⟩ = some (.int .i64 0) := (kc_ BR1.out 1).trans rfl; have hzn_2 : w1.cell? ⟨gr, 2, none⟩ = some (.int .i64 0) := (kc_ BR1.out 2).trans rfl; have hzn_3 : w1.cell? ⟨gr, 3, none⟩ = some (.int .i64 0) := (kc_ BR1.out 3).trans rfl; have hzn_4 : w1.cell? ⟨gr, 4, none⟩ = some (.int .i64 0) := (kc_ BR1.out 4).trans rfl; have hzn_5 : w1.cell? ⟨gr, 5, none⟩ = some (.int .i64 0) := (kc_ BR1.out 5).trans rfl; have hzn_6 : w1.cell? ⟨gr, 6, none⟩ = some (.slice none 0 0) := (kc_ BR1.out 6).trans rfl; have hzn_7 : w1.cell? ⟨gr, 7, none⟩ = some (.slice none 0 0) := (kc_ BR1.out 7).trans rfl; have fzn_0 := kf_ BR1.out 0; have fzn_1 := kf_ BR1.out 1; have fzn_2 := kf_ BR1.out 2; have fzn_3 := kf_ BR1.out 3; have fzn_4 := kf_ BR1.out 4; have fzn_5 := kf_ BR1.out 5; have fzn_6 := kf_ BR1.out 6; have fzn_7 := kf_ BR1.out 7; clear hb hbox hg) | ((with_reducible refine gate_store (t := 37) (p := 2) (v := .tmp 11) rfl ?_); refine sE 37 2 (.tmp 11) (sets gr w1 0 [.int .i64 0, .int .i64 0, .int .i64 0, .int .i64 0, .int .i64 0, .int .i64 0, .slice none 0 0, .slice none 0 0]) ?_; intro w2 hw; have hf : ∀ i, i ≠ gr → w2.heap[i]? = w1.heap[i]? := fun i hi => (by rw [hw]; exact parcel_Take.far8 w1 gr (.int .i64 0) (.int .i64 0) (.int .i64 0) (.int .i64 0) (.int .i64 0) (.int .i64 0) (.slice none 0 0) (.slice none 0 0) i hi); have BR2 := am_ (show w2.heap[gr]? = some (.cells #[.int .i64 0, .int .i64 0, .int .i64 0, .int .i64 0, .int .i64 0, .int .i64 0, .slice none 0 0, .slice none 0 0] 37 (0, 0)) by (rw [hw]; exact blk_put (blk_put (blk_put (blk_put (blk_put (blk_put (blk_put (blk_put (BR1.out) 0 _ rfl) 1 _ rfl) 2 _ rfl) 3 _ rfl) 4 _ rfl) 5 _ rfl) 6 _ rfl) 7 _ rfl)); have HB2 := am_ (show Below w.heap.size w w2 by (rw [hw]; exact bs_ (bs_ (bs_ (bs_ (bs_ (bs_ (bs_ (bs_ (HB1.out) Ggr.out) Ggr.out) Ggr.out) Ggr.out) Ggr.out) Ggr.out) Ggr.out) Ggr.out)); clear hw hf))
  refine bodyPost_ret (results_ct rfl _ _ gr 37 #[.int .i64 0, .int .i64 0, .int .i64 0, .int .i64 0, .int .i64 0, .int .i64 0, .slice none 0 0, .slice none 0 0] (0, 0) _ rfl BR2.out Tryd.underlying37 rfl (by kernel_rfl)) rfl ?_
  exact ⟨_, _, rfl, Kd.V_nil _ _ _ _ _, Kd.S_nil _ _ _ _ _, HB2.out⟩
 rw [if_neg c1] at h
 have c1b : ((l0.length : Int) == 0) = false := beq_eq_false_iff_ne.mpr c1
 have c1n : (l0.length == 0) = false := beq_eq_false_iff_ne.mpr (by omega)
 have c1z : ¬ l0.length = 0 := by omega
 have q0 : (0 < (l0.length : Int)) = True := eq_true (by omega)
 have q1 : (0 < l0.length) = True := eq_true (by omega)
 obtain ⟨ad, rfl, hx0⟩ := Kd.at_int hr0 0 (by omega) (by omega)
 replace hx0 : w.cell? ad = some (.int .u8 (rd l0 0)) := by cases ad; exact hx0
 generalize rd l0 0 = x0 at h hx0
 clear c1 hr0 hc0
 by_cases c2 : (wrap64 x0) < 1
 case pos =>
  rw [if_pos c2] at h
  simp only [Option.some.injEq, Prod.mk.injEq] at h
  obtain ⟨rfl, rfl, rfl, rfl, rfl, rfl, rfl, rfl, rfl⟩ := h
  have d2 := decide_eq_true c2
  clear c2
  go_enter Tryd.func42, Tryd.ntmps42
  go_wp2_with (first | ((with_reducible refine gd_ (N := 2) rfl ?_); refine bE 2 #[.int .i64 0, .int .i64 0, .int .i64 0, .int .i64 0, .int .i64 0, .int .i64 0, .slice none 0 0, .slice none 0 0] 37 ?_; intro gr hg w1 hbox hb; have HB1 := am_ hb; have Ggr := am_ (show w.heap.size ≤ gr by rw [hg]; exact Nat.le_refl _); have BR1 := am_ hbox; have hx1 := (hb.cell (World.block_lt_of_cell? _ _ hx0)).trans hx0; clear hb hbox hg) | ((with_reducible refine gd_ (N := 4) rfl ?_); refine bE 4 #[.int .i64 0, .int .i64 0, .int .i64 0, .int .i64 0, .int .i64 0, .int .i64 0, .slice none 0 0, .slice none 0 0] 37 ?_; intro gp hg w2 hbox hb; have Ggp := am_ (show w.heap.size ≤ gp by (rw [hg]; exact bz_ HB1.out)); have Nrp := am_ (show gr ≠ gp from fun e_ => absurd (blk_lt BR1.out) (by rw [e_, hg]; exact Nat.lt_irrefl _)); have HB2 := am_ (below_step HB1.out hb); have BR2 := am_ (blk_below BR1.out hb); have BP2 := am_ hbox; have hzn_0 : w2.cell? ⟨gp, 0, none⟩ = some (.int .i64 0) := (kc_ BP2.out 0).trans rfl; have hzn_1 : w2.cell? ⟨gp, 1, none⟩ = some (.int .i64 0) := (kc_ BP2.out 1).trans rfl; have hzn_2 : w2.cell? ⟨gp, 2, none⟩ = some (.int .i64 0) := (kc_ BP2.out 2).trans rfl; have hzn_3 : w2.cell? ⟨gp, 3, none⟩ = some (.int .i64 0) := (kc_ BP2.out 3).trans rfl; have hzn_4 : w2.cell? ⟨gp, 4, none⟩ = some (.int .i64 0) := (kc_ BP2.out 4).trans rfl; have hzn_5 : w2.cell? ⟨gp, 5, none⟩ = some (.int .i64 0) := (kc_ BP2.out 5).trans rfl; have hzn_6 : w2.cell? ⟨gp, 6, none⟩ = some (.slice none 0 0) := (kc_ BP2.out 6).trans rfl; have hzn_7 : w2.cell? ⟨gp, 7, none⟩ = some (.slice none 0 0) := (kc_ BP2.out 7).trans rfl; have fzn_0 := kf_ BP2.out 0; have fzn_1 := kf_ BP2.out 1; have fzn_2 := kf_ BP2.out 2; have fzn_3 := kf_ BP2.out 3; have fzn_4 := kf_ BP2.out 4; have fzn_5 := kf_ BP2.out 5; have fzn_6 := kf_ BP2.out 6; have fzn_7 := kf_ BP2.out 7; clear hb hbox hg) | ((with_reducible refine gate_store (t := 37) (p := 4) (v := .tmp 16) rfl ?_); refine sE 37 4 (.tmp 16) (sets gp w2 0 [.int .i64 (wrap64 x0), .int .i64 0, .int .i64 0, .int .i64 0, .int .i64 0, .int .i64 0, .slice none 0 0, .slice none 0 0]) ?_; intro w3 hw; have hf : ∀ i, i ≠ gp → w3.heap[i]? = w2.heap[i]? := fun i hi => (by rw [hw]; exact parcel_Take.far8 w2 gp (.int .i64 (wrap64 x0)) (.int .i64 0) (.int .i64 0) (.int .i64 0) (.int .i64 0) (.int .i64 0) (.slice none 0 0) (.slice none 0 0) i hi); have BP3 := am_ (show w3.heap[gp]? = some (.cells #[.int .i64 (wrap64 x0), .int .i64 0, .int .i64 0, .int .i64 0, .int .i64 0, .int .i64 0, .slice none 0 0, .slice none 0 0] 37 (0, 0)) by (rw [hw]; exact blk_put (blk_put (blk_put (blk_put (blk_put (blk_put (blk_put (blk_put (BP2.out) 0 _ rfl) 1 _ rfl) 2 _ rfl) 3 _ rfl) 4 _ rfl) 5 _ rfl) 6 _ rfl) 7 _ rfl)); have HB3 := am_ (show Below w.heap.size w w3 by (rw [hw]; exact bs_ (bs_ (bs_ (bs_ (bs_ (bs_ (bs_ (bs_ (HB2.out) Ggp.out) Ggp.out) Ggp.out) Ggp.out) Ggp.out) Ggp.out) Ggp.out) Ggp.out)); have BR3 := am_ ((hf gr Nrp.out).trans BR2.out); have hzp_0 : w3.cell? ⟨gp, 0, none⟩ = some (.int .i64 (wrap64 x0)) := (kc_ BP3.out 0).trans rfl; have hzp_1 : w3.cell? ⟨gp, 1, none⟩ = some (.int .i64 0) := (kc_ BP3.out 1).trans rfl; have hzp_2 : w3.cell? ⟨gp, 2, none⟩ = some (.int .i64 0) := (kc_ BP3.out 2).trans rfl; have hzp_3 : w3.cell? ⟨gp, 3, none⟩ = some (.int .i64 0) := (kc_ BP3.out 3).trans rfl; have hzp_4 : w3.cell? ⟨gp, 4, none⟩ = some (.int .i64 0) := (kc_ BP3.out 4).trans rfl; have hzp_5 : w3.cell? ⟨gp, 5, none⟩ = some (.int .i64 0) := (kc_ BP3.out 5).trans rfl; have hzp_6 : w3.cell? ⟨gp, 6, none⟩ = some (.slice none 0 0) := (kc_ BP3.out 6).trans rfl; have hzp_7 : w3.cell? ⟨gp, 7, none⟩ = some (.slice none 0 0) := (kc_ BP3.out 7).trans rfl; have hzz_0 : w3.cell? ⟨gr, 0, none⟩ = some (.int .i64 0) := (kc_ BR3.out 0).trans rfl; have hzz_1 : w3.cell? ⟨gr, 1, none⟩ = some (.int .i64 0) := (kc_ BR3.out 1).trans rfl; have hzz_2 : w3.cell? ⟨gr, 2, none⟩ = some (.int .i64 0) := (kc_ BR3.out 2).trans rfl; have hzz_3 : w3.cell? ⟨gr, 3, none⟩ = some (.int .i64 0) := (kc_ BR3.out 3).trans rfl; have hzz_4 : w3.cell? ⟨gr, 4, none⟩ = some (.int .i64 0) := (kc_ BR3.out 4).trans rfl; have hzz_5 : w3.cell? ⟨gr, 5, none⟩ = some (.int .i64 0) := (kc_ BR3.out 5).trans rfl; have hzz_6 : w3.cell? ⟨gr, 6, none⟩ = some (.slice none 0 0) := (kc_ BR3.out 6).trans rfl; have hzz_7 : w3.cell? ⟨gr, 7, none⟩ = some (.slice none 0 0) := (kc_ BR3.out 7).trans rfl; have fzz_0 := kf_ BR3.out 0; have fzz_1 := kf_ BR3.out 1; have fzz_2 := kf_ BR3.out 2; have fzz_3 := kf_ BR3.out 3; have fzz_4 := kf_ BR3.out 4; have fzz_5 := kf_ BR3.out 5; have fzz_6 := kf_ BR3.out 6; have fzz_7 := kf_ BR3.out 7; clear hw hf) | ((with_reducible refine gate_store (t := 37) (p := 2) (v := .tmp 25) rfl ?_); refine sE 37 2 (.tmp 25) (sets gr w3 0 [.int .i64 0, .int .i64 0, .int .i64 0, .int .i64 0, .int .i64 0, .int .i64 0, .slice none 0 0, .slice none 0 0]) ?_; intro w4 hw; have hf : ∀ i, i ≠ gr → w4.heap[i]? = w3.heap[i]? := fun i hi => (by rw [hw]; exact parcel_Take.far8 w3 gr (.int .i64 0) (.int .i64 0) (.int .i64 0) (.int .i64 0) (.int .i64 0) (.int .i64 0) (.slice none 0 0) (.slice none 0 0) i hi); have BR4 := am_ (show w4.heap[gr]? = some (.cells #[.int .i64 0, .int .i64 0, .int .i64 0, .int .i64 0, .int .i64 0, .int .i64 0, .slice none 0 0, .slice none 0 0] 37 (0, 0)) by (rw [hw]; exact blk_put (blk_put (blk_put (blk_put (blk_put (blk_put (blk_put (blk_put (BR3.out) 0 _ rfl) 1 _ rfl) 2 _ rfl) 3 _ rfl) 4 _ rfl) 5 _ rfl) 6 _ rfl) 7 _ rfl)); have HB4 := am_ (show Below w.heap.size w w4 by (rw [hw]; exact bs_ (bs_ (bs_ (bs_ (bs_ (bs_ (bs_ (bs_ (HB3.out) Ggr.out) Ggr.out) Ggr.out) Ggr.out) Ggr.out) Ggr.out) Ggr.out) Ggr.out)); have BP4 := am_ ((hf gp (Ne.symm Nrp.out)).trans BP3.out); clear hw hf))
  refine bodyPost_ret (results_ct rfl _ _ gr 37 #[.int .i64 0, .int .i64 0, .int .i64 0, .int .i64 0, .int .i64 0, .int .i64 0, .slice none 0 0, .slice none 0 0] (0, 0) _ rfl BR4.out Tryd.underlying37 rfl (by kernel_rfl)) rfl ?_
  exact ⟨_, _, rfl, Kd.V_nil _ _ _ _ _, Kd.S_nil _ _ _ _ _, HB4.out⟩
 rw [if_neg c2] at h
 have d2 := decide_eq_false c2
 by_cases c3 : (wrap64 x0) > 6
 case pos =>
  rw [if_pos c3] at h
  simp only [Option.some.injEq, Prod.mk.injEq] at h
  obtain ⟨rfl, rfl, rfl, rfl, rfl, rfl, rfl, rfl, rfl⟩ := h
  have d3 := decide_eq_true c3
  clear c3
  go_enter Tryd.func42, Tryd.ntmps42
  go_wp2_with (first | ((with_reducible refine gd_ (N := 2) rfl ?_); refine bE 2 #[.int .i64 0, .int .i64 0, .int .i64 0, .int .i64 0, .int .i64 0, .int .i64 0, .slice none 0 0, .slice none 0 0] 37 ?_; intro gr hg w1 hbox hb; have HB1 := am_ hb; have Ggr := am_ (show w.heap.size ≤ gr by rw [hg]; exact Nat.le_refl _); have BR1 := am_ hbox; have hx1 := (hb.cell (World.block_lt_of_cell? _ _ hx0)).trans hx0; clear hb hbox hg) | ((with_reducible refine gd_ (N := 4) rfl ?_); refine bE 4 #[.int .i64 0, .int .i64 0, .int .i64 0, .int .i64 0, .int .i64 0, .int .i64 0, .slice none 0 0, .slice none 0 0] 37 ?_; intro gp hg w2 hbox hb; have Ggp := am_ (show w.heap.size ≤ gp by (rw [hg]; exact bz_ HB1.out)); have Nrp := am_ (show gr ≠ gp from fun e_ => absurd (blk_lt BR1.out) (by rw [e_, hg]; exact Nat.lt_irrefl _)); have HB2 := am_ (below_step HB1.out hb); have BR2 := am_ (blk_below BR1.out hb); have BP2 := am_ hbox; have hzn_0 : w2.cell? ⟨gp, 0, none⟩ = some (.int .i64 0) := (kc_ BP2.out 0).trans rfl; have hzn_1 : w2.cell? ⟨gp, 1, none⟩ = some (.int .i64 0) := (kc_ BP2.out 1).trans rfl; have hzn_2 : w2.cell? ⟨gp, 2, none⟩ = some (.int .i64 0) := (kc_ BP2.out 2).trans rfl; have hzn_3 : w2.cell? ⟨gp, 3, none⟩ = some (.int .i64 0) := (kc_ BP2.out 3).trans rfl; have hzn_4 : w2.cell? ⟨gp, 4, none⟩ = some (.int .i64 0) := (kc_ BP2.out 4).trans rfl; have hzn_5 : w2.cell? ⟨gp, 5, none⟩ = some (.int .i64 0) := (kc_ BP2.out 5).trans rfl; have hzn_6 : w2.cell? ⟨gp, 6, none⟩ = some (.slice none 0 0) := (kc_ BP2.out 6).trans rfl; have hzn_7 : w2.cell? ⟨gp, 7, none⟩ = some (.slice none 0 0) := (kc_ BP2.out 7).trans rfl; have fzn_0 := kf_ BP2.out 0; have fzn_1 := kf_ BP2.out 1; have fzn_2 := kf_ BP2.out 2; have fzn_3 := kf_ BP2.out 3; have fzn_4 := kf_ BP2.out 4; have fzn_5 := kf_ BP2.out 5; have fzn_6 := kf_ BP2.out 6; have fzn_7 := kf_ BP2.out 7; clear hb hbox hg) | ((with_reducible refine gate_store (t := 37) (p := 4) (v := .tmp 16) rfl ?_); refine sE 37 4 (.tmp 16) (sets gp w2 0 [.int .i64 (wrap64 x0), .int .i64 0, .int .i64 0, .int .i64 0, .int .i64 0, .int .i64 0, .slice none 0 0, .slice none 0 0]) ?_; intro w3 hw; have hf : ∀ i, i ≠ gp → w3.heap[i]? = w2.heap[i]? := fun i hi => (by rw [hw]; exact parcel_Take.far8 w2 gp (.int .i64 (wrap64 x0)) (.int .i64 0) (.int .i64 0) (.int .i64 0) (.int .i64 0) (.int .i64 0) (.slice none 0 0) (.slice none 0 0) i hi); have BP3 := am_ (show w3.heap[gp]? = some (.cells #[.int .i64 (wrap64 x0), .int .i64 0, .int .i64 0, .int .i64 0, .int .i64 0, .int .i64 0, .slice none 0 0, .slice none 0 0] 37 (0, 0)) by (rw [hw]; exact blk_put (blk_put (blk_put (blk_put (blk_put (blk_put (blk_put (blk_put (BP2.out) 0 _ rfl) 1 _ rfl) 2 _ rfl) 3 _ rfl) 4 _ rfl) 5 _ rfl) 6 _ rfl) 7 _ rfl)); have HB3 := am_ (show Below w.heap.size w w3 by (rw [hw]; exact bs_ (bs_ (bs_ (bs_ (bs_ (bs_ (bs_ (bs_ (HB2.out) Ggp.out) Ggp.out) Ggp.out) Ggp.out) Ggp.out) Ggp.out) Ggp.out) Ggp.out)); have BR3 := am_ ((hf gr Nrp.out).trans BR2.out); have hzp_0 : w3.cell? ⟨gp, 0, none⟩ = some (.int .i64 (wrap64 x0)) := (kc_ BP3.out 0).trans rfl; have hzp_1 : w3.cell? ⟨gp, 1, none⟩ = some (.int .i64 0) := (kc_ BP3.out 1).trans rfl; have hzp_2 : w3.cell? ⟨gp, 2, none⟩ = some (.int .i64 0) := (kc_ BP3.out 2).trans rfl; have hzp_3 : w3.cell? ⟨gp, 3, none⟩ = some (.int .i64 0) := (kc_ BP3.out 3).trans rfl; have hzp_4 : w3.cell? ⟨gp, 4, none⟩ = some (.int .i64 0) := (kc_ BP3.out 4).trans rfl; have hzp_5 : w3.cell? ⟨gp, 5, none⟩ = some (.int .i64 0) := (kc_ BP3.out 5).trans rfl; have hzp_6 : w3.cell? ⟨gp, 6, none⟩ = some (.slice none 0 0) := (kc_ BP3.out 6).trans rfl; have hzp_7 : w3.cell? ⟨gp, 7, none⟩ = some (.slice none 0 0) := (kc_ BP3.out 7).trans rfl; have hzz_0 : w3.cell? ⟨gr, 0, none⟩ = some (.int .i64 0) := (kc_ BR3.out 0).trans rfl; have hzz_1 : w3.cell? ⟨gr, 1, none⟩ = some (.int .i64 0) := (kc_ BR3.out 1).trans rfl; have hzz_2 : w3.cell? ⟨gr, 2, none⟩ = some (.int .i64 0) := (kc_ BR3.out 2).trans rfl; have hzz_3 : w3.cell? ⟨gr, 3, none⟩ = some (.int .i64 0) := (kc_ BR3.out 3).trans rfl; have hzz_4 : w3.cell? ⟨gr, 4, none⟩ = some (.int .i64 0) := (kc_ BR3.out 4).trans rfl; have hzz_5 : w3.cell? ⟨gr, 5, none⟩ = some (.int .i64 0) := (kc_ BR3.out 5).trans rfl; have hzz_6 : w3.cell? ⟨gr, 6, none⟩ = some (.slice none 0 0) := (kc_ BR3.out 6).trans rfl; have hzz_7 : w3.cell? ⟨gr, 7, none⟩ = some (.slice none 0 0) := (kc_ BR3.out 7).trans rfl; have fzz_0 := kf_ BR3.out 0; have fzz_1 := kf_ BR3.out 1; have fzz_2 := kf_ BR3.out 2; have fzz_3 := kf_ BR3.out 3; have fzz_4 := kf_ BR3.out 4; have fzz_5 := kf_ BR3.out 5; have fzz_6 := kf_ BR3.out 6; have fzz_7 := kf_ BR3.out 7; clear hw hf) | ((with_reducible refine gate_store (t := 37) (p := 2) (v := .tmp 25) rfl ?_); refine sE 37 2 (.tmp 25) (sets gr w3 0 [.int .i64 0, .int .i64 0, .int .i64 0, .int .i64 0, .int .i64 0, .int .i64 0, .slice none 0 0, .slice none 0 0]) ?_; intro w4 hw; have hf : ∀ i, i ≠ gr → w4.heap[i]? = w3.heap[i]? := fun i hi => (by rw [hw]; exact parcel_Take.far8 w3 gr (.int .i64 0) (.int .i64 0) (.int .i64 0) (.int .i64 0) (.int .i64 0) (.int .i64 0) (.slice none 0 0) (.slice none 0 0) i hi); have BR4 := am_ (show w4.heap[gr]? = some (.cells #[.int .i64 0, .int .i64 0, .int .i64 0, .int .i64 0, .int .i64 0, .int .i64 0, .slice none 0 0, .slice none 0 0] 37 (0, 0)) by (rw [hw]; exact blk_put (blk_put (blk_put (blk_put (blk_put (blk_put (blk_put (blk_put (BR3.out) 0 _ rfl) 1 _ rfl) 2 _ rfl) 3 _ rfl) 4 _ rfl) 5 _ rfl) 6 _ rfl) 7 _ rfl)); have HB4 := am_ (show Below w.heap.size w w4 by (rw [hw]; exact bs_ (bs_ (bs_ (bs_ (bs_ (bs_ (bs_ (bs_ (HB3.out) Ggr.out) Ggr.out) Ggr.out) Ggr.out) Ggr.out) Ggr.out) Ggr.out) Ggr.out)); have BP4 := am_ ((hf gp (Ne.symm Nrp.out)).trans BP3.out); clear hw hf))
  refine bodyPost_ret (results_ct rfl _ _ gr 37 #[.int .i64 0, .int .i64 0, .int .i64 0, .int .i64 0, .int .i64 0, .int .i64 0, .slice none 0 0, .slice none 0 0] (0, 0) _ rfl BR4.out Tryd.underlying37 rfl (by kernel_rfl)) rfl ?_
  exact ⟨_, _, rfl, Kd.V_nil _ _ _ _ _, Kd.S_nil _ _ _ _ _, HB4.out⟩
 rw [if_neg c3] at h
 have d3 := decide_eq_false c3
 have HKI := am_ (show 1 ≤ (wrap64 x0) ∧ (wrap64 x0) ≤ 6 by omega)
 clear c2 c3
 obtain ⟨⟨q1_, q2_, q3_, q4_, q5_, qa, qe⟩, hfl, h⟩ := Option.bind_eq_some_iff.mp h
 obtain ⟨⟨sp_, it_, ma, me⟩, hmid, hfin⟩ := Option.bind_eq_some_iff.mp h
 dsimp only at hmid hfin
 have HFL := am_ hfl
 have HMID := am_ hmid
 have HFIN := am_ hfin
 clear h hfl hmid hfin
 go_enter Tryd.func42, Tryd.ntmps42
 go_wp2_with (first | ((with_reducible refine gd_ (N := 2) rfl ?_); refine bE 2 #[.int .i64 0, .int .i64 0, .int .i64 0, .int .i64 0, .int .i64 0, .int .i64 0, .slice none 0 0, .slice none 0 0] 37 ?_; intro gr hg w1 hbox hb; have HB1 := am_ hb; have Ggr := am_ (show w.heap.size ≤ gr by rw [hg]; exact Nat.le_refl _); have BR1 := am_ hbox; have hx1 := (hb.cell (World.block_lt_of_cell? _ _ hx0)).trans hx0; clear hb hbox hg) | ((with_reducible refine gd_ (N := 4) rfl ?_); refine bE 4 #[.int .i64 0, .int .i64 0, .int .i64 0, .int .i64 0, .int .i64 0, .int .i64 0, .slice none 0 0, .slice none 0 0] 37 ?_; intro gp hg w2 hbox hb; have Ggp := am_ (show w.heap.size ≤ gp by (rw [hg]; exact bz_ HB1.out)); have Nrp := am_ (show gr ≠ gp from fun e_ => absurd (blk_lt BR1.out) (by rw [e_, hg]; exact Nat.lt_irrefl _)); have HB2 := am_ (below_step HB1.out hb); have BR2 := am_ (blk_below BR1.out hb); have BP2 := am_ hbox; have hzn_0 : w2.cell? ⟨gp, 0, none⟩ = some (.int .i64 0) := (kc_ BP2.out 0).trans rfl; have hzn_1 : w2.cell? ⟨gp, 1, none⟩ = some (.int .i64 0) := (kc_ BP2.out 1).trans rfl; have hzn_2 : w2.cell? ⟨gp, 2, none⟩ = some (.int .i64 0) := (kc_ BP2.out 2).trans rfl; have hzn_3 : w2.cell? ⟨gp, 3, none⟩ = some (.int .i64 0) := (kc_ BP2.out 3).trans rfl; have hzn_4 : w2.cell? ⟨gp, 4, none⟩ = some (.int .i64 0) := (kc_ BP2.out 4).trans rfl; have hzn_5 : w2.cell? ⟨gp, 5, none⟩ = some (.int .i64 0) := (kc_ BP2.out 5).trans rfl; have hzn_6 : w2.cell? ⟨gp, 6, none⟩ = some (.slice none 0 0) := (kc_ BP2.out 6).trans rfl; have hzn_7 : w2.cell? ⟨gp, 7, none⟩ = some (.slice none 0 0) := (kc_ BP2.out 7).trans rfl; have fzn_0 := kf_ BP2.out 0; have fzn_1 := kf_ BP2.out 1; have fzn_2 := kf_ BP2.out 2; have fzn_3 := kf_ BP2.out 3; have fzn_4 := kf_ BP2.out 4; have fzn_5 := kf_ BP2.out 5; have fzn_6 := kf_ BP2.out 6; have fzn_7 := kf_ BP2.out 7; clear hb hbox hg) | ((with_reducible refine gate_store (t := 37) (p := 4) (v := .tmp 16) rfl ?_); refine sE 37 4 (.tmp 16) (sets gp w2 0 [.int .i64 (wrap64 x0), .int .i64 0, .int .i64 0, .int .i64 0, .int .i64 0, .int .i64 0, .slice none 0 0, .slice none 0 0]) ?_; intro w3 hw; have hf : ∀ i, i ≠ gp → w3.heap[i]? = w2.heap[i]? := fun i hi => (by rw [hw]; exact parcel_Take.far8 w2 gp (.int .i64 (wrap64 x0)) (.int .i64 0) (.int .i64 0) (.int .i64 0) (.int .i64 0) (.int .i64 0) (.slice none 0 0) (.slice none 0 0) i hi); have BP3 := am_ (show w3.heap[gp]? = some (.cells #[.int .i64 (wrap64 x0), .int .i64 0, .int .i64 0, .int .i64 0, .int .i64 0, .int .i64 0, .slice none 0 0, .slice none 0 0] 37 (0, 0)) by (rw [hw]; exact blk_put (blk_put (blk_put (blk_put (blk_put (blk_put (blk_put (blk_put (BP2.out) 0 _ rfl) 1 _ rfl) 2 _ rfl) 3 _ rfl) 4 _ rfl) 5 _ rfl) 6 _ rfl) 7 _ rfl)); have HB3 := am_ (show Below w.heap.size w w3 by (rw [hw]; exact bs_ (bs_ (bs_ (bs_ (bs_ (bs_ (bs_ (bs_ (HB2.out) Ggp.out) Ggp.out) Ggp.out) Ggp.out) Ggp.out) Ggp.out) Ggp.out) Ggp.out)); have BR3 := am_ ((hf gr Nrp.out).trans BR2.out); have hzp_0 : w3.cell? ⟨gp, 0, none⟩ = some (.int .i64 (wrap64 x0)) := (kc_ BP3.out 0).trans rfl; have hzp_1 : w3.cell? ⟨gp, 1, none⟩ = some (.int .i64 0) := (kc_ BP3.out 1).trans rfl; have hzp_2 : w3.cell? ⟨gp, 2, none⟩ = some (.int .i64 0) := (kc_ BP3.out 2).trans rfl; have hzp_3 : w3.cell? ⟨gp, 3, none⟩ = some (.int .i64 0) := (kc_ BP3.out 3).trans rfl; have hzp_4 : w3.cell? ⟨gp, 4, none⟩ = some (.int .i64 0) := (kc_ BP3.out 4).trans rfl; have hzp_5 : w3.cell? ⟨gp, 5, none⟩ = some (.int .i64 0) := (kc_ BP3.out 5).trans rfl; have hzp_6 : w3.cell? ⟨gp, 6, none⟩ = some (.slice none 0 0) := (kc_ BP3.out 6).trans rfl; have hzp_7 : w3.cell? ⟨gp, 7, none⟩ = some (.slice none 0 0) := (kc_ BP3.out 7).trans rfl; clear hw hf) | ((with_reducible refine gd_ (N := 28) rfl ?_); refine bE 28 #[.slice (some ad) l0.length c0, .int .i64 1, .int .i64 0] 118 ?_; intro gt hg w4 hbox hb; have Ggt := am_ (show w.heap.size ≤ gt by (rw [hg]; exact bz_ HB3.out)); have Nrt := am_ (show gr ≠ gt from fun e_ => absurd (blk_lt BR3.out) (by rw [e_, hg]; exact Nat.lt_irrefl _)); have Npt := am_ (show gp ≠ gt from fun e_ => absurd (blk_lt BP3.out) (by rw [e_, hg]; exact Nat.lt_irrefl _)); have HB4 := am_ (below_step HB3.out hb); have BR4 := am_ (blk_below BR3.out hb); have BP4 := am_ (blk_below BP3.out hb); have BT4 := am_ hbox; have hzb_0 : w4.cell? ⟨gp, 0, none⟩ = some (.int .i64 (wrap64 x0)) := (kc_ BP4.out 0).trans rfl; clear hb hbox hg) | ((with_reducible refine gate_callee (f := 37) rfl ?_); refine gL (some 29) Tryd.func37 #[.pointer (some ⟨gp, 0, none⟩)] ?_; refine (uses_calls gp (wrap64 x0) _ ((kc_ BP4.out 0).trans rfl)).mono ?_; rintro e w5 ⟨v5, rfl, ho, hb⟩; refine ⟨_, rfl, ?_⟩; have HB5 := am_ (below_step HB4.out hb); have BR5 := am_ (blk_below BR4.out hb); have BP5 := am_ (blk_below BP4.out hb); have BT5 := am_ (blk_below BT4.out hb); have HU5 := am_ (Kd.R_lower ho (bz_ HB4.out)); obtain ⟨gu, cu, eu, _, _, _⟩ := Kd.R_form ho (flds_pos HKI.out); subst eu; clear ho hb))
 go_loopg [31] 5 (fun kq v31 w' => ∃ (i p1 p2 p3 p4 p5 at_ e : Int), v31 = .int .i64 i ∧ Aside0 (0 ≤ i ∧ i ≤ ((flds (wrap64 x0)).length : Int) ∧ (flds (wrap64 x0)).length + 1 ≤ kq + i.toNat) ∧ Aside0 (parcel_Take.fl k l0 ((flds (wrap64 x0)).drop i.toNat) p1 p2 p3 p4 p5 at_ e = some (q1_, q2_, q3_, q4_, q5_, qa, qe)) ∧ Aside0 (Below w.heap.size w w') ∧ Aside0 (w'.heap[gr]? = some (.cells #[.int .i64 0, .int .i64 0, .int .i64 0, .int .i64 0, .int .i64 0, .int .i64 0, .slice none 0 0, .slice none 0 0] 37 (0, 0))) ∧ Aside0 (w'.heap[gp]? = some (.cells #[.int .i64 (wrap64 x0), .int .i64 p1, .int .i64 p2, .int .i64 p3, .int .i64 p4, .int .i64 p5, .slice none 0 0, .slice none 0 0] 37 (0, 0))) ∧ Aside0 (w'.heap[gt]? = some (.cells #[.slice (some ad) l0.length c0, .int .i64 at_, .int .i64 e] 118 (0, 0))) ∧ Aside0 (Kd.R (kptr gp) 96 w' w.heap.size (fun _ => True) (.slice (some ⟨gu, 0, none⟩) (flds (wrap64 x0)).length cu) (flds (wrap64 x0))))
 case atStart => exact ⟨0, 0, 0, 0, 0, 0, 1, 0, rfl, ⟨by have := flds_len (wrap64 x0); omega⟩, HFL, HB5, BR5, BP5, BT5, HU5⟩
 case round =>
 obtain ⟨i, p1, p2, p3, p4, p5, at_, e, rfl, HI, HNR, HB0, BR0, BP0, BT0, HU0⟩ := hrel
 clear HB1 HB2 HB3 HB4 HB5 BR1 BR2 BR3 BR4 BR5 BP2 BP3 BP4 BP5 BT4 BT5 HU5 HFL
 by_cases hi : i < ((flds (wrap64 x0)).length : Int)
 case pos =>
  obtain ⟨j, hj⟩ : ∃ j : Nat, rdOf 0 (flds (wrap64 x0)) i = j := ⟨_, rfl⟩
  have h0 := HI.out.1
  have hlt : i.toNat < (flds (wrap64 x0)).length := by omega
  have hje : (flds (wrap64 x0))[i.toNat] = j := by rw [← hj]; unfold rdOf; rw [List.getD_eq_getElem?_getD, List.getElem?_eq_getElem hlt]; rfl
  have hd : (flds (wrap64 x0)).drop i.toNat = j :: (flds (wrap64 x0)).drop (i.toNat + 1) := by rw [List.drop_eq_getElem_cons hlt, hje]
  have HJ := am_ (flds_mem (show j ∈ (flds (wrap64 x0)) from hje ▸ List.getElem_mem hlt))
  have hnr := HNR.out
  rw [hd] at hnr
  obtain ⟨⟨t1, t2, t3⟩, hn1, hn2⟩ := Option.bind_eq_some_iff.mp hnr
  dsimp only at hn2
  have HN1 := am_ hn1
  have HN2 := am_ hn2
  have hp := (Kd.R_celln (0 : Nat) HU0.out i h0 hi).1
  rw [hj] at hp
  have hz1 : wr.cell? ⟨gu, i.toNat, none⟩ = some (.pointer (some ⟨gp, j, none⟩)) := hp
  have p0_ := eq_true h0
  have p1_ := eq_true hi
  have p2_ := eq_true hlt
  have hw_ : wrap64 (i + 1) = i + 1 := by have := flds_len (wrap64 x0); unfold wrap64; omega
  clear hnr hn1 hn2 hp hd hje hj HNR
  go_wp2_with (first | ((with_reducible refine gd_ (N := 37) rfl ?_); refine gL (some 37) Tryd.func52 #[.pointer (some ⟨gt, 0, none⟩), .int .u64 1099511627776] ?_; refine (parcel_taker_num.calls k gt (some ad) c0 l0 at_ e 1099511627776 t1 t2 t3 w _ HR0.out HC0.out HB0.out Ggt.out BT0.out HN1.out).mono ?_; rintro x w1 ⟨rfl, hbt, hb, hk⟩; refine ⟨_, rfl, ?_⟩; have HB1 := am_ hb; have BT1 := am_ hbt; have BR1 := am_ (parcel_taker_item.keep_far hk BR0.out Nrt.out); have BP1 := am_ (parcel_taker_item.keep_far hk BP0.out Npt.out); have HU1 := am_ (parcel_Take.R_keepT HU0.out BT0.out (parcel_Take.ne_pi 118 (by decide)) hk); obtain ⟨z_, hz2⟩ := parcel_Take.ex5 HJ.out BP1.out; have fz2 := kf_ BP1.out j; clear hb hbt hk) | ((with_reducible refine gate_store (t := 3) (p := 38) (v := .tmp 37) rfl ?_); refine sE 3 38 (.tmp 37) (w1.setCell ⟨gp, j, none⟩ (.int .i64 t1)) ?_; intro w2 hw; have hf : ∀ i, i ≠ gp → w2.heap[i]? = w1.heap[i]? := fun i hi => (by rw [hw]; exact parcel_taker_item.far1 _ gp _ _ i hi); have BP2 := am_ (show w2.heap[gp]? = some (.cells #[.int .i64 (wrap64 x0), .int .i64 (if j = 1 then t1 else p1), .int .i64 (if j = 2 then t1 else p2), .int .i64 (if j = 3 then t1 else p3), .int .i64 (if j = 4 then t1 else p4), .int .i64 (if j = 5 then t1 else p5), .slice none 0 0, .slice none 0 0] 37 (0, 0)) by (rw [hw]; exact parcel_Take.put5 HJ.out BP1.out)); have HB2 := am_ (show Below w.heap.size w w2 by (rw [hw]; exact bs_ HB1.out Ggp.out)); have BR2 := am_ ((hf gr Nrp.out).trans BR1.out); have BT2 := am_ ((hf gt (Ne.symm Npt.out)).trans BT1.out); have HU2 := am_ (parcel_taker_item.R_farT HU1.out BP1.out (parcel_Take.ne_pi 37 (by decide)) hf); clear hw hf))
  cases gk with
  | zero => exact absurd HI.out (by omega)
  | succ k2 =>
  go_roundg k2
  case measure => omega
  case rel => exact ⟨i + 1, _, _, _, _, _, t2, t3, (by first | rfl | rw [hw_]), ⟨by have := HI.out; omega⟩, ⟨by rw [show (i + 1).toNat = i.toNat + 1 by omega]; exact HN2.out⟩, HB2, BR2, BP2, BT2, HU2⟩
 have hnr := HNR.out
 rw [List.drop_eq_nil_of_le (show (flds (wrap64 x0)).length ≤ i.toNat by have := HI.out; omega)] at hnr
 simp only [parcel_Take.fl, Option.some.injEq, Prod.mk.injEq] at hnr
 obtain ⟨rfl, rfl, rfl, rfl, rfl, rfl, rfl⟩ := hnr
 have e1_ := eq_false hi
 have e2_ := eq_false (show ¬ i.toNat < (flds (wrap64 x0)).length by have := HI.out; omega)
 clear hi HNR HU0 HI
 have hk0 : wr.cell? ⟨gp, 0, none⟩ = some (.int .i64 (wrap64 x0)) := (kc_ BP0.out 0).trans rfl
 go_upto_if 42 with (fail)
 (try simp only [Act.put, qa_, qb_, qc_])
 go_cut [] (fun wc => ∃ (at1 e1 : Int) (As : Option Addr) (cs_ : Nat) (sp : List S110) (Ai : Option Addr) (ci : Nat) (it : List S77) (N : Nat), Aside0 (parcel_Take.fin k l0 (wrap64 x0) p1 p2 p3 p4 p5 at1 e1 sp it = some (r1, r2, r3, r4, r5, r6, r7, r8, r9)) ∧ Aside0 (Below w.heap.size w wc) ∧ Aside0 (wc.heap[gr]? = some (.cells #[.int .i64 0, .int .i64 0, .int .i64 0, .int .i64 0, .int .i64 0, .int .i64 0, .slice none 0 0, .slice none 0 0] 37 (0, 0))) ∧ Aside0 (wc.heap[gp]? = some (.cells #[.int .i64 (wrap64 x0), .int .i64 p1, .int .i64 p2, .int .i64 p3, .int .i64 p4, .int .i64 p5, .slice As sp.length cs_, .slice Ai it.length ci] 37 (0, 0))) ∧ Aside0 (wc.heap[gt]? = some (.cells #[.slice (some ad) l0.length c0, .int .i64 at1, .int .i64 e1] 118 (0, 0))) ∧ Aside0 (Kd.V k110 110 wc w.heap.size (fun k_ => (k_ ≠ gp ∧ k_ ≠ gt ∧ k_ ≠ gr) ∧ w.heap.size ≤ k_ ∧ k_ < N) (.slice As sp.length cs_) sp) ∧ Aside0 (Kd.S k77 77 wc w.heap.size (fun _ => True) (.slice Ai it.length ci) it) ∧ Aside0 (∀ k_, (.slice Ai it.length ci : Value).ownBlock = some k_ → N ≤ k_))
 case first =>
  have hmid := HMID.out
  unfold parcel_Take.mid at hmid
  clear HMID
  by_cases k1 : (wrap64 x0) = 1
  case neg =>
   rw [if_neg k1] at hmid
   simp only [Option.some.injEq, Prod.mk.injEq] at hmid
   obtain ⟨rfl, rfl, rfl, rfl⟩ := hmid
   have k1b : ((wrap64 x0) == 1) = false := beq_eq_false_iff_ne.mpr k1
   go_wp2
   go_meet
   case rel => exact ⟨at_, e, none, 0, [], none, 0, [], 0, HFIN, HB0, BR0, BP0, BT0, ⟨Kd.V_nil _ _ _ _ _⟩, ⟨Kd.S_nil _ _ _ _ _⟩, ⟨fun k_ hk_ => by cases hk_⟩⟩
  rw [if_pos k1] at hmid
  have k1b : ((wrap64 x0) == 1) = true := beq_iff_eq.mpr k1
  clear k1
  obtain ⟨⟨s1, s2, s3⟩, hs, hmid⟩ := Option.bind_eq_some_iff.mp hmid
  obtain ⟨⟨m1, m2, m3⟩, hm, hmid⟩ := Option.bind_eq_some_iff.mp hmid
  obtain ⟨⟨x1, x2, x3⟩, hx, hmid⟩ := Option.bind_eq_some_iff.mp hmid
  simp only [Option.some.injEq, Prod.mk.injEq] at hmid
  obtain ⟨rfl, rfl, rfl, rfl⟩ := hmid
  dsimp only at hm hx
  have HM := am_ hm
  have HM1 := am_ (parcel_Take.num_le hm)
  have HX := am_ hx
  clear hm hx
  have hk2 : wr.cell? ⟨gt, 2, none⟩ = some (.int .i64 e) := (kc_ BT0.out 2).trans rfl
  go_upto_if 47 with (fail)
  (try simp only [Act.put, qa_, qb_, qc_])
  go_cut [] (fun wc => ∃ (As : Option Addr) (cs_ : Nat) (N : Nat), Aside0 (Below w.heap.size w wc) ∧ Aside0 (wc.heap[gr]? = some (.cells #[.int .i64 0, .int .i64 0, .int .i64 0, .int .i64 0, .int .i64 0, .int .i64 0, .slice none 0 0, .slice none 0 0] 37 (0, 0))) ∧ Aside0 (wc.heap[gp]? = some (.cells #[.int .i64 (wrap64 x0), .int .i64 p1, .int .i64 p2, .int .i64 p3, .int .i64 p4, .int .i64 p5, .slice As s1.length cs_, .slice none 0 0] 37 (0, 0))) ∧ Aside0 (wc.heap[gt]? = some (.cells #[.slice (some ad) l0.length c0, .int .i64 s2, .int .i64 s3] 118 (0, 0))) ∧ Aside0 (Kd.V k110 110 wc w.heap.size (fun k_ => (k_ ≠ gp ∧ k_ ≠ gt ∧ k_ ≠ gr) ∧ w.heap.size ≤ k_ ∧ k_ < N) (.slice As s1.length cs_) s1) ∧ Aside0 (N ≤ wc.heap.size))
  case first =>
   unfold parcel_Take.sps at hs
   have hk1 : wr.cell? ⟨gt, 1, none⟩ = some (.int .i64 at_) := (kc_ BT0.out 1).trans rfl
   by_cases he : e = 0
   case neg =>
    rw [if_neg he] at hs
    simp only [Option.some.injEq, Prod.mk.injEq] at hs
    obtain ⟨rfl, rfl, rfl⟩ := hs
    have heb : (e == 0) = false := beq_eq_false_iff_ne.mpr he
    clear he
    go_wp2
    go_meet
    case rel => exact ⟨none, 0, 0, HB0, BR0, BP0, BT0, ⟨Kd.V_nil _ _ _ _ _⟩, ⟨Nat.zero_le _⟩⟩
   rw [if_pos he] at hs
   subst he
   have HS := am_ hs
   clear hs
   go_wp2_with (first | ((with_reducible refine gate_callee (f := 53) rfl ?_); refine gL (some 56) Tryd.func53 #[.slice (some ad) l0.length c0, .int .i64 at_] ?_; refine (span_Take.calls k _ _ l0 at_ s1 s2 s3 _ (Kd.C_below HR0.out HB0.out) HC0.out HS.out).mono ?_; rintro x w1 ⟨v1, rfl, hv, hb⟩; refine ⟨_, rfl, ?_⟩; have HB1 := am_ (below_step HB0.out hb); have BR1 := am_ (blk_below BR0.out hb); have BP1 := am_ (blk_below BP0.out hb); have BT1 := am_ (blk_below BT0.out hb); obtain ⟨As, cs_, es⟩ := Kd.V_slice hv; subst es; obtain ⟨N, hN⟩ : ∃ N, N = w1.heap.size := ⟨_, rfl⟩; have lr := blk_lt BR0.out; have lp := blk_lt BP0.out; have lt_ := blk_lt BT0.out; have lb := bz_ HB0.out; have HV1 := am_ (show Kd.V k110 110 w1 w.heap.size (fun k_ => (k_ ≠ gp ∧ k_ ≠ gt ∧ k_ ≠ gr) ∧ w.heap.size ≤ k_ ∧ k_ < N) (.slice As s1.length cs_) s1 from Kd.V_lower (Kd.V_mono (Kd.V_bound hv) (fun k_ hk_ => ⟨⟨by omega, by omega, by omega⟩, by omega, by omega⟩)) lb); have HNs1 := am_ (show N ≤ w1.heap.size from Nat.le_of_eq hN); have hzp_6 : w1.cell? ⟨gp, 6, none⟩ = some (.slice none 0 0) := (kc_ BP1.out 6).trans rfl; have fzp_6 := kf_ BP1.out 6; have hzt_1 : w1.cell? ⟨gt, 1, none⟩ = some (.int .i64 at_) := (kc_ BT1.out 1).trans rfl; have hzt_2 : w1.cell? ⟨gt, 2, none⟩ = some (.int .i64 0) := (kc_ BT1.out 2).trans rfl; have fzt_1 := kf_ BT1.out 1; have fzt_2 := kf_ BT1.out 2; clear hv hb hN lr lp lt_ lb) | ((with_reducible refine gate_store (t := 34) (p := 60) (v := .tmp 57) rfl ?_); refine sE 34 60 (.tmp 57) (w1.setCell ⟨gp, 6, none⟩ (.slice As s1.length cs_)) ?_; intro w2 hw; have hf : ∀ i, i ≠ gp → w2.heap[i]? = w1.heap[i]? := fun i hi => (by rw [hw]; exact parcel_taker_item.far1 _ gp _ _ i hi); have BP2 := am_ (show w2.heap[gp]? = some (.cells #[.int .i64 (wrap64 x0), .int .i64 p1, .int .i64 p2, .int .i64 p3, .int .i64 p4, .int .i64 p5, .slice As s1.length cs_, .slice none 0 0] 37 (0, 0)) by (rw [hw]; exact blk_put BP1.out 6 _ rfl)); have HB2 := am_ (show Below w.heap.size w w2 by (rw [hw]; exact bs_ HB1.out Ggp.out)); have BR2 := am_ ((hf gr Nrp.out).trans BR1.out); have BT2 := am_ ((hf gt (Ne.symm Npt.out)).trans BT1.out); have HV2 := am_ (Kd.V_step HV1.out (fun k_ hk_ _ => hf k_ hk_.1.1)); have HNs2 := am_ (show N ≤ w2.heap.size by (rw [hw]; simpa [World.setCell] using HNs1.out)); have hzt2_1 : w2.cell? ⟨gt, 1, none⟩ = some (.int .i64 at_) := (kc_ BT2.out 1).trans rfl; have hzt2_2 : w2.cell? ⟨gt, 2, none⟩ = some (.int .i64 0) := (kc_ BT2.out 2).trans rfl; have fzt2_1 := kf_ BT2.out 1; have fzt2_2 := kf_ BT2.out 2; clear hw hf) | ((with_reducible refine gate_store (t := 3) (p := 62) (v := .tmp 58) rfl ?_); refine sE 3 62 (.tmp 58) (w2.setCell ⟨gt, 1, none⟩ (.int .i64 s2)) ?_; intro w3 hw; have hf : ∀ i, i ≠ gt → w3.heap[i]? = w2.heap[i]? := fun i hi => (by rw [hw]; exact parcel_taker_item.far1 _ gt _ _ i hi); have BT3 := am_ (show w3.heap[gt]? = some (.cells #[.slice (some ad) l0.length c0, .int .i64 s2, .int .i64 0] 118 (0, 0)) by (rw [hw]; exact blk_put BT2.out 1 _ rfl)); have HB3 := am_ (show Below w.heap.size w w3 by (rw [hw]; exact bs_ HB2.out Ggt.out)); have BR3 := am_ ((hf gr Nrt.out).trans BR2.out); have BP3 := am_ ((hf gp Npt.out).trans BP2.out); have HV3 := am_ (Kd.V_step HV2.out (fun k_ hk_ _ => hf k_ hk_.1.2.1)); have HNs3 := am_ (show N ≤ w3.heap.size by (rw [hw]; simpa [World.setCell] using HNs2.out)); have hzt3_2 : w3.cell? ⟨gt, 2, none⟩ = some (.int .i64 0) := (kc_ BT3.out 2).trans rfl; have fzt3_2 := kf_ BT3.out 2; clear hw hf) | ((with_reducible refine gate_store (t := 28) (p := 64) (v := .tmp 59) rfl ?_); refine sE 28 64 (.tmp 59) (w3.setCell ⟨gt, 2, none⟩ (.int .i64 s3)) ?_; intro w4 hw; have hf : ∀ i, i ≠ gt → w4.heap[i]? = w3.heap[i]? := fun i hi => (by rw [hw]; exact parcel_taker_item.far1 _ gt _ _ i hi); have BT4 := am_ (show w4.heap[gt]? = some (.cells #[.slice (some ad) l0.length c0, .int .i64 s2, .int .i64 s3] 118 (0, 0)) by (rw [hw]; exact blk_put BT3.out 2 _ rfl)); have HB4 := am_ (show Below w.heap.size w w4 by (rw [hw]; exact bs_ HB3.out Ggt.out)); have BR4 := am_ ((hf gr Nrt.out).trans BR3.out); have BP4 := am_ ((hf gp Npt.out).trans BP3.out); have HV4 := am_ (Kd.V_step HV3.out (fun k_ hk_ _ => hf k_ hk_.1.2.1)); have HNs4 := am_ (show N ≤ w4.heap.size by (rw [hw]; simpa [World.setCell] using HNs3.out)); clear hw hf))
   go_meet
   case rel => exact ⟨As, cs_, N, HB4, BR4, BP4, BT4, HV4, HNs4⟩
  case rest =>
  clear hs HB0 BR0 BP0 BT0 hk0
  obtain ⟨As, cs_, N, HB0, BR0, BP0, BT0, HV0, HNs0⟩ := hcut
  have hdum := trivial
  go_wp2_with (first | ((with_reducible refine gd_ (N := 66) rfl ?_); refine gL (some 66) Tryd.func52 #[.pointer (some ⟨gt, 0, none⟩), .int .u64 8] ?_; refine (parcel_taker_num.calls k gt (some ad) c0 l0 s2 s3 8 m1 m2 m3 w _ HR0.out HC0.out HB0.out Ggt.out BT0.out HM.out).mono ?_; rintro x w1 ⟨rfl, hbt, hb, hk⟩; refine ⟨_, rfl, ?_⟩; have HB1 := am_ hb; have BT1 := am_ hbt; have BR1 := am_ (parcel_taker_item.keep_far hk BR0.out Nrt.out); have BP1 := am_ (parcel_taker_item.keep_far hk BP0.out Npt.out); have HV1 := am_ (Kd.V_keep HV0.out hk (fun k_ hk_ => hk_.1.2.1)); have HNs1 := am_ (Nat.le_trans HNs0.out hk.1); clear hb hbt hk))
  go_loopg [67] (m1.toNat + 1) (fun kq v67 w' => ∃ (i at1 e1 : Int) (Ai : Option Addr) (ci : Nat) (it : List S77), v67 = .int .i64 i ∧ Aside0 (0 ≤ i ∧ i.toNat ≤ m1.toNat ∧ m1.toNat + 1 ≤ kq + i.toNat) ∧ Aside0 (parcel_Take.its k l0 (m1.toNat - i.toNat) it at1 e1 = some (x1, x2, x3)) ∧ Aside0 (Below w.heap.size w w') ∧ Aside0 (w'.heap[gr]? = some (.cells #[.int .i64 0, .int .i64 0, .int .i64 0, .int .i64 0, .int .i64 0, .int .i64 0, .slice none 0 0, .slice none 0 0] 37 (0, 0))) ∧ Aside0 (w'.heap[gp]? = some (.cells #[.int .i64 (wrap64 x0), .int .i64 p1, .int .i64 p2, .int .i64 p3, .int .i64 p4, .int .i64 p5, .slice As s1.length cs_, .slice Ai it.length ci] 37 (0, 0))) ∧ Aside0 (w'.heap[gt]? = some (.cells #[.slice (some ad) l0.length c0, .int .i64 at1, .int .i64 e1] 118 (0, 0))) ∧ Aside0 (Kd.V k110 110 w' w.heap.size (fun k_ => (k_ ≠ gp ∧ k_ ≠ gt ∧ k_ ≠ gr) ∧ w.heap.size ≤ k_ ∧ k_ < N) (.slice As s1.length cs_) s1) ∧ Aside0 (Kd.S k77 77 w' w.heap.size (fun _ => True) (.slice Ai it.length ci) it) ∧ Aside0 (∀ k_, (.slice Ai it.length ci : Value).ownBlock = some k_ → N ≤ k_) ∧ Aside0 (N ≤ w'.heap.size))
  case atStart => exact ⟨0, m2, m3, none, 0, [], rfl, ⟨by omega⟩, HX, HB1, BR1, BP1, BT1, HV1, ⟨Kd.S_nil _ _ _ _ _⟩, ⟨fun k_ hk_ => by cases hk_⟩, HNs1⟩
  case round =>
  obtain ⟨i, at1, e1, Ai, ci, it, rfl, HI_, HNR, HB0, BR0, BP0, BT0, HV0, HI0, HN0, HNs0⟩ := hrel
  clear HB1 BR1 BP1 BT1 HV1 HNs1 HX
  by_cases hi : i < m1
  case pos =>
   have h0 := HI_.out.1
   have hnr := HNR.out
   rw [show m1.toNat - i.toNat = (m1.toNat - (i + 1).toNat) + 1 by omega] at hnr
   obtain ⟨⟨y1, y2, y3, y4, y5⟩, hn1, hn2⟩ := Option.bind_eq_some_iff.mp hnr
   dsimp only at hn2
   by_cases hl3 : it.length < 3518437208883
   case neg => exact absurd ((if_neg hl3).symm.trans hn2) (by simp)
   have HN2 := am_ ((if_pos hl3).symm.trans hn2)
   have HN1 := am_ hn1
   have HL3 := am_ hl3
   have p1_ := eq_true hi
   have hw_ : wrap64 (i + 1) = i + 1 := by unfold wrap64; have := HM1.out; omega
   clear hnr hn1 hn2 hl3 HNR
   go_wp2
   refine start_ (n := 8) (S := fun w' => w'.heap[gp]? = some (.cells #[.int .i64 (wrap64 x0), .int .i64 p1, .int .i64 p2, .int .i64 p3, .int .i64 p4, .int .i64 p5, .slice As s1.length cs_, .slice Ai it.length ci] 37 (0, 0))) (ds := [7]) #[false, false, false, false, false, false, false, false] (by kernel_rfl) rfl rfl (kd_ BP0.out) (fun hHeld => ?_)
   refine with_tabW parcel_Take.tab17 parcel_Take.bits17 (fun HT_ HW_ => ?_)
   have HB1 := am_ (bd_ HB0.out)
   have BR1 := am_ (kd_ BR0.out)
   have BP1 := am_ (kd_ BP0.out)
   have BT1 := am_ (kd_ BT0.out)
   have HV1 := am_ (Kd.V_drew HV0.out)
   have HI1 := am_ (Kd.S_drew HI0.out)
   have HNs1 := am_ (show N ≤ wr.drew.heap.size from HNs0.out)
   clear HB0 BR0 BP0 BT0 HV0 HI0 HNs0
   generalize wr.drew = w1 at HB1 BR1 BP1 BT1 HV1 HI1 HNs1 hHeld ⊢
   refine pA 0 (some 69) #[o1,o0,o0,o0,o0,o0,o0,o0] HT_ ?_
   refine tA (v := ?_) 1 (some 70) #[o1,o1,o0,o0,o0,o0,o0,o0] HT_ HW_ hHeld ?_ ?_
   rotate_left
   ·
    rintro w' s0
    have q_ := (kc_ s0 7).trans rfl
    go_simp
    with_reducible rfl
   refine pA 2 (some 71) #[o1,o1,o1,o0,o0,o0,o0,o0] HT_ ?_
   refine nO 3 (some 72) #[o1,o1,o1,o1,o0,o0,o0,o0] HT_ (fun K hK => ?_)
   refine goes_ Tryd.func54 (by kernel_rfl) rfl #[.pointer (some ⟨gt, 0, none⟩)] (by rfl) rfl rfl (by (try simp only [List.map_toArray, List.map_cons, List.map_nil]); first | done | rfl | (simp only [List.length_drop, List.length_take]; rfl)) ?_
   refine (parcel_taker_item.calls k gt (some ad) c0 l0 at1 e1 y1 y2 y3 y4 y5 w _ HR0.out HC0.out HB1.out Ggt.out BT1.out HN1.out).mono ?_
   rintro x w2 ⟨vb, rfl, hr, hbt, hb, hk⟩
   refine ⟨_, rfl, ?_⟩
   have HB2 := am_ hb
   have BT2 := am_ hbt
   have BR2 := am_ (parcel_taker_item.keep_far hk BR1.out Nrt.out)
   have BP2 := am_ (parcel_taker_item.keep_far hk BP1.out Npt.out)
   have HV2 := am_ (Kd.V_keep HV1.out hk (fun k_ hk_ => hk_.1.2.1))
   have HNs2 := am_ (Nat.le_trans HNs1.out hk.1)
   obtain ⟨Ab, cb, eb⟩ := Kd.R_slice hr
   subst eb
   have HI2 := am_ (Kd.S_mono (parcel_Take.S_keepT HI1.out BT1.out (parcel_Take.ne_it 118 (by decide) (by decide)) hk) (ok' := fun k_ => True ∧ ¬ (some k_ = (.slice Ab y3.length cb : Value).ownBlock)) (fun k_ hk_ => ⟨trivial, fun e_ => by have := Kd.R_base hr k_ e_.symm; omega⟩))
   have HI2t := am_ (Kd.S_typed HI2.out)
   have HY2 := am_ (Kd.R_lower hr (bz_ HB1.out))
   clear hr hbt hb hk HB1 BR1 BP1 BT1 HV1 HI1 HNs1
   refine hK.out _ _ BP2.out (fun hHeld => ?_)
   clear hK K
   refine nA (N := some 72) ?_
   refine nO 4 (some 73) #[o1,o1,o1,o1,o1,o0,o0,o0] HT_ (fun K hK => ?_)
   refine value_ (w1 := ?_) (v := ?_) (by rfl) rfl ?_ ?_
   rotate_left 2
   ·
    go_simp
    constructor
    ·
     rfl
    rfl
   refine hK.out _ _ (ka_ BP2.out _) (fun hHeld => ?_)
   clear hK K
   refine nA (N := some 73) ?_
   refine nO 5 (some 74) #[o1,o1,o1,o1,o1,o1,o0,o0] HT_ (fun K hK => ?_)
   refine Kd.S_append_step k77 (w0 := w) w.heap.size (by rfl) (.tmp 70) (.tmp 73) 35 77 (.agg #[(.int .i64 0), (.int .u32 0), (.slice none 0 0)]) 40 rfl Tryd.underlying35 info77 rfl (by decide) (by omega) (.slice Ai it.length ci) it (⟨y1, y2, y3⟩ : S77) [.int .i64 y1, .int .u32 y2, .slice Ab y3.length cb] (fun _ => True) (fun k_ => some k_ = (.slice Ab y3.length cb : Value).ownBlock) rfl rfl ?aP (fun k_ hk_ => (Kd.R_mono (ok' := fun k_ => ((fun _ => True)) k_ ∧ some k_ ≠ (.slice Ai it.length ci : Value).ownBlock) (Kd.R_apart' HY2.out HI2t.out (by decide)) (fun k_ hk_ => ⟨trivial, hk_.2⟩)).1 k_ hk_.symm) (fun _ _ => trivial) HI2.out HB2.out (bz_ HB2.out) ?aL ?_
   (case aP => exact k77_mkM _ _ _ (⟨y1, y2, y3⟩ : S77) (Kd.R_mono (Kd.R_tight rfl (Kd.R_mono (ok' := fun k_ => ((fun _ => True)) k_ ∧ some k_ ≠ (.slice Ai it.length ci : Value).ownBlock) (Kd.R_apart' HY2.out HI2t.out (by decide)) (fun k_ hk_ => ⟨trivial, hk_.2⟩))) (fun _ h_ => h_)))
   (case aL => have := HL3.out; omega)
   intro v3 w3 ho hb hg hat
   have BR3 := am_ (blk_grown BR2.out hg (Kd.S_ne HI2.out BR2.out (by decide)))
   have BP3 := am_ (blk_grown BP2.out hg (Kd.S_ne HI2.out BP2.out (by decide)))
   have BT3 := am_ (blk_grown BT2.out hg (Kd.S_ne HI2.out BT2.out (by decide)))
   have HV3 := am_ (Kd.V_grown HV2.out hg (fun k_ hk_ e_ => by have := HN0.out k_ e_.symm; omega))
   have HB3 := am_ hb
   have HNs3 := am_ (Nat.le_trans HNs2.out hg.size)
   have HN3 := am_ (show ∀ k_, v3.ownBlock = some k_ → N ≤ k_ from fun k_ hk_ => by rcases hat with h_ | ⟨b_, h_, hb_⟩; (· exact HN0.out k_ (h_.symm.trans hk_)); (· rw [h_] at hk_; injection hk_ with hk_; have := HNs2.out; omega))
   have HI3 := am_ (Kd.S_mono ho (ok' := fun _ => True) (fun _ _ => trivial))
   clear ho hb hg hat HB2 BR2 BP2 BT2 HV2 HI2 HI2t HY2 HNs2
   obtain ⟨A3, c3, e3⟩ := Kd.S_slice HI3.out
   subst e3
   refine hK.out _ _ BP3.out (fun hHeld => ?_)
   clear hK K
   refine nA (N := some 74) ?_
   refine pA 6 (some 75) #[o1,o1,o1,o1,o1,o1,o1,o0] HT_ ?_
   have hz_ := (kc_ BP3.out 7).trans rfl
   have fz_ := kf_ BP3.out 7
   refine last_ (i := 7) (N := none) #[true, true, true, true, true, true, true, true] rfl rfl (one_of HT_.out (by kernel_rfl)) (by decide) (fun K hK => ?_)
   refine skip_ (w1 := w3.setCell ⟨gp, 7, none⟩ (.slice A3 (it ++ [(⟨y1, y2, y3⟩ : S77)]).length c3)) (by rfl) rfl ?_ ?_
   ·
    go_simp
   have hf : ∀ i, i ≠ gp → (w3.setCell ⟨gp, 7, none⟩ (.slice A3 (it ++ [(⟨y1, y2, y3⟩ : S77)]).length c3)).heap[i]? = w3.heap[i]? := fun i hi => parcel_taker_item.far1 _ gp _ _ i hi
   have BP4 := am_ (show (w3.setCell ⟨gp, 7, none⟩ (.slice A3 (it ++ [(⟨y1, y2, y3⟩ : S77)]).length c3)).heap[gp]? = some (.cells #[.int .i64 (wrap64 x0), .int .i64 p1, .int .i64 p2, .int .i64 p3, .int .i64 p4, .int .i64 p5, .slice As s1.length cs_, .slice A3 (it ++ [(⟨y1, y2, y3⟩ : S77)]).length c3] 37 (0, 0)) from blk_put BP3.out 7 _ rfl)
   have HB4 := am_ (show Below w.heap.size w (w3.setCell ⟨gp, 7, none⟩ (.slice A3 (it ++ [(⟨y1, y2, y3⟩ : S77)]).length c3)) from bs_ HB3.out Ggp.out)
   have BR4 := am_ ((hf gr Nrp.out).trans BR3.out)
   have BT4 := am_ ((hf gt (Ne.symm Npt.out)).trans BT3.out)
   have HV4 := am_ (Kd.V_step HV3.out (fun k_ hk_ _ => hf k_ hk_.1.1))
   have HI4 := am_ (parcel_Take.S_farT HI3.out BP3.out (parcel_Take.ne_it 37 (by decide) (by decide)) hf)
   have HNs4 := am_ (show N ≤ (w3.setCell ⟨gp, 7, none⟩ (.slice A3 (it ++ [(⟨y1, y2, y3⟩ : S77)]).length c3)).heap.size by simpa [World.setCell] using HNs3.out)
   clear hf hz_ fz_
   refine hK.out _ _ ?_
   clear hK K
   generalize w3.setCell ⟨gp, 7, none⟩ (.slice A3 (it ++ [(⟨y1, y2, y3⟩ : S77)]).length c3) = w4 at BP4 HB4 BR4 BT4 HV4 HI4 HNs4 ⊢
   refine dA HT_ ?_
   go_wp2
   cases gk with
   | zero => exact absurd HI_.out (by omega)
   | succ k2 =>
   go_roundg k2
   case measure => omega
   case rel => exact ⟨i + 1, y4, y5, A3, c3, _, (by first | rfl | rw [hw_]), ⟨by have := HI_.out; omega⟩, HN2, HB4, BR4, BP4, BT4, HV4, HI4, HN3, HNs4⟩
  have hnr := HNR.out
  rw [show m1.toNat - i.toNat = 0 by have := HI_.out; omega] at hnr
  simp only [parcel_Take.its, Option.some.injEq, Prod.mk.injEq] at hnr
  obtain ⟨rfl, rfl, rfl⟩ := hnr
  have e1_ := eq_false hi
  go_wp2
  go_meet
  case rel => exact ⟨at1, e1, As, cs_, s1, Ai, ci, it, N, HFIN, HB0, BR0, BP0, BT0, HV0, HI0, HN0⟩
 case rest =>
 clear HMID HFIN HB0 BR0 BP0 BT0
 obtain ⟨at1, e1, As, cs_, sp, Ai, ci, it, N, HFIN, HB0, BR0, BP0, BT0, HV0, HI0, HN0⟩ := hcut
 have hfin := HFIN.out
 clear HFIN
 unfold parcel_Take.fin at hfin
 have t0_0 : wc.cell? ⟨gt, 0, none⟩ = some (.slice (some ad) l0.length c0) := (kc_ BT0.out 0).trans rfl
 have t0_1 : wc.cell? ⟨gt, 1, none⟩ = some (.int .i64 at1) := (kc_ BT0.out 1).trans rfl
 have t0_2 : wc.cell? ⟨gt, 2, none⟩ = some (.int .i64 e1) := (kc_ BT0.out 2).trans rfl
 by_cases he : e1 = 0
 case neg =>
  rw [if_neg he] at hfin
  simp only [Option.some.injEq, Prod.mk.injEq] at hfin
  obtain ⟨rfl, rfl, rfl, rfl, rfl, rfl, rfl, rfl, rfl⟩ := hfin
  have b1 : (e1 == 0) = false := beq_eq_false_iff_ne.mpr he
  have b2 : (e1 != 0) = true := bne_iff_ne.mpr he
  clear he
  go_wp2
  refine start_ (n := 7) (S := fun w' => w'.heap[gt]? = some (.cells #[.slice (some ad) l0.length c0, .int .i64 at1, .int .i64 e1] 118 (0, 0))) (ds := []) #[false, false, false, false, false, false, false] (by kernel_rfl) rfl rfl (kd_ BT0.out) (fun hHeld => ?_)
  refine with_tabW parcel_Take.tab24 parcel_Take.bits24 (fun HT_ HW_ => ?_)
  have HB1 := am_ (bd_ HB0.out)
  have BR1 := am_ (kd_ BR0.out)
  have BT1 := am_ (kd_ BT0.out)
  generalize wc.drew = w1 at HB1 BR1 BT1 hHeld ⊢
  refine pA 0 (some 109) #[o1,o0,o0,o0,o0,o0,o0] HT_ ?_
  refine pA 1 (some 110) #[o1,o1,o0,o0,o0,o0,o0] HT_ ?_
  refine pA 2 (some 111) #[o1,o1,o1,o0,o0,o0,o0] HT_ ?_
  refine pA 3 (some 112) #[o1,o1,o1,o1,o0,o0,o0] HT_ ?_
  refine tA (v := ?_) 4 (some 113) #[o1,o1,o1,o1,o1,o0,o0] HT_ HW_ hHeld ?_ ?_
  rotate_left
  ·
   rintro w' s0
   have q_ := (kc_ s0 2).trans rfl
   go_simp
   with_reducible rfl
  have hzz_0 : w1.cell? ⟨gr, 0, none⟩ = some (.int .i64 0) := (kc_ BR1.out 0).trans rfl
  have hzz_1 : w1.cell? ⟨gr, 1, none⟩ = some (.int .i64 0) := (kc_ BR1.out 1).trans rfl
  have hzz_2 : w1.cell? ⟨gr, 2, none⟩ = some (.int .i64 0) := (kc_ BR1.out 2).trans rfl
  have hzz_3 : w1.cell? ⟨gr, 3, none⟩ = some (.int .i64 0) := (kc_ BR1.out 3).trans rfl
  have hzz_4 : w1.cell? ⟨gr, 4, none⟩ = some (.int .i64 0) := (kc_ BR1.out 4).trans rfl
  have hzz_5 : w1.cell? ⟨gr, 5, none⟩ = some (.int .i64 0) := (kc_ BR1.out 5).trans rfl
  have hzz_6 : w1.cell? ⟨gr, 6, none⟩ = some (.slice none 0 0) := (kc_ BR1.out 6).trans rfl
  have hzz_7 : w1.cell? ⟨gr, 7, none⟩ = some (.slice none 0 0) := (kc_ BR1.out 7).trans rfl
  have fzz_0 := kf_ BR1.out 0
  have fzz_1 := kf_ BR1.out 1
  have fzz_2 := kf_ BR1.out 2
  have fzz_3 := kf_ BR1.out 3
  have fzz_4 := kf_ BR1.out 4
  have fzz_5 := kf_ BR1.out 5
  have fzz_6 := kf_ BR1.out 6
  have fzz_7 := kf_ BR1.out 7
  refine nO 5 none #[o1,o1,o1,o1,o1,o1,o0] HT_ (fun K hK => ?_)
  refine skip_ (w1 := ((((((((w1.setCell ⟨gr, 0, none⟩ (.int .i64 0)).setCell ⟨gr, 1, none⟩ (.int .i64 0)).setCell ⟨gr, 2, none⟩ (.int .i64 0)).setCell ⟨gr, 3, none⟩ (.int .i64 0)).setCell ⟨gr, 4, none⟩ (.int .i64 0)).setCell ⟨gr, 5, none⟩ (.int .i64 0)).setCell ⟨gr, 6, none⟩ (.slice none 0 0)).setCell ⟨gr, 7, none⟩ (.slice none 0 0))) (by rfl) rfl ?_ ?_
  ·
   go_simp
  have hf : ∀ i, i ≠ gr → (((((((((w1.setCell ⟨gr, 0, none⟩ (.int .i64 0)).setCell ⟨gr, 1, none⟩ (.int .i64 0)).setCell ⟨gr, 2, none⟩ (.int .i64 0)).setCell ⟨gr, 3, none⟩ (.int .i64 0)).setCell ⟨gr, 4, none⟩ (.int .i64 0)).setCell ⟨gr, 5, none⟩ (.int .i64 0)).setCell ⟨gr, 6, none⟩ (.slice none 0 0)).setCell ⟨gr, 7, none⟩ (.slice none 0 0))).heap[i]? = w1.heap[i]? := fun i hi => parcel_Take.far8 w1 gr (.int .i64 0) (.int .i64 0) (.int .i64 0) (.int .i64 0) (.int .i64 0) (.int .i64 0) (.slice none 0 0) (.slice none 0 0) i hi
  have BR2 := am_ (show (((((((((w1.setCell ⟨gr, 0, none⟩ (.int .i64 0)).setCell ⟨gr, 1, none⟩ (.int .i64 0)).setCell ⟨gr, 2, none⟩ (.int .i64 0)).setCell ⟨gr, 3, none⟩ (.int .i64 0)).setCell ⟨gr, 4, none⟩ (.int .i64 0)).setCell ⟨gr, 5, none⟩ (.int .i64 0)).setCell ⟨gr, 6, none⟩ (.slice none 0 0)).setCell ⟨gr, 7, none⟩ (.slice none 0 0))).heap[gr]? = some (.cells #[.int .i64 0, .int .i64 0, .int .i64 0, .int .i64 0, .int .i64 0, .int .i64 0, .slice none 0 0, .slice none 0 0] 37 (0, 0)) from blk_put (blk_put (blk_put (blk_put (blk_put (blk_put (blk_put (blk_put (BR1.out) 0 _ rfl) 1 _ rfl) 2 _ rfl) 3 _ rfl) 4 _ rfl) 5 _ rfl) 6 _ rfl) 7 _ rfl)
  have HB2 := am_ (show Below w.heap.size w (((((((((w1.setCell ⟨gr, 0, none⟩ (.int .i64 0)).setCell ⟨gr, 1, none⟩ (.int .i64 0)).setCell ⟨gr, 2, none⟩ (.int .i64 0)).setCell ⟨gr, 3, none⟩ (.int .i64 0)).setCell ⟨gr, 4, none⟩ (.int .i64 0)).setCell ⟨gr, 5, none⟩ (.int .i64 0)).setCell ⟨gr, 6, none⟩ (.slice none 0 0)).setCell ⟨gr, 7, none⟩ (.slice none 0 0))) from bs_ (bs_ (bs_ (bs_ (bs_ (bs_ (bs_ (bs_ (HB1.out) Ggr.out) Ggr.out) Ggr.out) Ggr.out) Ggr.out) Ggr.out) Ggr.out) Ggr.out)
  have BT2 := am_ ((hf gt (Ne.symm Nrt.out)).trans BT1.out)
  clear hf
  refine hK.out _ _ BT2.out (fun hHeld => ?_)
  clear hK K
  generalize ((((((((w1.setCell ⟨gr, 0, none⟩ (.int .i64 0)).setCell ⟨gr, 1, none⟩ (.int .i64 0)).setCell ⟨gr, 2, none⟩ (.int .i64 0)).setCell ⟨gr, 3, none⟩ (.int .i64 0)).setCell ⟨gr, 4, none⟩ (.int .i64 0)).setCell ⟨gr, 5, none⟩ (.int .i64 0)).setCell ⟨gr, 6, none⟩ (.slice none 0 0)).setCell ⟨gr, 7, none⟩ (.slice none 0 0)) = w2 at BR2 HB2 BT2 hHeld ⊢
  refine pA 6 (some 3) #[o1,o1,o1,o1,o1,o1,o1] HT_ ?_
  refine dA HT_ ?_
  go_wp2
  refine bodyPost_ret (results_ct rfl _ _ gr 37 #[.int .i64 0, .int .i64 0, .int .i64 0, .int .i64 0, .int .i64 0, .int .i64 0, .slice none 0 0, .slice none 0 0] (0, 0) _ rfl BR2.out Tryd.underlying37 rfl (by kernel_rfl)) rfl ?_
  exact ⟨_, _, rfl, Kd.V_nil _ _ _ _ _, Kd.S_nil _ _ _ _ _, HB2.out⟩
 rw [if_pos he] at hfin
 subst he
 by_cases ha : at1 < (l0.length : Int)
 case pos =>
  rw [if_pos ha] at hfin
  simp only [Option.some.injEq, Prod.mk.injEq] at hfin
  obtain ⟨rfl, rfl, rfl, rfl, rfl, rfl, rfl, rfl, rfl⟩ := hfin
  have b1 := decide_eq_true ha
  clear ha
  have f2 := kf_ BT0.out 2
  go_wp2_with (first | ((with_reducible refine gate_store (t := 28) (p := 93) (v := .const (.int .i64 4)) rfl ?_); refine store_event rfl (t := 28) (p := 93) (v := .const (.int .i64 4)) rfl rfl (w1 := wc.setCell ⟨gt, 2, none⟩ (.int .i64 4)) ?hr ?_; (case hr => first | (go_simp; done) | (go_simp; rfl)); intro w1 hw; have hf : ∀ i, i ≠ gt → w1.heap[i]? = wc.heap[i]? := fun i hi => (by rw [hw]; exact parcel_taker_item.far1 _ gt _ _ i hi); have BT1 := am_ (show w1.heap[gt]? = some (.cells #[.slice (some ad) l0.length c0, .int .i64 at1, .int .i64 4] 118 (0, 0)) by (rw [hw]; exact blk_put BT0.out 2 _ rfl)); have HB1 := am_ (show Below w.heap.size w w1 by (rw [hw]; exact bs_ HB0.out Ggt.out)); have BR1 := am_ ((hf gr Nrt.out).trans BR0.out); have BP1 := am_ ((hf gp Npt.out).trans BP0.out); have hzt1_2 : w1.cell? ⟨gt, 2, none⟩ = some (.int .i64 4) := (kc_ BT1.out 2).trans rfl; clear hw hf))
  refine start_ (n := 7) (S := fun w' => w'.heap[gt]? = some (.cells #[.slice (some ad) l0.length c0, .int .i64 at1, .int .i64 4] 118 (0, 0))) (ds := []) #[false, false, false, false, false, false, false] (by kernel_rfl) rfl rfl (kd_ BT1.out) (fun hHeld => ?_)
  refine with_tabW parcel_Take.tab24 parcel_Take.bits24 (fun HT_ HW_ => ?_)
  have HB2 := am_ (bd_ HB1.out)
  have BR2 := am_ (kd_ BR1.out)
  have BT2 := am_ (kd_ BT1.out)
  generalize w1.drew = w2 at HB2 BR2 BT2 hHeld ⊢
  refine pA 0 (some 109) #[o1,o0,o0,o0,o0,o0,o0] HT_ ?_
  refine pA 1 (some 110) #[o1,o1,o0,o0,o0,o0,o0] HT_ ?_
  refine pA 2 (some 111) #[o1,o1,o1,o0,o0,o0,o0] HT_ ?_
  refine pA 3 (some 112) #[o1,o1,o1,o1,o0,o0,o0] HT_ ?_
  refine tA (v := ?_) 4 (some 113) #[o1,o1,o1,o1,o1,o0,o0] HT_ HW_ hHeld ?_ ?_
  rotate_left
  ·
   rintro w' s0
   have q_ := (kc_ s0 2).trans rfl
   go_simp
   with_reducible rfl
  have hzz_0 : w2.cell? ⟨gr, 0, none⟩ = some (.int .i64 0) := (kc_ BR2.out 0).trans rfl
  have hzz_1 : w2.cell? ⟨gr, 1, none⟩ = some (.int .i64 0) := (kc_ BR2.out 1).trans rfl
  have hzz_2 : w2.cell? ⟨gr, 2, none⟩ = some (.int .i64 0) := (kc_ BR2.out 2).trans rfl
  have hzz_3 : w2.cell? ⟨gr, 3, none⟩ = some (.int .i64 0) := (kc_ BR2.out 3).trans rfl
  have hzz_4 : w2.cell? ⟨gr, 4, none⟩ = some (.int .i64 0) := (kc_ BR2.out 4).trans rfl
  have hzz_5 : w2.cell? ⟨gr, 5, none⟩ = some (.int .i64 0) := (kc_ BR2.out 5).trans rfl
  have hzz_6 : w2.cell? ⟨gr, 6, none⟩ = some (.slice none 0 0) := (kc_ BR2.out 6).trans rfl
  have hzz_7 : w2.cell? ⟨gr, 7, none⟩ = some (.slice none 0 0) := (kc_ BR2.out 7).trans rfl
  have fzz_0 := kf_ BR2.out 0
  have fzz_1 := kf_ BR2.out 1
  have fzz_2 := kf_ BR2.out 2
  have fzz_3 := kf_ BR2.out 3
  have fzz_4 := kf_ BR2.out 4
  have fzz_5 := kf_ BR2.out 5
  have fzz_6 := kf_ BR2.out 6
  have fzz_7 := kf_ BR2.out 7
  refine nO 5 none #[o1,o1,o1,o1,o1,o1,o0] HT_ (fun K hK => ?_)
  refine skip_ (w1 := ((((((((w2.setCell ⟨gr, 0, none⟩ (.int .i64 0)).setCell ⟨gr, 1, none⟩ (.int .i64 0)).setCell ⟨gr, 2, none⟩ (.int .i64 0)).setCell ⟨gr, 3, none⟩ (.int .i64 0)).setCell ⟨gr, 4, none⟩ (.int .i64 0)).setCell ⟨gr, 5, none⟩ (.int .i64 0)).setCell ⟨gr, 6, none⟩ (.slice none 0 0)).setCell ⟨gr, 7, none⟩ (.slice none 0 0))) (by rfl) rfl ?_ ?_
  ·
   go_simp
  have hf : ∀ i, i ≠ gr → (((((((((w2.setCell ⟨gr, 0, none⟩ (.int .i64 0)).setCell ⟨gr, 1, none⟩ (.int .i64 0)).setCell ⟨gr, 2, none⟩ (.int .i64 0)).setCell ⟨gr, 3, none⟩ (.int .i64 0)).setCell ⟨gr, 4, none⟩ (.int .i64 0)).setCell ⟨gr, 5, none⟩ (.int .i64 0)).setCell ⟨gr, 6, none⟩ (.slice none 0 0)).setCell ⟨gr, 7, none⟩ (.slice none 0 0))).heap[i]? = w2.heap[i]? := fun i hi => parcel_Take.far8 w2 gr (.int .i64 0) (.int .i64 0) (.int .i64 0) (.int .i64 0) (.int .i64 0) (.int .i64 0) (.slice none 0 0) (.slice none 0 0) i hi
  have BR3 := am_ (show (((((((((w2.setCell ⟨gr, 0, none⟩ (.int .i64 0)).setCell ⟨gr, 1, none⟩ (.int .i64 0)).setCell ⟨gr, 2, none⟩ (.int .i64 0)).setCell ⟨gr, 3, none⟩ (.int .i64 0)).setCell ⟨gr, 4, none⟩ (.int .i64 0)).setCell ⟨gr, 5, none⟩ (.int .i64 0)).setCell ⟨gr, 6, none⟩ (.slice none 0 0)).setCell ⟨gr, 7, none⟩ (.slice none 0 0))).heap[gr]? = some (.cells #[.int .i64 0, .int .i64 0, .int .i64 0, .int .i64 0, .int .i64 0, .int .i64 0, .slice none 0 0, .slice none 0 0] 37 (0, 0)) from blk_put (blk_put (blk_put (blk_put (blk_put (blk_put (blk_put (blk_put (BR2.out) 0 _ rfl) 1 _ rfl) 2 _ rfl) 3 _ rfl) 4 _ rfl) 5 _ rfl) 6 _ rfl) 7 _ rfl)
  have HB3 := am_ (show Below w.heap.size w (((((((((w2.setCell ⟨gr, 0, none⟩ (.int .i64 0)).setCell ⟨gr, 1, none⟩ (.int .i64 0)).setCell ⟨gr, 2, none⟩ (.int .i64 0)).setCell ⟨gr, 3, none⟩ (.int .i64 0)).setCell ⟨gr, 4, none⟩ (.int .i64 0)).setCell ⟨gr, 5, none⟩ (.int .i64 0)).setCell ⟨gr, 6, none⟩ (.slice none 0 0)).setCell ⟨gr, 7, none⟩ (.slice none 0 0))) from bs_ (bs_ (bs_ (bs_ (bs_ (bs_ (bs_ (bs_ (HB2.out) Ggr.out) Ggr.out) Ggr.out) Ggr.out) Ggr.out) Ggr.out) Ggr.out) Ggr.out)
  have BT3 := am_ ((hf gt (Ne.symm Nrt.out)).trans BT2.out)
  clear hf
  refine hK.out _ _ BT3.out (fun hHeld => ?_)
  clear hK K
  generalize ((((((((w2.setCell ⟨gr, 0, none⟩ (.int .i64 0)).setCell ⟨gr, 1, none⟩ (.int .i64 0)).setCell ⟨gr, 2, none⟩ (.int .i64 0)).setCell ⟨gr, 3, none⟩ (.int .i64 0)).setCell ⟨gr, 4, none⟩ (.int .i64 0)).setCell ⟨gr, 5, none⟩ (.int .i64 0)).setCell ⟨gr, 6, none⟩ (.slice none 0 0)).setCell ⟨gr, 7, none⟩ (.slice none 0 0)) = w3 at BR3 HB3 BT3 hHeld ⊢
  refine pA 6 (some 3) #[o1,o1,o1,o1,o1,o1,o1] HT_ ?_
  refine dA HT_ ?_
  go_wp2
  refine bodyPost_ret (results_ct rfl _ _ gr 37 #[.int .i64 0, .int .i64 0, .int .i64 0, .int .i64 0, .int .i64 0, .int .i64 0, .slice none 0 0, .slice none 0 0] (0, 0) _ rfl BR3.out Tryd.underlying37 rfl (by kernel_rfl)) rfl ?_
  exact ⟨_, _, rfl, Kd.V_nil _ _ _ _ _, Kd.S_nil _ _ _ _ _, HB3.out⟩
 rw [if_neg ha] at hfin
 have b1 := decide_eq_false ha
 clear ha
 obtain ⟨c, hc, hfin⟩ := Option.bind_eq_some_iff.mp hfin
 have HCC := am_ hc
 clear hc
 have p0_ : wc.cell? ⟨gp, 0, none⟩ = some (.int .i64 (wrap64 x0)) := (kc_ BP0.out 0).trans rfl
 have p1_ : wc.cell? ⟨gp, 1, none⟩ = some (.int .i64 p1) := (kc_ BP0.out 1).trans rfl
 have p2_ : wc.cell? ⟨gp, 2, none⟩ = some (.int .i64 p2) := (kc_ BP0.out 2).trans rfl
 have p3_ : wc.cell? ⟨gp, 3, none⟩ = some (.int .i64 p3) := (kc_ BP0.out 3).trans rfl
 have p4_ : wc.cell? ⟨gp, 4, none⟩ = some (.int .i64 p4) := (kc_ BP0.out 4).trans rfl
 have p5_ : wc.cell? ⟨gp, 5, none⟩ = some (.int .i64 p5) := (kc_ BP0.out 5).trans rfl
 have p6_ : wc.cell? ⟨gp, 6, none⟩ = some (.slice As sp.length cs_) := (kc_ BP0.out 6).trans rfl
 have p7_ : wc.cell? ⟨gp, 7, none⟩ = some (.slice Ai it.length ci) := (kc_ BP0.out 7).trans rfl
 by_cases hc : c = 0
 case neg =>
  rw [if_neg hc] at hfin
  simp only [Option.some.injEq, Prod.mk.injEq] at hfin
  obtain ⟨rfl, rfl, rfl, rfl, rfl, rfl, rfl, rfl, rfl⟩ := hfin
  have b3 : (c != 0) = true := bne_iff_ne.mpr hc
  clear hc
  go_wp2_with (first | ((with_reducible refine gate_callee (f := 35) rfl ?_); refine gL (some 101) Tryd.func35 #[.agg #[.int .i64 (wrap64 x0), .int .i64 p1, .int .i64 p2, .int .i64 p3, .int .i64 p4, .int .i64 p5, .slice As sp.length cs_, .slice Ai it.length ci]] ?_; (refine (parcel_Check.calls k (wrap64 x0) p1 p2 p3 p4 p5 _ _ sp _ _ it c _ ?s1 ?s2 ?s3 ?s4 HCC.out).mono ?_); (case s1 => exact (Kd.V_reads' HV0.out).2.2); (case s2 => exact (Kd.V_reads' HV0.out).2.1); (case s3 => exact (Kd.S_reads' HI0.out).2.2); (case s4 => exact (Kd.S_reads' HI0.out).2.1); rintro x w1 ⟨rfl, hb⟩; refine ⟨_, rfl, ?_⟩; have HB1 := am_ (below_step HB0.out hb); have BR1 := am_ (blk_below BR0.out hb); have BP1 := am_ (blk_below BP0.out hb); have BT1 := am_ (blk_below BT0.out hb); have HV1 := am_ (Kd.V_below HV0.out hb); have HI1 := am_ (Kd.S_below HI0.out hb); have hzt1_2 : w1.cell? ⟨gt, 2, none⟩ = some (.int .i64 0) := (kc_ BT1.out 2).trans rfl; have fzt1_2 := kf_ BT1.out 2; clear hb) | ((with_reducible refine gate_store (t := 28) (p := 103) (v := .tmp 101) rfl ?_); refine sE 28 103 (.tmp 101) (w1.setCell ⟨gt, 2, none⟩ (.int .i64 c)) ?_; intro w2 hw; have hf : ∀ i, i ≠ gt → w2.heap[i]? = w1.heap[i]? := fun i hi => (by rw [hw]; exact parcel_taker_item.far1 _ gt _ _ i hi); have BT2 := am_ (show w2.heap[gt]? = some (.cells #[.slice (some ad) l0.length c0, .int .i64 at1, .int .i64 c] 118 (0, 0)) by (rw [hw]; exact blk_put BT1.out 2 _ rfl)); have HB2 := am_ (show Below w.heap.size w w2 by (rw [hw]; exact bs_ HB1.out Ggt.out)); have BR2 := am_ ((hf gr Nrt.out).trans BR1.out); have BP2 := am_ ((hf gp Npt.out).trans BP1.out); have HV2 := am_ (Kd.V_step HV1.out (fun k_ hk_ _ => hf k_ hk_.1.2.1)); have HI2 := am_ (parcel_Take.S_farT HI1.out BT1.out (parcel_Take.ne_it 118 (by decide) (by decide)) hf); have hzt2_2 : w2.cell? ⟨gt, 2, none⟩ = some (.int .i64 c) := (kc_ BT2.out 2).trans rfl; clear hw hf))
  refine start_ (n := 7) (S := fun w' => w'.heap[gt]? = some (.cells #[.slice (some ad) l0.length c0, .int .i64 at1, .int .i64 c] 118 (0, 0))) (ds := []) #[false, false, false, false, false, false, false] (by kernel_rfl) rfl rfl (kd_ BT2.out) (fun hHeld => ?_)
  refine with_tabW parcel_Take.tab24 parcel_Take.bits24 (fun HT_ HW_ => ?_)
  have HB3 := am_ (bd_ HB2.out)
  have BR3 := am_ (kd_ BR2.out)
  have BT3 := am_ (kd_ BT2.out)
  generalize w2.drew = w3 at HB3 BR3 BT3 hHeld ⊢
  refine pA 0 (some 109) #[o1,o0,o0,o0,o0,o0,o0] HT_ ?_
  refine pA 1 (some 110) #[o1,o1,o0,o0,o0,o0,o0] HT_ ?_
  refine pA 2 (some 111) #[o1,o1,o1,o0,o0,o0,o0] HT_ ?_
  refine pA 3 (some 112) #[o1,o1,o1,o1,o0,o0,o0] HT_ ?_
  refine tA (v := ?_) 4 (some 113) #[o1,o1,o1,o1,o1,o0,o0] HT_ HW_ hHeld ?_ ?_
  rotate_left
  ·
   rintro w' s0
   have q_ := (kc_ s0 2).trans rfl
   go_simp
   with_reducible rfl
  have hzz_0 : w3.cell? ⟨gr, 0, none⟩ = some (.int .i64 0) := (kc_ BR3.out 0).trans rfl
  have hzz_1 : w3.cell? ⟨gr, 1, none⟩ = some (.int .i64 0) := (kc_ BR3.out 1).trans rfl
  have hzz_2 : w3.cell? ⟨gr, 2, none⟩ = some (.int .i64 0) := (kc_ BR3.out 2).trans rfl
  have hzz_3 : w3.cell? ⟨gr, 3, none⟩ = some (.int .i64 0) := (kc_ BR3.out 3).trans rfl
  have hzz_4 : w3.cell? ⟨gr, 4, none⟩ = some (.int .i64 0) := (kc_ BR3.out 4).trans rfl
  have hzz_5 : w3.cell? ⟨gr, 5, none⟩ = some (.int .i64 0) := (kc_ BR3.out 5).trans rfl
  have hzz_6 : w3.cell? ⟨gr, 6, none⟩ = some (.slice none 0 0) := (kc_ BR3.out 6).trans rfl
  have hzz_7 : w3.cell? ⟨gr, 7, none⟩ = some (.slice none 0 0) := (kc_ BR3.out 7).trans rfl
  have fzz_0 := kf_ BR3.out 0
  have fzz_1 := kf_ BR3.out 1
  have fzz_2 := kf_ BR3.out 2
  have fzz_3 := kf_ BR3.out 3
  have fzz_4 := kf_ BR3.out 4
  have fzz_5 := kf_ BR3.out 5
  have fzz_6 := kf_ BR3.out 6
  have fzz_7 := kf_ BR3.out 7
  refine nO 5 none #[o1,o1,o1,o1,o1,o1,o0] HT_ (fun K hK => ?_)
  refine skip_ (w1 := ((((((((w3.setCell ⟨gr, 0, none⟩ (.int .i64 0)).setCell ⟨gr, 1, none⟩ (.int .i64 0)).setCell ⟨gr, 2, none⟩ (.int .i64 0)).setCell ⟨gr, 3, none⟩ (.int .i64 0)).setCell ⟨gr, 4, none⟩ (.int .i64 0)).setCell ⟨gr, 5, none⟩ (.int .i64 0)).setCell ⟨gr, 6, none⟩ (.slice none 0 0)).setCell ⟨gr, 7, none⟩ (.slice none 0 0))) (by rfl) rfl ?_ ?_
  ·
   go_simp
  have hf : ∀ i, i ≠ gr → (((((((((w3.setCell ⟨gr, 0, none⟩ (.int .i64 0)).setCell ⟨gr, 1, none⟩ (.int .i64 0)).setCell ⟨gr, 2, none⟩ (.int .i64 0)).setCell ⟨gr, 3, none⟩ (.int .i64 0)).setCell ⟨gr, 4, none⟩ (.int .i64 0)).setCell ⟨gr, 5, none⟩ (.int .i64 0)).setCell ⟨gr, 6, none⟩ (.slice none 0 0)).setCell ⟨gr, 7, none⟩ (.slice none 0 0))).heap[i]? = w3.heap[i]? := fun i hi => parcel_Take.far8 w3 gr (.int .i64 0) (.int .i64 0) (.int .i64 0) (.int .i64 0) (.int .i64 0) (.int .i64 0) (.slice none 0 0) (.slice none 0 0) i hi
  have BR4 := am_ (show (((((((((w3.setCell ⟨gr, 0, none⟩ (.int .i64 0)).setCell ⟨gr, 1, none⟩ (.int .i64 0)).setCell ⟨gr, 2, none⟩ (.int .i64 0)).setCell ⟨gr, 3, none⟩ (.int .i64 0)).setCell ⟨gr, 4, none⟩ (.int .i64 0)).setCell ⟨gr, 5, none⟩ (.int .i64 0)).setCell ⟨gr, 6, none⟩ (.slice none 0 0)).setCell ⟨gr, 7, none⟩ (.slice none 0 0))).heap[gr]? = some (.cells #[.int .i64 0, .int .i64 0, .int .i64 0, .int .i64 0, .int .i64 0, .int .i64 0, .slice none 0 0, .slice none 0 0] 37 (0, 0)) from blk_put (blk_put (blk_put (blk_put (blk_put (blk_put (blk_put (blk_put (BR3.out) 0 _ rfl) 1 _ rfl) 2 _ rfl) 3 _ rfl) 4 _ rfl) 5 _ rfl) 6 _ rfl) 7 _ rfl)
  have HB4 := am_ (show Below w.heap.size w (((((((((w3.setCell ⟨gr, 0, none⟩ (.int .i64 0)).setCell ⟨gr, 1, none⟩ (.int .i64 0)).setCell ⟨gr, 2, none⟩ (.int .i64 0)).setCell ⟨gr, 3, none⟩ (.int .i64 0)).setCell ⟨gr, 4, none⟩ (.int .i64 0)).setCell ⟨gr, 5, none⟩ (.int .i64 0)).setCell ⟨gr, 6, none⟩ (.slice none 0 0)).setCell ⟨gr, 7, none⟩ (.slice none 0 0))) from bs_ (bs_ (bs_ (bs_ (bs_ (bs_ (bs_ (bs_ (HB3.out) Ggr.out) Ggr.out) Ggr.out) Ggr.out) Ggr.out) Ggr.out) Ggr.out) Ggr.out)
  have BT4 := am_ ((hf gt (Ne.symm Nrt.out)).trans BT3.out)
  clear hf
  refine hK.out _ _ BT4.out (fun hHeld => ?_)
  clear hK K
  generalize ((((((((w3.setCell ⟨gr, 0, none⟩ (.int .i64 0)).setCell ⟨gr, 1, none⟩ (.int .i64 0)).setCell ⟨gr, 2, none⟩ (.int .i64 0)).setCell ⟨gr, 3, none⟩ (.int .i64 0)).setCell ⟨gr, 4, none⟩ (.int .i64 0)).setCell ⟨gr, 5, none⟩ (.int .i64 0)).setCell ⟨gr, 6, none⟩ (.slice none 0 0)).setCell ⟨gr, 7, none⟩ (.slice none 0 0)) = w4 at BR4 HB4 BT4 hHeld ⊢
  refine pA 6 (some 3) #[o1,o1,o1,o1,o1,o1,o1] HT_ ?_
  refine dA HT_ ?_
  go_wp2
  refine bodyPost_ret (results_ct rfl _ _ gr 37 #[.int .i64 0, .int .i64 0, .int .i64 0, .int .i64 0, .int .i64 0, .int .i64 0, .slice none 0 0, .slice none 0 0] (0, 0) _ rfl BR4.out Tryd.underlying37 rfl (by kernel_rfl)) rfl ?_
  exact ⟨_, _, rfl, Kd.V_nil _ _ _ _ _, Kd.S_nil _ _ _ _ _, HB4.out⟩
 rw [if_pos hc] at hfin
 subst hc
 simp only [Option.some.injEq, Prod.mk.injEq] at hfin
 obtain ⟨rfl, rfl, rfl, rfl, rfl, rfl, rfl, rfl, rfl⟩ := hfin
 go_wp2_with (first | ((with_reducible refine gate_callee (f := 35) rfl ?_); refine gL (some 101) Tryd.func35 #[.agg #[.int .i64 (wrap64 x0), .int .i64 p1, .int .i64 p2, .int .i64 p3, .int .i64 p4, .int .i64 p5, .slice As sp.length cs_, .slice Ai it.length ci]] ?_; (refine (parcel_Check.calls k (wrap64 x0) p1 p2 p3 p4 p5 _ _ sp _ _ it 0 _ ?s1 ?s2 ?s3 ?s4 HCC.out).mono ?_); (case s1 => exact (Kd.V_reads' HV0.out).2.2); (case s2 => exact (Kd.V_reads' HV0.out).2.1); (case s3 => exact (Kd.S_reads' HI0.out).2.2); (case s4 => exact (Kd.S_reads' HI0.out).2.1); rintro x w1 ⟨rfl, hb⟩; refine ⟨_, rfl, ?_⟩; have HB1 := am_ (below_step HB0.out hb); have BR1 := am_ (blk_below BR0.out hb); have BP1 := am_ (blk_below BP0.out hb); have BT1 := am_ (blk_below BT0.out hb); have HV1 := am_ (Kd.V_below HV0.out hb); have HI1 := am_ (Kd.S_below HI0.out hb); have hzt1_2 : w1.cell? ⟨gt, 2, none⟩ = some (.int .i64 0) := (kc_ BT1.out 2).trans rfl; have fzt1_2 := kf_ BT1.out 2; clear hb) | ((with_reducible refine gate_store (t := 28) (p := 103) (v := .tmp 101) rfl ?_); refine sE 28 103 (.tmp 101) (w1.setCell ⟨gt, 2, none⟩ (.int .i64 0)) ?_; intro w2 hw; have hf : ∀ i, i ≠ gt → w2.heap[i]? = w1.heap[i]? := fun i hi => (by rw [hw]; exact parcel_taker_item.far1 _ gt _ _ i hi); have BT2 := am_ (show w2.heap[gt]? = some (.cells #[.slice (some ad) l0.length c0, .int .i64 at1, .int .i64 0] 118 (0, 0)) by (rw [hw]; exact blk_put BT1.out 2 _ rfl)); have HB2 := am_ (show Below w.heap.size w w2 by (rw [hw]; exact bs_ HB1.out Ggt.out)); have BR2 := am_ ((hf gr Nrt.out).trans BR1.out); have BP2 := am_ ((hf gp Npt.out).trans BP1.out); have HV2 := am_ (Kd.V_step HV1.out (fun k_ hk_ _ => hf k_ hk_.1.2.1)); have HI2 := am_ (parcel_Take.S_farT HI1.out BT1.out (parcel_Take.ne_it 118 (by decide) (by decide)) hf); have hzt2_2 : w2.cell? ⟨gt, 2, none⟩ = some (.int .i64 0) := (kc_ BT2.out 2).trans rfl; have hzp2_0 : w2.cell? ⟨gp, 0, none⟩ = some (.int .i64 (wrap64 x0)) := (kc_ BP2.out 0).trans rfl; have hzp2_1 : w2.cell? ⟨gp, 1, none⟩ = some (.int .i64 p1) := (kc_ BP2.out 1).trans rfl; have hzp2_2 : w2.cell? ⟨gp, 2, none⟩ = some (.int .i64 p2) := (kc_ BP2.out 2).trans rfl; have hzp2_3 : w2.cell? ⟨gp, 3, none⟩ = some (.int .i64 p3) := (kc_ BP2.out 3).trans rfl; have hzp2_4 : w2.cell? ⟨gp, 4, none⟩ = some (.int .i64 p4) := (kc_ BP2.out 4).trans rfl; have hzp2_5 : w2.cell? ⟨gp, 5, none⟩ = some (.int .i64 p5) := (kc_ BP2.out 5).trans rfl; have hzp2_6 : w2.cell? ⟨gp, 6, none⟩ = some (.slice As sp.length cs_) := (kc_ BP2.out 6).trans rfl; have hzp2_7 : w2.cell? ⟨gp, 7, none⟩ = some (.slice Ai it.length ci) := (kc_ BP2.out 7).trans rfl; have hzz2_0 : w2.cell? ⟨gr, 0, none⟩ = some (.int .i64 0) := (kc_ BR2.out 0).trans rfl; have hzz2_1 : w2.cell? ⟨gr, 1, none⟩ = some (.int .i64 0) := (kc_ BR2.out 1).trans rfl; have hzz2_2 : w2.cell? ⟨gr, 2, none⟩ = some (.int .i64 0) := (kc_ BR2.out 2).trans rfl; have hzz2_3 : w2.cell? ⟨gr, 3, none⟩ = some (.int .i64 0) := (kc_ BR2.out 3).trans rfl; have hzz2_4 : w2.cell? ⟨gr, 4, none⟩ = some (.int .i64 0) := (kc_ BR2.out 4).trans rfl; have hzz2_5 : w2.cell? ⟨gr, 5, none⟩ = some (.int .i64 0) := (kc_ BR2.out 5).trans rfl; have hzz2_6 : w2.cell? ⟨gr, 6, none⟩ = some (.slice none 0 0) := (kc_ BR2.out 6).trans rfl; have hzz2_7 : w2.cell? ⟨gr, 7, none⟩ = some (.slice none 0 0) := (kc_ BR2.out 7).trans rfl; have fzz2_0 := kf_ BR2.out 0; have fzz2_1 := kf_ BR2.out 1; have fzz2_2 := kf_ BR2.out 2; have fzz2_3 := kf_ BR2.out 3; have fzz2_4 := kf_ BR2.out 4; have fzz2_5 := kf_ BR2.out 5; have fzz2_6 := kf_ BR2.out 6; have fzz2_7 := kf_ BR2.out 7; clear hw hf) | ((with_reducible refine gate_store (t := 37) (p := 2) (v := .tmp 114) rfl ?_); refine sE 37 2 (.tmp 114) (sets gr w2 0 [.int .i64 (wrap64 x0), .int .i64 p1, .int .i64 p2, .int .i64 p3, .int .i64 p4, .int .i64 p5, .slice As sp.length cs_, .slice Ai it.length ci]) ?_; intro w3 hw; have hf : ∀ i, i ≠ gr → w3.heap[i]? = w2.heap[i]? := fun i hi => (by rw [hw]; exact parcel_Take.far8 w2 gr (.int .i64 (wrap64 x0)) (.int .i64 p1) (.int .i64 p2) (.int .i64 p3) (.int .i64 p4) (.int .i64 p5) (.slice As sp.length cs_) (.slice Ai it.length ci) i hi); have BR3 := am_ (show w3.heap[gr]? = some (.cells #[.int .i64 (wrap64 x0), .int .i64 p1, .int .i64 p2, .int .i64 p3, .int .i64 p4, .int .i64 p5, .slice As sp.length cs_, .slice Ai it.length ci] 37 (0, 0)) by (rw [hw]; exact blk_put (blk_put (blk_put (blk_put (blk_put (blk_put (blk_put (blk_put (BR2.out) 0 _ rfl) 1 _ rfl) 2 _ rfl) 3 _ rfl) 4 _ rfl) 5 _ rfl) 6 _ rfl) 7 _ rfl)); have HB3 := am_ (show Below w.heap.size w w3 by (rw [hw]; exact bs_ (bs_ (bs_ (bs_ (bs_ (bs_ (bs_ (bs_ (HB2.out) Ggr.out) Ggr.out) Ggr.out) Ggr.out) Ggr.out) Ggr.out) Ggr.out) Ggr.out)); have BP3 := am_ ((hf gp (Ne.symm Nrp.out)).trans BP2.out); have HV3 := am_ (Kd.V_step HV2.out (fun k_ hk_ _ => hf k_ hk_.1.2.2)); have HI3 := am_ (parcel_Take.S_farT HI2.out BR2.out (parcel_Take.ne_it 37 (by decide) (by decide)) hf); clear hw hf))
 refine bodyPost_ret (results_ct rfl _ _ gr 37 #[.int .i64 (wrap64 x0), .int .i64 p1, .int .i64 p2, .int .i64 p3, .int .i64 p4, .int .i64 p5, .slice As sp.length cs_, .slice Ai it.length ci] (0, 0) _ rfl BR3.out Tryd.underlying37 rfl (by kernel_rfl)) rfl ?_
 exact ⟨_, _, rfl, Kd.V_mono HV3.out (fun k_ hk_ => ⟨⟨trivial, fun e_ => by have := HN0.out k_ e_.symm; omega⟩, hk_.2.1, trivial⟩), HI3.out, HB3.out⟩
end Go.Proofs.YtoandmnefgimoaaDoor.PL
