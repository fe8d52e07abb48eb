import Derived.Test.YtoandmnefgimoaaDoorLBPLx0
import Derived.Test.YtoandmnefgimoaaDoorLBPLx12
import Derived.Test.YtoandmnefgimoaaDoorLBPLx14
import Derived.Test.YtoandmnefgimoaaDoorLBPLx19
namespace Go.Proofs.YtoandmnefgimoaaDoor.PL
open Go.RowKit Go.Proofs.YtoandmnefgimoaaDoorW.PrintWords Go.Proofs.YtoandmnefgimoaaDoorW.PrintLast Go.Proofs.YtoandmnefgimoaaDoorW.PrintMore
set_option linter.unusedVariables false
set_option linter.unusedSimpArgs false
theorem far1L (w : World) (g j : Nat) (u : Value) (i : Nat) (h : i ≠ g) : (w.setCell ⟨g, j, none⟩ u).heap[i]? = w.heap[i]? := Below.heap_setCell w ⟨g, j, none⟩ u i h
theorem putO3_0_3 {W : World} {g t : Nat} {c0 c1 c2 : Value} (h : W.heap[g]? = some (.cells #[c0, c1, c2] t (0, 0))) (d0 d1 d2 : Value) : (((W.setCell ⟨g, 0, none⟩ d0).setCell ⟨g, 1, none⟩ d1).setCell ⟨g, 2, none⟩ d2).heap[g]? = some (.cells #[d0, d1, d2] t (0, 0)) := by
 have h0 : (W.setCell ⟨g, 0, none⟩ d0).heap[g]? = some (.cells #[d0, c1, c2] t (0, 0)) := blk_put h 0 _ rfl
 have h1 : ((W.setCell ⟨g, 0, none⟩ d0).setCell ⟨g, 1, none⟩ d1).heap[g]? = some (.cells #[d0, d1, c2] t (0, 0)) := blk_put h0 1 _ rfl
 exact blk_put h1 2 _ rfl
theorem putO12_0_12 {W : World} {g t : Nat} {c0 c1 c2 c3 c4 c5 c6 c7 c8 c9 c10 c11 : Value} (h : W.heap[g]? = some (.cells #[c0, c1, c2, c3, c4, c5, c6, c7, c8, c9, c10, c11] t (0, 0))) (d0 d1 d2 d3 d4 d5 d6 d7 d8 d9 d10 d11 : Value) : ((((((((((((W.setCell ⟨g, 0, none⟩ d0).setCell ⟨g, 1, none⟩ d1).setCell ⟨g, 2, none⟩ d2).setCell ⟨g, 3, none⟩ d3).setCell ⟨g, 4, none⟩ d4).setCell ⟨g, 5, none⟩ d5).setCell ⟨g, 6, none⟩ d6).setCell ⟨g, 7, none⟩ d7).setCell ⟨g, 8, none⟩ d8).setCell ⟨g, 9, none⟩ d9).setCell ⟨g, 10, none⟩ d10).setCell ⟨g, 11, none⟩ d11).heap[g]? = some (.cells #[d0, d1, d2, d3, d4, d5, d6, d7, d8, d9, d10, d11] t (0, 0)) := by
 have h0 : (W.setCell ⟨g, 0, none⟩ d0).heap[g]? = some (.cells #[d0, c1, c2, c3, c4, c5, c6, c7, c8, c9, c10, c11] t (0, 0)) := blk_put h 0 _ rfl
 have h1 : ((W.setCell ⟨g, 0, none⟩ d0).setCell ⟨g, 1, none⟩ d1).heap[g]? = some (.cells #[d0, d1, c2, c3, c4, c5, c6, c7, c8, c9, c10, c11] t (0, 0)) := blk_put h0 1 _ rfl
 have h2 : (((W.setCell ⟨g, 0, none⟩ d0).setCell ⟨g, 1, none⟩ d1).setCell ⟨g, 2, none⟩ d2).heap[g]? = some (.cells #[d0, d1, d2, c3, c4, c5, c6, c7, c8, c9, c10, c11] t (0, 0)) := blk_put h1 2 _ rfl
 have h3 : ((((W.setCell ⟨g, 0, none⟩ d0).setCell ⟨g, 1, none⟩ d1).setCell ⟨g, 2, none⟩ d2).setCell ⟨g, 3, none⟩ d3).heap[g]? = some (.cells #[d0, d1, d2, d3, c4, c5, c6, c7, c8, c9, c10, c11] t (0, 0)) := blk_put h2 3 _ rfl
 have h4 : (((((W.setCell ⟨g, 0, none⟩ d0).setCell ⟨g, 1, none⟩ d1).setCell ⟨g, 2, none⟩ d2).setCell ⟨g, 3, none⟩ d3).setCell ⟨g, 4, none⟩ d4).heap[g]? = some (.cells #[d0, d1, d2, d3, d4, c5, c6, c7, c8, c9, c10, c11] t (0, 0)) := blk_put h3 4 _ rfl
 have h5 : ((((((W.setCell ⟨g, 0, none⟩ d0).setCell ⟨g, 1, none⟩ d1).setCell ⟨g, 2, none⟩ d2).setCell ⟨g, 3, none⟩ d3).setCell ⟨g, 4, none⟩ d4).setCell ⟨g, 5, none⟩ d5).heap[g]? = some (.cells #[d0, d1, d2, d3, d4, d5, c6, c7, c8, c9, c10, c11] t (0, 0)) := blk_put h4 5 _ rfl
 have h6 : (((((((W.setCell ⟨g, 0, none⟩ d0).setCell ⟨g, 1, none⟩ d1).setCell ⟨g, 2, none⟩ d2).setCell ⟨g, 3, none⟩ d3).setCell ⟨g, 4, none⟩ d4).setCell ⟨g, 5, none⟩ d5).setCell ⟨g, 6, none⟩ d6).heap[g]? = some (.cells #[d0, d1, d2, d3, d4, d5, d6, c7, c8, c9, c10, c11] t (0, 0)) := blk_put h5 6 _ rfl
 have h7 : ((((((((W.setCell ⟨g, 0, none⟩ d0).setCell ⟨g, 1, none⟩ d1).setCell ⟨g, 2, none⟩ d2).setCell ⟨g, 3, none⟩ d3).setCell ⟨g, 4, none⟩ d4).setCell ⟨g, 5, none⟩ d5).setCell ⟨g, 6, none⟩ d6).setCell ⟨g, 7, none⟩ d7).heap[g]? = some (.cells #[d0, d1, d2, d3, d4, d5, d6, d7, c8, c9, c10, c11] t (0, 0)) := blk_put h6 7 _ rfl
 have h8 : (((((((((W.setCell ⟨g, 0, none⟩ d0).setCell ⟨g, 1, none⟩ d1).setCell ⟨g, 2, none⟩ d2).setCell ⟨g, 3, none⟩ d3).setCell ⟨g, 4, none⟩ d4).setCell ⟨g, 5, none⟩ d5).setCell ⟨g, 6, none⟩ d6).setCell ⟨g, 7, none⟩ d7).setCell ⟨g, 8, none⟩ d8).heap[g]? = some (.cells #[d0, d1, d2, d3, d4, d5, d6, d7, d8, c9, c10, c11] t (0, 0)) := blk_put h7 8 _ rfl
 have h9 : ((((((((((W.setCell ⟨g, 0, none⟩ d0).setCell ⟨g, 1, none⟩ d1).setCell ⟨g, 2, none⟩ d2).setCell ⟨g, 3, none⟩ d3).setCell ⟨g, 4, none⟩ d4).setCell ⟨g, 5, none⟩ d5).setCell ⟨g, 6, none⟩ d6).setCell ⟨g, 7, none⟩ d7).setCell ⟨g, 8, none⟩ d8).setCell ⟨g, 9, none⟩ d9).heap[g]? = some (.cells #[d0, d1, d2, d3, d4, d5, d6, d7, d8, d9, c10, c11] t (0, 0)) := blk_put h8 9 _ rfl
 have h10 : (((((((((((W.setCell ⟨g, 0, none⟩ d0).setCell ⟨g, 1, none⟩ d1).setCell ⟨g, 2, none⟩ d2).setCell ⟨g, 3, none⟩ d3).setCell ⟨g, 4, none⟩ d4).setCell ⟨g, 5, none⟩ d5).setCell ⟨g, 6, none⟩ d6).setCell ⟨g, 7, none⟩ d7).setCell ⟨g, 8, none⟩ d8).setCell ⟨g, 9, none⟩ d9).setCell ⟨g, 10, none⟩ d10).heap[g]? = some (.cells #[d0, d1, d2, d3, d4, d5, d6, d7, d8, d9, d10, c11] t (0, 0)) := blk_put h9 10 _ rfl
 exact blk_put h10 11 _ rfl
theorem putO12_4_8 {W : World} {g t : Nat} {c0 c1 c2 c3 c4 c5 c6 c7 c8 c9 c10 c11 : Value} (h : W.heap[g]? = some (.cells #[c0, c1, c2, c3, c4, c5, c6, c7, c8, c9, c10, c11] t (0, 0))) (d0 d1 d2 d3 d4 d5 d6 d7 : Value) : ((((((((W.setCell ⟨g, 4, none⟩ d0).setCell ⟨g, 5, none⟩ d1).setCell ⟨g, 6, none⟩ d2).setCell ⟨g, 7, none⟩ d3).setCell ⟨g, 8, none⟩ d4).setCell ⟨g, 9, none⟩ d5).setCell ⟨g, 10, none⟩ d6).setCell ⟨g, 11, none⟩ d7).heap[g]? = some (.cells #[c0, c1, c2, c3, d0, d1, d2, d3, d4, d5, d6, d7] t (0, 0)) := by
 have h0 : (W.setCell ⟨g, 4, none⟩ d0).heap[g]? = some (.cells #[c0, c1, c2, c3, d0, c5, c6, c7, c8, c9, c10, c11] t (0, 0)) := blk_put h 4 _ rfl
 have h1 : ((W.setCell ⟨g, 4, none⟩ d0).setCell ⟨g, 5, none⟩ d1).heap[g]? = some (.cells #[c0, c1, c2, c3, d0, d1, c6, c7, c8, c9, c10, c11] t (0, 0)) := blk_put h0 5 _ rfl
 have h2 : (((W.setCell ⟨g, 4, none⟩ d0).setCell ⟨g, 5, none⟩ d1).setCell ⟨g, 6, none⟩ d2).heap[g]? = some (.cells #[c0, c1, c2, c3, d0, d1, d2, c7, c8, c9, c10, c11] t (0, 0)) := blk_put h1 6 _ rfl
 have h3 : ((((W.setCell ⟨g, 4, none⟩ d0).setCell ⟨g, 5, none⟩ d1).setCell ⟨g, 6, none⟩ d2).setCell ⟨g, 7, none⟩ d3).heap[g]? = some (.cells #[c0, c1, c2, c3, d0, d1, d2, d3, c8, c9, c10, c11] t (0, 0)) := blk_put h2 7 _ rfl
 have h4 : (((((W.setCell ⟨g, 4, none⟩ d0).setCell ⟨g, 5, none⟩ d1).setCell ⟨g, 6, none⟩ d2).setCell ⟨g, 7, none⟩ d3).setCell ⟨g, 8, none⟩ d4).heap[g]? = some (.cells #[c0, c1, c2, c3, d0, d1, d2, d3, d4, c9, c10, c11] t (0, 0)) := blk_put h3 8 _ rfl
 have h5 : ((((((W.setCell ⟨g, 4, none⟩ d0).setCell ⟨g, 5, none⟩ d1).setCell ⟨g, 6, none⟩ d2).setCell ⟨g, 7, none⟩ d3).setCell ⟨g, 8, none⟩ d4).setCell ⟨g, 9, none⟩ d5).heap[g]? = some (.cells #[c0, c1, c2, c3, d0, d1, d2, d3, d4, d5, c10, c11] t (0, 0)) := blk_put h4 9 _ rfl
 have h6 : (((((((W.setCell ⟨g, 4, none⟩ d0).setCell ⟨g, 5, none⟩ d1).setCell ⟨g, 6, none⟩ d2).setCell ⟨g, 7, none⟩ d3).setCell ⟨g, 8, none⟩ d4).setCell ⟨g, 9, none⟩ d5).setCell ⟨g, 10, none⟩ d6).heap[g]? = some (.cells #[c0, c1, c2, c3, d0, d1, d2, d3, d4, d5, d6, c11] t (0, 0)) := blk_put h5 10 _ rfl
 exact blk_put h6 11 _ rfl
structure OpenR where
 kd : Int
 n0 : Int
 n1 : Int
 n2 : Int
 p1 : Int
 p2 : Int
 p3 : Int
 p4 : Int
 p5 : Int
 p6 : Int
 p7 : List S110
 p8 : List S77
def link_open.most (j : Nat) : Int := if j = 2 then 1099511627776 else 1073741824
def link_open.big (j : Nat) (t : Int) : Bool := decide (t > link_open.most j) || (decide (j ≠ 1) && decide (t = 0))
def link_open.nums (k : Nat) (body : List Int) : List Nat → Int → Bool → Int → Int → Int → Option (Int × Int × Bool × Int × Int × Int)
 | [], at_, big, n0, n1, n2 => some (0, at_, big, n0, n1, n2)
 | j :: js, at_, big, n0, n1, n2 => (octet_TakeUint.f k body at_).bind fun t => if t.2.2 = 0 then link_open.nums k body js t.2.1 (big || link_open.big j t.1) (if j = 0 then wrap64 t.1 else n0) (if j = 1 then wrap64 t.1 else n1) (if j = 2 then wrap64 t.1 else n2) else some (t.2.2, at_, big, n0, n1, n2)
def link_open.fin (k : Nat) (kd : Int) (body : List Int) (at_ n0 n1 n2 : Int) : Option (Int × Option OpenR) :=
 if 0 ≤ at_ ∧ at_ ≤ (body.length : Int) then
  (if kd = 1 then (parcel_Take.f k (body.drop at_.toNat)).bind fun p => if p.2.2.2.2.2.2.2.2 = 0 then some (0, some ⟨kd, n0, n1, n2, p.1, p.2.1, p.2.2.1, p.2.2.2.1, p.2.2.2.2.1, p.2.2.2.2.2.1, p.2.2.2.2.2.2.1, p.2.2.2.2.2.2.2.1⟩) else some (p.2.2.2.2.2.2.2.2, none)
  else if ((body.drop at_.toNat).length : Int) > 0 then some (4, none) else some (0, some ⟨kd, n0, n1, n2, 0, 0, 0, 0, 0, 0, [], []⟩))
 else none
def link_open.F (k : Nat) (l : List Int) : Option (Int × Option OpenR) :=
 (seal_Open.f k l 0).bind fun s => if s.2.2.2.2 = 0 then
  (if s.2.2.2.1 < (l.length : Int) then some (4, none) else if s.1 < 1 then some (12, none) else if s.1 > 3 then some (12, none) else
   (link_open.nums k s.2.2.1 [0, 1, 2] 0 false 0 0 0).bind fun q => if q.1 = 0 then (if q.2.2.1 = true then some (6, none) else link_open.fin k s.1 s.2.2.1 q.2.1 q.2.2.2.1 q.2.2.2.2.1 q.2.2.2.2.2) else some (q.1, none))
  else some (s.2.2.2.2, none)
def OpenOk (W : World) (base : Nat) (R : Option OpenR) (kd n0 n1 n2 p1 p2 p3 p4 p5 p6 : Int) (A7 : Option Addr) (m7 c7 : Nat) (A8 : Option Addr) (m8 c8 : Nat) : Prop :=
 ∀ r, R = some r → (kd = r.kd ∧ n0 = r.n0 ∧ n1 = r.n1 ∧ n2 = r.n2 ∧ p1 = r.p1 ∧ p2 = r.p2 ∧ p3 = r.p3 ∧ p4 = r.p4 ∧ p5 = r.p5 ∧ p6 = r.p6) ∧ m7 = r.p7.length ∧ m8 = r.p8.length ∧
  Kd.V k110 110 W base (fun k => base ≤ k ∧ some k ≠ (Value.slice A8 m8 c8).ownBlock) (.slice A7 m7 c7) r.p7 ∧ Kd.S k77 77 W base (fun _ => True) (.slice A8 m8 c8) r.p8
set_option maxHeartbeats 100000000 in
set_option maxRecDepth 100000 in
theorem link_open.calls (k : Nat) (A0 : Option Addr) (c0 : Nat) (l0 : List Int) (er : Int) (R : Option OpenR) (w : World) (hr0 : Kd.C (Kd.int .u8) w A0 l0.length l0) (hc0 : l0.length ≤ c0) (ht : TabW w) (h : link_open.F k l0 = some (er, R)) :
 Calls Tryd.prog 28 #[.slice A0 l0.length c0] w fun e w' => ∃ kd n0 n1 n2 p1 p2 p3 p4 p5 p6 A7 m7 c7 A8 m8 c8, e = .returned (.tuple #[.agg #[.int .u8 kd, .int .i64 n0, .int .i64 n1, .int .i64 n2, .int .i64 p1, .int .i64 p2, .int .i64 p3, .int .i64 p4, .int .i64 p5, .int .i64 p6, .slice A7 m7 c7, .slice A8 m8 c8], .int .i64 er]) ∧ OpenOk w' w.heap.size R kd n0 n1 n2 p1 p2 p3 p4 p5 p6 A7 m7 c7 A8 m8 c8 ∧ Below w.heap.size w w' := by
 have hu1 := Tryd.underlying85
 have hu2 := Tryd.underlying101
 have hu3 := Tryd.underlying37
 have hu4 := Tryd.underlying83
 have HR0 := am_ hr0
 have HC0 := am_ hc0
 have HT := am_ ht
 unfold link_open.F at h
 obtain ⟨⟨kd, sat, body, nx, se⟩, hs, h⟩ := Option.bind_eq_some_iff.mp h
 dsimp only at h
 have HS := am_ hs
 clear hr0 hc0 ht hs
 by_cases c1 : se = 0
 case neg =>
  rw [if_neg c1] at h
  simp only [Option.some.injEq, Prod.mk.injEq] at h
  obtain ⟨rfl, rfl⟩ := h
  have b1 : (se != 0) = true := bne_iff_ne.mpr c1
  clear c1
  go_enter Tryd.func28, Tryd.ntmps28
  go_wp2_with (first | ((with_reducible refine gd_ (N := 2) rfl ?_); refine bE 2 #[.int .u8 0, .int .i64 0, .int .i64 0, .int .i64 0, .int .i64 0, .int .i64 0, .int .i64 0, .int .i64 0, .int .i64 0, .int .i64 0, .slice none 0 0, .slice none 0 0] 85 ?_; intro go hg w1 hbox hb; have HB1 := am_ hb; have Ggo := am_ (show w.heap.size ≤ go by rw [hg]; exact Nat.le_refl _); have Ego := am_ hg; have BO1 := am_ hbox; clear hb hbox hg) | ((with_reducible refine gd_ (N := 16) rfl ?_); (try (refine gate_guard (by rfl) ?_; dsimp only)); refine gL (some 16) Tryd.func40 #[.slice A0 l0.length c0, .int .i64 0] ?_; refine (seal_Open.calls k A0 c0 l0 0 kd sat body nx se _ (Kd.C_below HR0.out HB1.out) HC0.out (TabW.below HT.out HB1.out) HS.out).mono ?_; rintro e_ w2 ⟨v2, rfl, hr, hb⟩; refine ⟨_, rfl, ?_⟩; obtain ⟨Ab, cb, eb⟩ := Kd.R_slice hr; subst eb; have hcb := (Kd.R_reads' hr).2.1; have HCB := am_ hcb; have hgo := blk_lt BO1.out; have HF2 := am_ (Kd.F_mono (Kd.R_F (Kd.R_bound hr)) (ok' := fun k_ => k_ ≠ go ∧ k_ < w2.heap.size) (fun k_ hk_ => ⟨by have := hk_.2.1; omega, hk_.2.2.1⟩)); have HB2 := am_ (below_step HB1.out hb); have BO2 := am_ (blk_below BO1.out hb); clear hr hb hcb hgo) | ((with_reducible refine gd_ (N := 4) rfl ?_); refine bE 4 #[.int .u8 0, .int .i64 0, .slice none 0 0] 101 ?_; intro gs hg w3 hbox hb; have HB3 := am_ (below_step HB2.out hb); have BO3 := am_ (blk_below BO2.out hb); have HF3 := am_ (Kd.F_step HF2.out (fun k_ hk_ hlt_ => hb.block k_ hlt_)); have Ggs := am_ (show w.heap.size ≤ gs by (rw [hg]; exact bz_ HB2.out)); have Ngo_gs := am_ (show go ≠ gs from fun e_ => absurd (blk_lt BO2.out) (by rw [e_, hg]; exact Nat.lt_irrefl _)); have Egs := am_ hg; have BS3 := am_ hbox; obtain ⟨zBS3_0, zBS3_1, zBS3_2, fBS3_0, fBS3_1, fBS3_2⟩ := cz3 BS3.out; clear hb hbox hg) | ((with_reducible refine gate_store (t := 101) (p := 4) (v := .tmp 17) rfl ?_); refine sE 101 4 (.tmp 17) (sets gs w3 0 [.int .u8 kd, .int .i64 sat, .slice Ab body.length cb]) ?_; intro w4 hw_; have BS4 := am_ (show w4.heap[gs]? = some (.cells #[.int .u8 kd, .int .i64 sat, .slice Ab body.length cb] 101 (0, 0)) by (rw [hw_]; exact putO3_0_3 BS3.out ..)); have hf_ : ∀ i, i ≠ gs → w4.heap[i]? = w3.heap[i]? := fun i hi => (by rw [hw_]; exact sets_far _ _ _ _ _ hi); have HB4 := am_ (show Below w.heap.size w w4 by (rw [hw_]; exact sets_below (HB3.out) Ggs.out)); have BO4 := am_ ((hf_ go Ngo_gs.out).trans BO3.out); have HF4 := am_ (Kd.F_step HF3.out (fun k_ hk_ hlt_ => hf_ k_ (by have := hk_.2; have := Egs.out; omega))); clear hf_; obtain ⟨zBS4_0, zBS4_1, zBS4_2, fBS4_0, fBS4_1, fBS4_2⟩ := cz3 BS4.out; clear hw_; obtain ⟨zBO4_0, zBO4_1, zBO4_2, zBO4_3, zBO4_4, zBO4_5, zBO4_6, zBO4_7, zBO4_8, zBO4_9, zBO4_10, zBO4_11, fBO4_0, fBO4_1, fBO4_2, fBO4_3, fBO4_4, fBO4_5, fBO4_6, fBO4_7, fBO4_8, fBO4_9, fBO4_10, fBO4_11⟩ := cz12 BO4.out) | ((with_reducible refine gate_store (t := 85) (p := 2) (v := .tmp 23) rfl ?_); refine sE 85 2 (.tmp 23) (sets go w4 0 [.int .u8 0, .int .i64 0, .int .i64 0, .int .i64 0, .int .i64 0, .int .i64 0, .int .i64 0, .int .i64 0, .int .i64 0, .int .i64 0, .slice none 0 0, .slice none 0 0]) ?_; intro w5 hw_; have BO5 := am_ (show w5.heap[go]? = some (.cells #[.int .u8 0, .int .i64 0, .int .i64 0, .int .i64 0, .int .i64 0, .int .i64 0, .int .i64 0, .int .i64 0, .int .i64 0, .int .i64 0, .slice none 0 0, .slice none 0 0] 85 (0, 0)) by (rw [hw_]; exact putO12_0_12 BO4.out ..)); have hf_ : ∀ i, i ≠ go → w5.heap[i]? = w4.heap[i]? := fun i hi => (by rw [hw_]; exact sets_far _ _ _ _ _ hi); have HB5 := am_ (show Below w.heap.size w w5 by (rw [hw_]; exact sets_below (HB4.out) Ggo.out)); have HF5 := am_ (Kd.F_step HF4.out (fun k_ hk_ hlt_ => hf_ k_ (hk_.1))); have BS5 := am_ ((hf_ gs (Ne.symm Ngo_gs.out)).trans BS4.out); clear hf_; clear hw_))
  refine bodyPost_ret (results_ct rfl _ _ go 85 #[.int .u8 0, .int .i64 0, .int .i64 0, .int .i64 0, .int .i64 0, .int .i64 0, .int .i64 0, .int .i64 0, .int .i64 0, .int .i64 0, .slice none 0 0, .slice none 0 0] (0, 0) _ rfl BO5.out Tryd.underlying85 rfl (by kernel_rfl)) rfl ?_
  exact ⟨_, _, _, _, _, _, _, _, _, _, _, _, _, _, _, _, rfl, (fun r_ hr_ => by cases hr_), HB5.out⟩
 rw [if_pos c1] at h
 subst c1
 by_cases c2 : nx < (l0.length : Int)
 case pos =>
  rw [if_pos c2] at h
  simp only [Option.some.injEq, Prod.mk.injEq] at h
  obtain ⟨rfl, rfl⟩ := h
  have b2 := decide_eq_true c2
  clear c2
  go_enter Tryd.func28, Tryd.ntmps28
  go_wp2_with (first | ((with_reducible refine gd_ (N := 2) rfl ?_); refine bE 2 #[.int .u8 0, .int .i64 0, .int .i64 0, .int .i64 0, .int .i64 0, .int .i64 0, .int .i64 0, .int .i64 0, .int .i64 0, .int .i64 0, .slice none 0 0, .slice none 0 0] 85 ?_; intro go hg w1 hbox hb; have HB1 := am_ hb; have Ggo := am_ (show w.heap.size ≤ go by rw [hg]; exact Nat.le_refl _); have Ego := am_ hg; have BO1 := am_ hbox; clear hb hbox hg) | ((with_reducible refine gd_ (N := 16) rfl ?_); (try (refine gate_guard (by rfl) ?_; dsimp only)); refine gL (some 16) Tryd.func40 #[.slice A0 l0.length c0, .int .i64 0] ?_; refine (seal_Open.calls k A0 c0 l0 0 kd sat body nx 0 _ (Kd.C_below HR0.out HB1.out) HC0.out (TabW.below HT.out HB1.out) HS.out).mono ?_; rintro e_ w2 ⟨v2, rfl, hr, hb⟩; refine ⟨_, rfl, ?_⟩; obtain ⟨Ab, cb, eb⟩ := Kd.R_slice hr; subst eb; have hcb := (Kd.R_reads' hr).2.1; have HCB := am_ hcb; have hgo := blk_lt BO1.out; have HF2 := am_ (Kd.F_mono (Kd.R_F (Kd.R_bound hr)) (ok' := fun k_ => k_ ≠ go ∧ k_ < w2.heap.size) (fun k_ hk_ => ⟨by have := hk_.2.1; omega, hk_.2.2.1⟩)); have HB2 := am_ (below_step HB1.out hb); have BO2 := am_ (blk_below BO1.out hb); clear hr hb hcb hgo) | ((with_reducible refine gd_ (N := 4) rfl ?_); refine bE 4 #[.int .u8 0, .int .i64 0, .slice none 0 0] 101 ?_; intro gs hg w3 hbox hb; have HB3 := am_ (below_step HB2.out hb); have BO3 := am_ (blk_below BO2.out hb); have HF3 := am_ (Kd.F_step HF2.out (fun k_ hk_ hlt_ => hb.block k_ hlt_)); have Ggs := am_ (show w.heap.size ≤ gs by (rw [hg]; exact bz_ HB2.out)); have Ngo_gs := am_ (show go ≠ gs from fun e_ => absurd (blk_lt BO2.out) (by rw [e_, hg]; exact Nat.lt_irrefl _)); have Egs := am_ hg; have BS3 := am_ hbox; obtain ⟨zBS3_0, zBS3_1, zBS3_2, fBS3_0, fBS3_1, fBS3_2⟩ := cz3 BS3.out; clear hb hbox hg) | ((with_reducible refine gate_store (t := 101) (p := 4) (v := .tmp 17) rfl ?_); refine sE 101 4 (.tmp 17) (sets gs w3 0 [.int .u8 kd, .int .i64 sat, .slice Ab body.length cb]) ?_; intro w4 hw_; have BS4 := am_ (show w4.heap[gs]? = some (.cells #[.int .u8 kd, .int .i64 sat, .slice Ab body.length cb] 101 (0, 0)) by (rw [hw_]; exact putO3_0_3 BS3.out ..)); have hf_ : ∀ i, i ≠ gs → w4.heap[i]? = w3.heap[i]? := fun i hi => (by rw [hw_]; exact sets_far _ _ _ _ _ hi); have HB4 := am_ (show Below w.heap.size w w4 by (rw [hw_]; exact sets_below (HB3.out) Ggs.out)); have BO4 := am_ ((hf_ go Ngo_gs.out).trans BO3.out); have HF4 := am_ (Kd.F_step HF3.out (fun k_ hk_ hlt_ => hf_ k_ (by have := hk_.2; have := Egs.out; omega))); clear hf_; obtain ⟨zBS4_0, zBS4_1, zBS4_2, fBS4_0, fBS4_1, fBS4_2⟩ := cz3 BS4.out; clear hw_; obtain ⟨zBO4_0, zBO4_1, zBO4_2, zBO4_3, zBO4_4, zBO4_5, zBO4_6, zBO4_7, zBO4_8, zBO4_9, zBO4_10, zBO4_11, fBO4_0, fBO4_1, fBO4_2, fBO4_3, fBO4_4, fBO4_5, fBO4_6, fBO4_7, fBO4_8, fBO4_9, fBO4_10, fBO4_11⟩ := cz12 BO4.out) | ((with_reducible refine gate_store (t := 85) (p := 2) (v := .tmp 30) rfl ?_); refine sE 85 2 (.tmp 30) (sets go w4 0 [.int .u8 0, .int .i64 0, .int .i64 0, .int .i64 0, .int .i64 0, .int .i64 0, .int .i64 0, .int .i64 0, .int .i64 0, .int .i64 0, .slice none 0 0, .slice none 0 0]) ?_; intro w5 hw_; have BO5 := am_ (show w5.heap[go]? = some (.cells #[.int .u8 0, .int .i64 0, .int .i64 0, .int .i64 0, .int .i64 0, .int .i64 0, .int .i64 0, .int .i64 0, .int .i64 0, .int .i64 0, .slice none 0 0, .slice none 0 0] 85 (0, 0)) by (rw [hw_]; exact putO12_0_12 BO4.out ..)); have hf_ : ∀ i, i ≠ go → w5.heap[i]? = w4.heap[i]? := fun i hi => (by rw [hw_]; exact sets_far _ _ _ _ _ hi); have HB5 := am_ (show Below w.heap.size w w5 by (rw [hw_]; exact sets_below (HB4.out) Ggo.out)); have HF5 := am_ (Kd.F_step HF4.out (fun k_ hk_ hlt_ => hf_ k_ (hk_.1))); have BS5 := am_ ((hf_ gs (Ne.symm Ngo_gs.out)).trans BS4.out); clear hf_; clear hw_))
  refine bodyPost_ret (results_ct rfl _ _ go 85 #[.int .u8 0, .int .i64 0, .int .i64 0, .int .i64 0, .int .i64 0, .int .i64 0, .int .i64 0, .int .i64 0, .int .i64 0, .int .i64 0, .slice none 0 0, .slice none 0 0] (0, 0) _ rfl BO5.out Tryd.underlying85 rfl (by kernel_rfl)) rfl ?_
  exact ⟨_, _, _, _, _, _, _, _, _, _, _, _, _, _, _, _, rfl, (fun r_ hr_ => by cases hr_), HB5.out⟩
 rw [if_neg c2] at h
 have b2 := decide_eq_false c2
 clear c2
 by_cases c3 : kd < 1
 case pos =>
  rw [if_pos c3] at h
  simp only [Option.some.injEq, Prod.mk.injEq] at h
  obtain ⟨rfl, rfl⟩ := h
  have b3 := decide_eq_true c3
  clear c3
  go_enter Tryd.func28, Tryd.ntmps28
  go_wp2_with (first | ((with_reducible refine gd_ (N := 2) rfl ?_); refine bE 2 #[.int .u8 0, .int .i64 0, .int .i64 0, .int .i64 0, .int .i64 0, .int .i64 0, .int .i64 0, .int .i64 0, .int .i64 0, .int .i64 0, .slice none 0 0, .slice none 0 0] 85 ?_; intro go hg w1 hbox hb; have HB1 := am_ hb; have Ggo := am_ (show w.heap.size ≤ go by rw [hg]; exact Nat.le_refl _); have Ego := am_ hg; have BO1 := am_ hbox; clear hb hbox hg) | ((with_reducible refine gd_ (N := 16) rfl ?_); (try (refine gate_guard (by rfl) ?_; dsimp only)); refine gL (some 16) Tryd.func40 #[.slice A0 l0.length c0, .int .i64 0] ?_; refine (seal_Open.calls k A0 c0 l0 0 kd sat body nx 0 _ (Kd.C_below HR0.out HB1.out) HC0.out (TabW.below HT.out HB1.out) HS.out).mono ?_; rintro e_ w2 ⟨v2, rfl, hr, hb⟩; refine ⟨_, rfl, ?_⟩; obtain ⟨Ab, cb, eb⟩ := Kd.R_slice hr; subst eb; have hcb := (Kd.R_reads' hr).2.1; have HCB := am_ hcb; have hgo := blk_lt BO1.out; have HF2 := am_ (Kd.F_mono (Kd.R_F (Kd.R_bound hr)) (ok' := fun k_ => k_ ≠ go ∧ k_ < w2.heap.size) (fun k_ hk_ => ⟨by have := hk_.2.1; omega, hk_.2.2.1⟩)); have HB2 := am_ (below_step HB1.out hb); have BO2 := am_ (blk_below BO1.out hb); clear hr hb hcb hgo) | ((with_reducible refine gd_ (N := 4) rfl ?_); refine bE 4 #[.int .u8 0, .int .i64 0, .slice none 0 0] 101 ?_; intro gs hg w3 hbox hb; have HB3 := am_ (below_step HB2.out hb); have BO3 := am_ (blk_below BO2.out hb); have HF3 := am_ (Kd.F_step HF2.out (fun k_ hk_ hlt_ => hb.block k_ hlt_)); have Ggs := am_ (show w.heap.size ≤ gs by (rw [hg]; exact bz_ HB2.out)); have Ngo_gs := am_ (show go ≠ gs from fun e_ => absurd (blk_lt BO2.out) (by rw [e_, hg]; exact Nat.lt_irrefl _)); have Egs := am_ hg; have BS3 := am_ hbox; obtain ⟨zBS3_0, zBS3_1, zBS3_2, fBS3_0, fBS3_1, fBS3_2⟩ := cz3 BS3.out; clear hb hbox hg) | ((with_reducible refine gate_store (t := 101) (p := 4) (v := .tmp 17) rfl ?_); refine sE 101 4 (.tmp 17) (sets gs w3 0 [.int .u8 kd, .int .i64 sat, .slice Ab body.length cb]) ?_; intro w4 hw_; have BS4 := am_ (show w4.heap[gs]? = some (.cells #[.int .u8 kd, .int .i64 sat, .slice Ab body.length cb] 101 (0, 0)) by (rw [hw_]; exact putO3_0_3 BS3.out ..)); have hf_ : ∀ i, i ≠ gs → w4.heap[i]? = w3.heap[i]? := fun i hi => (by rw [hw_]; exact sets_far _ _ _ _ _ hi); have HB4 := am_ (show Below w.heap.size w w4 by (rw [hw_]; exact sets_below (HB3.out) Ggs.out)); have BO4 := am_ ((hf_ go Ngo_gs.out).trans BO3.out); have HF4 := am_ (Kd.F_step HF3.out (fun k_ hk_ hlt_ => hf_ k_ (by have := hk_.2; have := Egs.out; omega))); clear hf_; obtain ⟨zBS4_0, zBS4_1, zBS4_2, fBS4_0, fBS4_1, fBS4_2⟩ := cz3 BS4.out; clear hw_; obtain ⟨zBO4_0, zBO4_1, zBO4_2, zBO4_3, zBO4_4, zBO4_5, zBO4_6, zBO4_7, zBO4_8, zBO4_9, zBO4_10, zBO4_11, fBO4_0, fBO4_1, fBO4_2, fBO4_3, fBO4_4, fBO4_5, fBO4_6, fBO4_7, fBO4_8, fBO4_9, fBO4_10, fBO4_11⟩ := cz12 BO4.out) | ((with_reducible refine gate_store (t := 85) (p := 2) (v := .tmp 40) rfl ?_); refine sE 85 2 (.tmp 40) (sets go w4 0 [.int .u8 0, .int .i64 0, .int .i64 0, .int .i64 0, .int .i64 0, .int .i64 0, .int .i64 0, .int .i64 0, .int .i64 0, .int .i64 0, .slice none 0 0, .slice none 0 0]) ?_; intro w5 hw_; have BO5 := am_ (show w5.heap[go]? = some (.cells #[.int .u8 0, .int .i64 0, .int .i64 0, .int .i64 0, .int .i64 0, .int .i64 0, .int .i64 0, .int .i64 0, .int .i64 0, .int .i64 0, .slice none 0 0, .slice none 0 0] 85 (0, 0)) by (rw [hw_]; exact putO12_0_12 BO4.out ..)); have hf_ : ∀ i, i ≠ go → w5.heap[i]? = w4.heap[i]? := fun i hi => (by rw [hw_]; exact sets_far _ _ _ _ _ hi); have HB5 := am_ (show Below w.heap.size w w5 by (rw [hw_]; exact sets_below (HB4.out) Ggo.out)); have HF5 := am_ (Kd.F_step HF4.out (fun k_ hk_ hlt_ => hf_ k_ (hk_.1))); have BS5 := am_ ((hf_ gs (Ne.symm Ngo_gs.out)).trans BS4.out); clear hf_; clear hw_))
  refine bodyPost_ret (results_ct rfl _ _ go 85 #[.int .u8 0, .int .i64 0, .int .i64 0, .int .i64 0, .int .i64 0, .int .i64 0, .int .i64 0, .int .i64 0, .int .i64 0, .int .i64 0, .slice none 0 0, .slice none 0 0] (0, 0) _ rfl BO5.out Tryd.underlying85 rfl (by kernel_rfl)) rfl ?_
  exact ⟨_, _, _, _, _, _, _, _, _, _, _, _, _, _, _, _, rfl, (fun r_ hr_ => by cases hr_), HB5.out⟩
 rw [if_neg c3] at h
 have b3 := decide_eq_false c3
 clear c3
 by_cases c4 : kd > 3
 case pos =>
  rw [if_pos c4] at h
  simp only [Option.some.injEq, Prod.mk.injEq] at h
  obtain ⟨rfl, rfl⟩ := h
  have b4 := decide_eq_true c4
  clear c4
  go_enter Tryd.func28, Tryd.ntmps28
  go_wp2_with (first | ((with_reducible refine gd_ (N := 2) rfl ?_); refine bE 2 #[.int .u8 0, .int .i64 0, .int .i64 0, .int .i64 0, .int .i64 0, .int .i64 0, .int .i64 0, .int .i64 0, .int .i64 0, .int .i64 0, .slice none 0 0, .slice none 0 0] 85 ?_; intro go hg w1 hbox hb; have HB1 := am_ hb; have Ggo := am_ (show w.heap.size ≤ go by rw [hg]; exact Nat.le_refl _); have Ego := am_ hg; have BO1 := am_ hbox; clear hb hbox hg) | ((with_reducible refine gd_ (N := 16) rfl ?_); (try (refine gate_guard (by rfl) ?_; dsimp only)); refine gL (some 16) Tryd.func40 #[.slice A0 l0.length c0, .int .i64 0] ?_; refine (seal_Open.calls k A0 c0 l0 0 kd sat body nx 0 _ (Kd.C_below HR0.out HB1.out) HC0.out (TabW.below HT.out HB1.out) HS.out).mono ?_; rintro e_ w2 ⟨v2, rfl, hr, hb⟩; refine ⟨_, rfl, ?_⟩; obtain ⟨Ab, cb, eb⟩ := Kd.R_slice hr; subst eb; have hcb := (Kd.R_reads' hr).2.1; have HCB := am_ hcb; have hgo := blk_lt BO1.out; have HF2 := am_ (Kd.F_mono (Kd.R_F (Kd.R_bound hr)) (ok' := fun k_ => k_ ≠ go ∧ k_ < w2.heap.size) (fun k_ hk_ => ⟨by have := hk_.2.1; omega, hk_.2.2.1⟩)); have HB2 := am_ (below_step HB1.out hb); have BO2 := am_ (blk_below BO1.out hb); clear hr hb hcb hgo) | ((with_reducible refine gd_ (N := 4) rfl ?_); refine bE 4 #[.int .u8 0, .int .i64 0, .slice none 0 0] 101 ?_; intro gs hg w3 hbox hb; have HB3 := am_ (below_step HB2.out hb); have BO3 := am_ (blk_below BO2.out hb); have HF3 := am_ (Kd.F_step HF2.out (fun k_ hk_ hlt_ => hb.block k_ hlt_)); have Ggs := am_ (show w.heap.size ≤ gs by (rw [hg]; exact bz_ HB2.out)); have Ngo_gs := am_ (show go ≠ gs from fun e_ => absurd (blk_lt BO2.out) (by rw [e_, hg]; exact Nat.lt_irrefl _)); have Egs := am_ hg; have BS3 := am_ hbox; obtain ⟨zBS3_0, zBS3_1, zBS3_2, fBS3_0, fBS3_1, fBS3_2⟩ := cz3 BS3.out; clear hb hbox hg) | ((with_reducible refine gate_store (t := 101) (p := 4) (v := .tmp 17) rfl ?_); refine sE 101 4 (.tmp 17) (sets gs w3 0 [.int .u8 kd, .int .i64 sat, .slice Ab body.length cb]) ?_; intro w4 hw_; have BS4 := am_ (show w4.heap[gs]? = some (.cells #[.int .u8 kd, .int .i64 sat, .slice Ab body.length cb] 101 (0, 0)) by (rw [hw_]; exact putO3_0_3 BS3.out ..)); have hf_ : ∀ i, i ≠ gs → w4.heap[i]? = w3.heap[i]? := fun i hi => (by rw [hw_]; exact sets_far _ _ _ _ _ hi); have HB4 := am_ (show Below w.heap.size w w4 by (rw [hw_]; exact sets_below (HB3.out) Ggs.out)); have BO4 := am_ ((hf_ go Ngo_gs.out).trans BO3.out); have HF4 := am_ (Kd.F_step HF3.out (fun k_ hk_ hlt_ => hf_ k_ (by have := hk_.2; have := Egs.out; omega))); clear hf_; obtain ⟨zBS4_0, zBS4_1, zBS4_2, fBS4_0, fBS4_1, fBS4_2⟩ := cz3 BS4.out; clear hw_; obtain ⟨zBO4_0, zBO4_1, zBO4_2, zBO4_3, zBO4_4, zBO4_5, zBO4_6, zBO4_7, zBO4_8, zBO4_9, zBO4_10, zBO4_11, fBO4_0, fBO4_1, fBO4_2, fBO4_3, fBO4_4, fBO4_5, fBO4_6, fBO4_7, fBO4_8, fBO4_9, fBO4_10, fBO4_11⟩ := cz12 BO4.out) | ((with_reducible refine gate_store (t := 85) (p := 2) (v := .tmp 40) rfl ?_); refine sE 85 2 (.tmp 40) (sets go w4 0 [.int .u8 0, .int .i64 0, .int .i64 0, .int .i64 0, .int .i64 0, .int .i64 0, .int .i64 0, .int .i64 0, .int .i64 0, .int .i64 0, .slice none 0 0, .slice none 0 0]) ?_; intro w5 hw_; have BO5 := am_ (show w5.heap[go]? = some (.cells #[.int .u8 0, .int .i64 0, .int .i64 0, .int .i64 0, .int .i64 0, .int .i64 0, .int .i64 0, .int .i64 0, .int .i64 0, .int .i64 0, .slice none 0 0, .slice none 0 0] 85 (0, 0)) by (rw [hw_]; exact putO12_0_12 BO4.out ..)); have hf_ : ∀ i, i ≠ go → w5.heap[i]? = w4.heap[i]? := fun i hi => (by rw [hw_]; exact sets_far _ _ _ _ _ hi); have HB5 := am_ (show Below w.heap.size w w5 by (rw [hw_]; exact sets_below (HB4.out) Ggo.out)); have HF5 := am_ (Kd.F_step HF4.out (fun k_ hk_ hlt_ => hf_ k_ (hk_.1))); have BS5 := am_ ((hf_ gs (Ne.symm Ngo_gs.out)).trans BS4.out); clear hf_; clear hw_))
  refine bodyPost_ret (results_ct rfl _ _ go 85 #[.int .u8 0, .int .i64 0, .int .i64 0, .int .i64 0, .int .i64 0, .int .i64 0, .int .i64 0, .int .i64 0, .int .i64 0, .int .i64 0, .slice none 0 0, .slice none 0 0] (0, 0) _ rfl BO5.out Tryd.underlying85 rfl (by kernel_rfl)) rfl ?_
  exact ⟨_, _, _, _, _, _, _, _, _, _, _, _, _, _, _, _, rfl, (fun r_ hr_ => by cases hr_), HB5.out⟩
 rw [if_neg c4] at h
 have b4 := decide_eq_false c4
 obtain ⟨⟨qe, qa, qb, q0, q1, q2⟩, hq, h⟩ := Option.bind_eq_some_iff.mp h
 dsimp only at h
 have HQ := am_ hq
 have HE := am_ h
 clear c4 hq h
 go_enter Tryd.func28, Tryd.ntmps28
 go_wp2_with (first | ((with_reducible refine gd_ (N := 2) rfl ?_); refine bE 2 #[.int .u8 0, .int .i64 0, .int .i64 0, .int .i64 0, .int .i64 0, .int .i64 0, .int .i64 0, .int .i64 0, .int .i64 0, .int .i64 0, .slice none 0 0, .slice none 0 0] 85 ?_; intro go hg w1 hbox hb; have HB1 := am_ hb; have Ggo := am_ (show w.heap.size ≤ go by rw [hg]; exact Nat.le_refl _); have Ego := am_ hg; have BO1 := am_ hbox; clear hb hbox hg) | ((with_reducible refine gd_ (N := 16) rfl ?_); (try (refine gate_guard (by rfl) ?_; dsimp only)); refine gL (some 16) Tryd.func40 #[.slice A0 l0.length c0, .int .i64 0] ?_; refine (seal_Open.calls k A0 c0 l0 0 kd sat body nx 0 _ (Kd.C_below HR0.out HB1.out) HC0.out (TabW.below HT.out HB1.out) HS.out).mono ?_; rintro e_ w2 ⟨v2, rfl, hr, hb⟩; refine ⟨_, rfl, ?_⟩; obtain ⟨Ab, cb, eb⟩ := Kd.R_slice hr; subst eb; have hcb := (Kd.R_reads' hr).2.1; have HCB := am_ hcb; have hgo := blk_lt BO1.out; have HF2 := am_ (Kd.F_mono (Kd.R_F (Kd.R_bound hr)) (ok' := fun k_ => k_ ≠ go ∧ k_ < w2.heap.size) (fun k_ hk_ => ⟨by have := hk_.2.1; omega, hk_.2.2.1⟩)); have HB2 := am_ (below_step HB1.out hb); have BO2 := am_ (blk_below BO1.out hb); clear hr hb hcb hgo) | ((with_reducible refine gd_ (N := 4) rfl ?_); refine bE 4 #[.int .u8 0, .int .i64 0, .slice none 0 0] 101 ?_; intro gs hg w3 hbox hb; have HB3 := am_ (below_step HB2.out hb); have BO3 := am_ (blk_below BO2.out hb); have HF3 := am_ (Kd.F_step HF2.out (fun k_ hk_ hlt_ => hb.block k_ hlt_)); have Ggs := am_ (show w.heap.size ≤ gs by (rw [hg]; exact bz_ HB2.out)); have Ngo_gs := am_ (show go ≠ gs from fun e_ => absurd (blk_lt BO2.out) (by rw [e_, hg]; exact Nat.lt_irrefl _)); have Egs := am_ hg; have BS3 := am_ hbox; obtain ⟨zBS3_0, zBS3_1, zBS3_2, fBS3_0, fBS3_1, fBS3_2⟩ := cz3 BS3.out; clear hb hbox hg) | ((with_reducible refine gate_store (t := 101) (p := 4) (v := .tmp 17) rfl ?_); refine sE 101 4 (.tmp 17) (sets gs w3 0 [.int .u8 kd, .int .i64 sat, .slice Ab body.length cb]) ?_; intro w4 hw_; have BS4 := am_ (show w4.heap[gs]? = some (.cells #[.int .u8 kd, .int .i64 sat, .slice Ab body.length cb] 101 (0, 0)) by (rw [hw_]; exact putO3_0_3 BS3.out ..)); have hf_ : ∀ i, i ≠ gs → w4.heap[i]? = w3.heap[i]? := fun i hi => (by rw [hw_]; exact sets_far _ _ _ _ _ hi); have HB4 := am_ (show Below w.heap.size w w4 by (rw [hw_]; exact sets_below (HB3.out) Ggs.out)); have BO4 := am_ ((hf_ go Ngo_gs.out).trans BO3.out); have HF4 := am_ (Kd.F_step HF3.out (fun k_ hk_ hlt_ => hf_ k_ (by have := hk_.2; have := Egs.out; omega))); clear hf_; obtain ⟨zBS4_0, zBS4_1, zBS4_2, fBS4_0, fBS4_1, fBS4_2⟩ := cz3 BS4.out; clear hw_; have f_o_ := kf_ BO4.out 0; obtain ⟨z_o_, hz_o_⟩ : ∃ z_, w4.cell? ⟨go, 0, none⟩ = some z_ := ⟨_, (kc_ BO4.out 0).trans rfl⟩) | ((with_reducible refine gate_store (t := 5) (p := 43) (v := .tmp 42) rfl ?_); refine sE 5 43 (.tmp 42) ((w4.setCell ⟨go, 0, none⟩ (.int .u8 kd))) ?_; intro w5 hw_; have BO5 := am_ (show w5.heap[go]? = some (.cells #[.int .u8 kd, .int .i64 0, .int .i64 0, .int .i64 0, .int .i64 0, .int .i64 0, .int .i64 0, .int .i64 0, .int .i64 0, .int .i64 0, .slice none 0 0, .slice none 0 0] 85 (0, 0)) by (rw [hw_]; exact blk_put (BO4.out) 0 _ rfl)); have hf_ : ∀ i, i ≠ go → w5.heap[i]? = w4.heap[i]? := fun i hi => (by rw [hw_]; rw [far1L _ _ _ _ _ hi]); have HB5 := am_ (show Below w.heap.size w w5 by (rw [hw_]; exact bs_ (HB4.out) Ggo.out)); have HF5 := am_ (Kd.F_step HF4.out (fun k_ hk_ hlt_ => hf_ k_ (hk_.1))); have BS5 := am_ ((hf_ gs (Ne.symm Ngo_gs.out)).trans BS4.out); clear hf_; clear hw_))
 go_loopg [3, 44, 6, 7] 4 (fun kq v3 v44 v6 v7 w' => ∃ (i at_ : Int) (big : Bool) (n0 n1 n2 : Int), v3 = .int .i64 0 ∧ v44 = .int .i64 i ∧ v6 = .int .i64 at_ ∧ v7 = .bool big ∧ Aside0 (0 ≤ i ∧ i ≤ 3 ∧ 4 ≤ kq + i.toNat) ∧ Aside0 (link_open.nums k body ([0, 1, 2].drop i.toNat) at_ big n0 n1 n2 = some (qe, qa, qb, q0, q1, q2)) ∧ Aside0 (Below w.heap.size w w') ∧ Aside0 (w'.heap[go]? = some (.cells #[.int .u8 kd, .int .i64 n0, .int .i64 n1, .int .i64 n2, .int .i64 0, .int .i64 0, .int .i64 0, .int .i64 0, .int .i64 0, .int .i64 0, .slice none 0 0, .slice none 0 0] 85 (0, 0))) ∧ Aside0 (w'.heap[gs]? = some (.cells #[.int .u8 kd, .int .i64 sat, .slice Ab body.length cb] 101 (0, 0))) ∧ Aside0 (Kd.F (Kd.int .u8) w' (fun k_ => k_ ≠ go ∧ k_ < w2.heap.size) Ab body.length body))
 case atStart => exact ⟨0, 0, false, 0, 0, 0, rfl, rfl, rfl, rfl, ⟨by omega⟩, HQ, HB5, BO5, BS5, HF5⟩
 case round =>
 obtain ⟨i, at_, big, n0, n1, n2, rfl, rfl, rfl, rfl, HI, HNR, HB0, BO0, BS0, HF0⟩ := hrel
 by_cases hi : i < 3
 case pos =>
  obtain hi0 | hi0 | hi0 : i = 0 ∨ i = 1 ∨ i = 2 := by have := HI.out; omega
  ·
   subst hi0
   have hnr : link_open.nums k body (0 :: [1, 2]) at_ big n0 n1 n2 = some (qe, qa, qb, q0, q1, q2) := HNR.out
   obtain ⟨⟨t1, t2, t3⟩, ht, hnr2⟩ := Option.bind_eq_some_iff.mp hnr
   dsimp only at hnr2
   have HTU := am_ ht
   clear ht hnr HNR hi
   by_cases c5 : t3 = 0
   case neg =>
    rw [if_neg c5] at hnr2
    simp only [Option.some.injEq, Prod.mk.injEq] at hnr2
    obtain ⟨rfl, rfl, rfl, rfl, rfl, rfl⟩ := hnr2
    have he := HE.out
    rw [if_neg c5] at he
    simp only [Option.some.injEq, Prod.mk.injEq] at he
    obtain ⟨rfl, rfl⟩ := he
    have b5 : (t3 != 0) = true := bne_iff_ne.mpr c5
    clear c5
    have zBS0_0 : wr.cell? ⟨gs, 0, none⟩ = some (.int .u8 kd) := (kc_ BS0.out 0).trans rfl
    have zBS0_1 : wr.cell? ⟨gs, 1, none⟩ = some (.int .i64 sat) := (kc_ BS0.out 1).trans rfl
    have zBS0_2 : wr.cell? ⟨gs, 2, none⟩ = some (.slice Ab body.length cb) := (kc_ BS0.out 2).trans rfl
    go_wp2_with (first | ((with_reducible refine gd_ (N := 51) rfl ?_); (try (refine gate_guard (by rfl) ?_; dsimp only)); refine gL (some 51) Tryd.func41 #[.slice Ab body.length cb, .int .i64 at_] ?_; refine (octet_TakeUint.calls k Ab cb body at_ t1 t2 t3 _ (Kd.F_now HF0.out) HCB.out HTU.out).mono ?_; rintro e_ w1 ⟨rfl, hd⟩; refine ⟨_, rfl, ?_⟩; have hb := hd.below; have HB1 := am_ (below_step HB0.out hb); have BO1 := am_ (blk_below BO0.out hb); have BS1 := am_ (blk_below BS0.out hb); have HF1 := am_ (Kd.F_step HF0.out (fun k_ hk_ hlt_ => hb.block k_ hlt_)); clear hd hb; obtain ⟨zBO1_0, zBO1_1, zBO1_2, zBO1_3, zBO1_4, zBO1_5, zBO1_6, zBO1_7, zBO1_8, zBO1_9, zBO1_10, zBO1_11, fBO1_0, fBO1_1, fBO1_2, fBO1_3, fBO1_4, fBO1_5, fBO1_6, fBO1_7, fBO1_8, fBO1_9, fBO1_10, fBO1_11⟩ := cz12 BO1.out) | ((with_reducible refine gate_store (t := 85) (p := 2) (v := .tmp 57) rfl ?_); refine sE 85 2 (.tmp 57) (sets go w1 0 [.int .u8 kd, .int .i64 n0, .int .i64 n1, .int .i64 n2, .int .i64 0, .int .i64 0, .int .i64 0, .int .i64 0, .int .i64 0, .int .i64 0, .slice none 0 0, .slice none 0 0]) ?_; intro w2 hw_; have BO2 := am_ (show w2.heap[go]? = some (.cells #[.int .u8 kd, .int .i64 n0, .int .i64 n1, .int .i64 n2, .int .i64 0, .int .i64 0, .int .i64 0, .int .i64 0, .int .i64 0, .int .i64 0, .slice none 0 0, .slice none 0 0] 85 (0, 0)) by (rw [hw_]; exact putO12_0_12 BO1.out ..)); have hf_ : ∀ i, i ≠ go → w2.heap[i]? = w1.heap[i]? := fun i hi => (by rw [hw_]; exact sets_far _ _ _ _ _ hi); have HB2 := am_ (show Below w.heap.size w w2 by (rw [hw_]; exact sets_below (HB1.out) Ggo.out)); have BS2 := am_ ((hf_ gs (Ne.symm Ngo_gs.out)).trans BS1.out); have HF2 := am_ (Kd.F_step HF1.out (fun k_ hk_ hlt_ => hf_ k_ (hk_.1))); clear hf_; clear hw_))
    refine bodyPost_ret (results_ct rfl _ _ go 85 #[.int .u8 kd, .int .i64 n0, .int .i64 n1, .int .i64 n2, .int .i64 0, .int .i64 0, .int .i64 0, .int .i64 0, .int .i64 0, .int .i64 0, .slice none 0 0, .slice none 0 0] (0, 0) _ rfl BO2.out Tryd.underlying85 rfl (by kernel_rfl)) rfl ?_
    exact ⟨_, _, _, _, _, _, _, _, _, _, _, _, _, _, _, _, rfl, (fun r_ hr_ => by cases hr_), HB2.out⟩
   rw [if_pos c5] at hnr2
   subst c5
   cases big with
   | true =>
    have hbig : (true || link_open.big 0 t1) = true := rfl
    have HN2 := am_ (show link_open.nums k body [1, 2] t2 true (wrap64 t1) n1 n2 = some (qe, qa, qb, q0, q1, q2) from hbig ▸ hnr2)
    clear hnr2 hbig
    have zBS0_0 : wr.cell? ⟨gs, 0, none⟩ = some (.int .u8 kd) := (kc_ BS0.out 0).trans rfl
    have zBS0_1 : wr.cell? ⟨gs, 1, none⟩ = some (.int .i64 sat) := (kc_ BS0.out 1).trans rfl
    have zBS0_2 : wr.cell? ⟨gs, 2, none⟩ = some (.slice Ab body.length cb) := (kc_ BS0.out 2).trans rfl
    go_wp2_with (first | ((with_reducible refine gd_ (N := 51) rfl ?_); (try (refine gate_guard (by rfl) ?_; dsimp only)); refine gL (some 51) Tryd.func41 #[.slice Ab body.length cb, .int .i64 at_] ?_; refine (octet_TakeUint.calls k Ab cb body at_ t1 t2 0 _ (Kd.F_now HF0.out) HCB.out HTU.out).mono ?_; rintro e_ w1 ⟨rfl, hd⟩; refine ⟨_, rfl, ?_⟩; have hb := hd.below; have HB1 := am_ (below_step HB0.out hb); have BO1 := am_ (blk_below BO0.out hb); have BS1 := am_ (blk_below BS0.out hb); have HF1 := am_ (Kd.F_step HF0.out (fun k_ hk_ hlt_ => hb.block k_ hlt_)); clear hd hb; have f_n_ := kf_ BO1.out 1; have z_n_ : w1.cell? ⟨go, 1, none⟩ = some (.int .i64 n0) := (kc_ BO1.out 1).trans rfl) | ((with_reducible refine gate_store (t := 3) (p := 80) (v := .tmp 77) rfl ?_); refine sE 3 80 (.tmp 77) ((w1.setCell ⟨go, 1, none⟩ (.int .i64 (wrap64 t1)))) ?_; intro w2 hw_; have BO2 := am_ (show w2.heap[go]? = some (.cells #[.int .u8 kd, .int .i64 (wrap64 t1), .int .i64 n1, .int .i64 n2, .int .i64 0, .int .i64 0, .int .i64 0, .int .i64 0, .int .i64 0, .int .i64 0, .slice none 0 0, .slice none 0 0] 85 (0, 0)) by (rw [hw_]; exact blk_put (BO1.out) 1 _ rfl)); have hf_ : ∀ i, i ≠ go → w2.heap[i]? = w1.heap[i]? := fun i hi => (by rw [hw_]; rw [far1L _ _ _ _ _ hi]); have HB2 := am_ (show Below w.heap.size w w2 by (rw [hw_]; exact bs_ (HB1.out) Ggo.out)); have BS2 := am_ ((hf_ gs (Ne.symm Ngo_gs.out)).trans BS1.out); have HF2 := am_ (Kd.F_step HF1.out (fun k_ hk_ hlt_ => hf_ k_ (hk_.1))); clear hf_; clear hw_))
    cases gk with
    | zero => exact absurd HI.out (by omega)
    | succ k2 =>
    go_roundg k2
    case measure => omega
    case rel => exact ⟨1, t2, true, (wrap64 t1), n1, n2, rfl, (by rfl), rfl, rfl, ⟨by have := HI.out; omega⟩, HN2, HB2, BO2, BS2, HF2⟩
   | false =>
   by_cases c6 : t1 > 1073741824
   case pos =>
    have hbig : (false || link_open.big 0 t1) = true := by unfold link_open.big link_open.most; rw [if_neg (by decide), decide_eq_true c6]; rfl
    have b6 := decide_eq_true c6
    clear c6
    have HN2 := am_ (show link_open.nums k body [1, 2] t2 true (wrap64 t1) n1 n2 = some (qe, qa, qb, q0, q1, q2) from hbig ▸ hnr2)
    clear hnr2 hbig
    have zBS0_0 : wr.cell? ⟨gs, 0, none⟩ = some (.int .u8 kd) := (kc_ BS0.out 0).trans rfl
    have zBS0_1 : wr.cell? ⟨gs, 1, none⟩ = some (.int .i64 sat) := (kc_ BS0.out 1).trans rfl
    have zBS0_2 : wr.cell? ⟨gs, 2, none⟩ = some (.slice Ab body.length cb) := (kc_ BS0.out 2).trans rfl
    go_wp2_with (first | ((with_reducible refine gd_ (N := 51) rfl ?_); (try (refine gate_guard (by rfl) ?_; dsimp only)); refine gL (some 51) Tryd.func41 #[.slice Ab body.length cb, .int .i64 at_] ?_; refine (octet_TakeUint.calls k Ab cb body at_ t1 t2 0 _ (Kd.F_now HF0.out) HCB.out HTU.out).mono ?_; rintro e_ w1 ⟨rfl, hd⟩; refine ⟨_, rfl, ?_⟩; have hb := hd.below; have HB1 := am_ (below_step HB0.out hb); have BO1 := am_ (blk_below BO0.out hb); have BS1 := am_ (blk_below BS0.out hb); have HF1 := am_ (Kd.F_step HF0.out (fun k_ hk_ hlt_ => hb.block k_ hlt_)); clear hd hb; have f_n_ := kf_ BO1.out 1; have z_n_ : w1.cell? ⟨go, 1, none⟩ = some (.int .i64 n0) := (kc_ BO1.out 1).trans rfl) | ((with_reducible refine gate_store (t := 3) (p := 80) (v := .tmp 77) rfl ?_); refine sE 3 80 (.tmp 77) ((w1.setCell ⟨go, 1, none⟩ (.int .i64 (wrap64 t1)))) ?_; intro w2 hw_; have BO2 := am_ (show w2.heap[go]? = some (.cells #[.int .u8 kd, .int .i64 (wrap64 t1), .int .i64 n1, .int .i64 n2, .int .i64 0, .int .i64 0, .int .i64 0, .int .i64 0, .int .i64 0, .int .i64 0, .slice none 0 0, .slice none 0 0] 85 (0, 0)) by (rw [hw_]; exact blk_put (BO1.out) 1 _ rfl)); have hf_ : ∀ i, i ≠ go → w2.heap[i]? = w1.heap[i]? := fun i hi => (by rw [hw_]; rw [far1L _ _ _ _ _ hi]); have HB2 := am_ (show Below w.heap.size w w2 by (rw [hw_]; exact bs_ (HB1.out) Ggo.out)); have BS2 := am_ ((hf_ gs (Ne.symm Ngo_gs.out)).trans BS1.out); have HF2 := am_ (Kd.F_step HF1.out (fun k_ hk_ hlt_ => hf_ k_ (hk_.1))); clear hf_; clear hw_))
    cases gk with
    | zero => exact absurd HI.out (by omega)
    | succ k2 =>
    go_roundg k2
    case measure => omega
    case rel => exact ⟨1, t2, true, (wrap64 t1), n1, n2, rfl, (by rfl), rfl, rfl, ⟨by have := HI.out; omega⟩, HN2, HB2, BO2, BS2, HF2⟩
   by_cases c7 : t1 = 0
   case pos =>
    have hbig : (false || link_open.big 0 t1) = true := by unfold link_open.big link_open.most; rw [if_neg (by decide), decide_eq_false c6, decide_eq_true c7]; rfl
    have b6 := decide_eq_false c6
    have b7 : (t1 == 0) = true := beq_iff_eq.mpr c7
    clear c6 c7
    have HN2 := am_ (show link_open.nums k body [1, 2] t2 true (wrap64 t1) n1 n2 = some (qe, qa, qb, q0, q1, q2) from hbig ▸ hnr2)
    clear hnr2 hbig
    have zBS0_0 : wr.cell? ⟨gs, 0, none⟩ = some (.int .u8 kd) := (kc_ BS0.out 0).trans rfl
    have zBS0_1 : wr.cell? ⟨gs, 1, none⟩ = some (.int .i64 sat) := (kc_ BS0.out 1).trans rfl
    have zBS0_2 : wr.cell? ⟨gs, 2, none⟩ = some (.slice Ab body.length cb) := (kc_ BS0.out 2).trans rfl
    go_wp2_with (first | ((with_reducible refine gd_ (N := 51) rfl ?_); (try (refine gate_guard (by rfl) ?_; dsimp only)); refine gL (some 51) Tryd.func41 #[.slice Ab body.length cb, .int .i64 at_] ?_; refine (octet_TakeUint.calls k Ab cb body at_ t1 t2 0 _ (Kd.F_now HF0.out) HCB.out HTU.out).mono ?_; rintro e_ w1 ⟨rfl, hd⟩; refine ⟨_, rfl, ?_⟩; have hb := hd.below; have HB1 := am_ (below_step HB0.out hb); have BO1 := am_ (blk_below BO0.out hb); have BS1 := am_ (blk_below BS0.out hb); have HF1 := am_ (Kd.F_step HF0.out (fun k_ hk_ hlt_ => hb.block k_ hlt_)); clear hd hb; have f_n_ := kf_ BO1.out 1; have z_n_ : w1.cell? ⟨go, 1, none⟩ = some (.int .i64 n0) := (kc_ BO1.out 1).trans rfl) | ((with_reducible refine gate_store (t := 3) (p := 80) (v := .tmp 77) rfl ?_); refine sE 3 80 (.tmp 77) ((w1.setCell ⟨go, 1, none⟩ (.int .i64 (wrap64 t1)))) ?_; intro w2 hw_; have BO2 := am_ (show w2.heap[go]? = some (.cells #[.int .u8 kd, .int .i64 (wrap64 t1), .int .i64 n1, .int .i64 n2, .int .i64 0, .int .i64 0, .int .i64 0, .int .i64 0, .int .i64 0, .int .i64 0, .slice none 0 0, .slice none 0 0] 85 (0, 0)) by (rw [hw_]; exact blk_put (BO1.out) 1 _ rfl)); have hf_ : ∀ i, i ≠ go → w2.heap[i]? = w1.heap[i]? := fun i hi => (by rw [hw_]; rw [far1L _ _ _ _ _ hi]); have HB2 := am_ (show Below w.heap.size w w2 by (rw [hw_]; exact bs_ (HB1.out) Ggo.out)); have BS2 := am_ ((hf_ gs (Ne.symm Ngo_gs.out)).trans BS1.out); have HF2 := am_ (Kd.F_step HF1.out (fun k_ hk_ hlt_ => hf_ k_ (hk_.1))); clear hf_; clear hw_))
    cases gk with
    | zero => exact absurd HI.out (by omega)
    | succ k2 =>
    go_roundg k2
    case measure => omega
    case rel => exact ⟨1, t2, true, (wrap64 t1), n1, n2, rfl, (by rfl), rfl, rfl, ⟨by have := HI.out; omega⟩, HN2, HB2, BO2, BS2, HF2⟩
   have hbig : (false || link_open.big 0 t1) = false := by unfold link_open.big link_open.most; rw [if_neg (by decide), decide_eq_false c6, decide_eq_false c7]; rfl
   have b6 := decide_eq_false c6
   have b7 : (t1 == 0) = false := beq_eq_false_iff_ne.mpr c7
   clear c6 c7
   have HN2 := am_ (show link_open.nums k body [1, 2] t2 false (wrap64 t1) n1 n2 = some (qe, qa, qb, q0, q1, q2) from hbig ▸ hnr2)
   clear hnr2 hbig
   have zBS0_0 : wr.cell? ⟨gs, 0, none⟩ = some (.int .u8 kd) := (kc_ BS0.out 0).trans rfl
   have zBS0_1 : wr.cell? ⟨gs, 1, none⟩ = some (.int .i64 sat) := (kc_ BS0.out 1).trans rfl
   have zBS0_2 : wr.cell? ⟨gs, 2, none⟩ = some (.slice Ab body.length cb) := (kc_ BS0.out 2).trans rfl
   go_wp2_with (first | ((with_reducible refine gd_ (N := 51) rfl ?_); (try (refine gate_guard (by rfl) ?_; dsimp only)); refine gL (some 51) Tryd.func41 #[.slice Ab body.length cb, .int .i64 at_] ?_; refine (octet_TakeUint.calls k Ab cb body at_ t1 t2 0 _ (Kd.F_now HF0.out) HCB.out HTU.out).mono ?_; rintro e_ w1 ⟨rfl, hd⟩; refine ⟨_, rfl, ?_⟩; have hb := hd.below; have HB1 := am_ (below_step HB0.out hb); have BO1 := am_ (blk_below BO0.out hb); have BS1 := am_ (blk_below BS0.out hb); have HF1 := am_ (Kd.F_step HF0.out (fun k_ hk_ hlt_ => hb.block k_ hlt_)); clear hd hb; have f_n_ := kf_ BO1.out 1; have z_n_ : w1.cell? ⟨go, 1, none⟩ = some (.int .i64 n0) := (kc_ BO1.out 1).trans rfl) | ((with_reducible refine gate_store (t := 3) (p := 80) (v := .tmp 77) rfl ?_); refine sE 3 80 (.tmp 77) ((w1.setCell ⟨go, 1, none⟩ (.int .i64 (wrap64 t1)))) ?_; intro w2 hw_; have BO2 := am_ (show w2.heap[go]? = some (.cells #[.int .u8 kd, .int .i64 (wrap64 t1), .int .i64 n1, .int .i64 n2, .int .i64 0, .int .i64 0, .int .i64 0, .int .i64 0, .int .i64 0, .int .i64 0, .slice none 0 0, .slice none 0 0] 85 (0, 0)) by (rw [hw_]; exact blk_put (BO1.out) 1 _ rfl)); have hf_ : ∀ i, i ≠ go → w2.heap[i]? = w1.heap[i]? := fun i hi => (by rw [hw_]; rw [far1L _ _ _ _ _ hi]); have HB2 := am_ (show Below w.heap.size w w2 by (rw [hw_]; exact bs_ (HB1.out) Ggo.out)); have BS2 := am_ ((hf_ gs (Ne.symm Ngo_gs.out)).trans BS1.out); have HF2 := am_ (Kd.F_step HF1.out (fun k_ hk_ hlt_ => hf_ k_ (hk_.1))); clear hf_; clear hw_))
   cases gk with
   | zero => exact absurd HI.out (by omega)
   | succ k2 =>
   go_roundg k2
   case measure => omega
   case rel => exact ⟨1, t2, false, (wrap64 t1), n1, n2, rfl, (by rfl), rfl, rfl, ⟨by have := HI.out; omega⟩, HN2, HB2, BO2, BS2, HF2⟩
  ·
   subst hi0
   have hnr : link_open.nums k body (1 :: [2]) at_ big n0 n1 n2 = some (qe, qa, qb, q0, q1, q2) := HNR.out
   obtain ⟨⟨t1, t2, t3⟩, ht, hnr2⟩ := Option.bind_eq_some_iff.mp hnr
   dsimp only at hnr2
   have HTU := am_ ht
   clear ht hnr HNR hi
   by_cases c5 : t3 = 0
   case neg =>
    rw [if_neg c5] at hnr2
    simp only [Option.some.injEq, Prod.mk.injEq] at hnr2
    obtain ⟨rfl, rfl, rfl, rfl, rfl, rfl⟩ := hnr2
    have he := HE.out
    rw [if_neg c5] at he
    simp only [Option.some.injEq, Prod.mk.injEq] at he
    obtain ⟨rfl, rfl⟩ := he
    have b5 : (t3 != 0) = true := bne_iff_ne.mpr c5
    clear c5
    have zBS0_0 : wr.cell? ⟨gs, 0, none⟩ = some (.int .u8 kd) := (kc_ BS0.out 0).trans rfl
    have zBS0_1 : wr.cell? ⟨gs, 1, none⟩ = some (.int .i64 sat) := (kc_ BS0.out 1).trans rfl
    have zBS0_2 : wr.cell? ⟨gs, 2, none⟩ = some (.slice Ab body.length cb) := (kc_ BS0.out 2).trans rfl
    go_wp2_with (first | ((with_reducible refine gd_ (N := 51) rfl ?_); (try (refine gate_guard (by rfl) ?_; dsimp only)); refine gL (some 51) Tryd.func41 #[.slice Ab body.length cb, .int .i64 at_] ?_; refine (octet_TakeUint.calls k Ab cb body at_ t1 t2 t3 _ (Kd.F_now HF0.out) HCB.out HTU.out).mono ?_; rintro e_ w1 ⟨rfl, hd⟩; refine ⟨_, rfl, ?_⟩; have hb := hd.below; have HB1 := am_ (below_step HB0.out hb); have BO1 := am_ (blk_below BO0.out hb); have BS1 := am_ (blk_below BS0.out hb); have HF1 := am_ (Kd.F_step HF0.out (fun k_ hk_ hlt_ => hb.block k_ hlt_)); clear hd hb; obtain ⟨zBO1_0, zBO1_1, zBO1_2, zBO1_3, zBO1_4, zBO1_5, zBO1_6, zBO1_7, zBO1_8, zBO1_9, zBO1_10, zBO1_11, fBO1_0, fBO1_1, fBO1_2, fBO1_3, fBO1_4, fBO1_5, fBO1_6, fBO1_7, fBO1_8, fBO1_9, fBO1_10, fBO1_11⟩ := cz12 BO1.out) | ((with_reducible refine gate_store (t := 85) (p := 2) (v := .tmp 57) rfl ?_); refine sE 85 2 (.tmp 57) (sets go w1 0 [.int .u8 kd, .int .i64 n0, .int .i64 n1, .int .i64 n2, .int .i64 0, .int .i64 0, .int .i64 0, .int .i64 0, .int .i64 0, .int .i64 0, .slice none 0 0, .slice none 0 0]) ?_; intro w2 hw_; have BO2 := am_ (show w2.heap[go]? = some (.cells #[.int .u8 kd, .int .i64 n0, .int .i64 n1, .int .i64 n2, .int .i64 0, .int .i64 0, .int .i64 0, .int .i64 0, .int .i64 0, .int .i64 0, .slice none 0 0, .slice none 0 0] 85 (0, 0)) by (rw [hw_]; exact putO12_0_12 BO1.out ..)); have hf_ : ∀ i, i ≠ go → w2.heap[i]? = w1.heap[i]? := fun i hi => (by rw [hw_]; exact sets_far _ _ _ _ _ hi); have HB2 := am_ (show Below w.heap.size w w2 by (rw [hw_]; exact sets_below (HB1.out) Ggo.out)); have BS2 := am_ ((hf_ gs (Ne.symm Ngo_gs.out)).trans BS1.out); have HF2 := am_ (Kd.F_step HF1.out (fun k_ hk_ hlt_ => hf_ k_ (hk_.1))); clear hf_; clear hw_))
    refine bodyPost_ret (results_ct rfl _ _ go 85 #[.int .u8 kd, .int .i64 n0, .int .i64 n1, .int .i64 n2, .int .i64 0, .int .i64 0, .int .i64 0, .int .i64 0, .int .i64 0, .int .i64 0, .slice none 0 0, .slice none 0 0] (0, 0) _ rfl BO2.out Tryd.underlying85 rfl (by kernel_rfl)) rfl ?_
    exact ⟨_, _, _, _, _, _, _, _, _, _, _, _, _, _, _, _, rfl, (fun r_ hr_ => by cases hr_), HB2.out⟩
   rw [if_pos c5] at hnr2
   subst c5
   cases big with
   | true =>
    have hbig : (true || link_open.big 1 t1) = true := rfl
    have HN2 := am_ (show link_open.nums k body [2] t2 true n0 (wrap64 t1) n2 = some (qe, qa, qb, q0, q1, q2) from hbig ▸ hnr2)
    clear hnr2 hbig
    have zBS0_0 : wr.cell? ⟨gs, 0, none⟩ = some (.int .u8 kd) := (kc_ BS0.out 0).trans rfl
    have zBS0_1 : wr.cell? ⟨gs, 1, none⟩ = some (.int .i64 sat) := (kc_ BS0.out 1).trans rfl
    have zBS0_2 : wr.cell? ⟨gs, 2, none⟩ = some (.slice Ab body.length cb) := (kc_ BS0.out 2).trans rfl
    go_wp2_with (first | ((with_reducible refine gd_ (N := 51) rfl ?_); (try (refine gate_guard (by rfl) ?_; dsimp only)); refine gL (some 51) Tryd.func41 #[.slice Ab body.length cb, .int .i64 at_] ?_; refine (octet_TakeUint.calls k Ab cb body at_ t1 t2 0 _ (Kd.F_now HF0.out) HCB.out HTU.out).mono ?_; rintro e_ w1 ⟨rfl, hd⟩; refine ⟨_, rfl, ?_⟩; have hb := hd.below; have HB1 := am_ (below_step HB0.out hb); have BO1 := am_ (blk_below BO0.out hb); have BS1 := am_ (blk_below BS0.out hb); have HF1 := am_ (Kd.F_step HF0.out (fun k_ hk_ hlt_ => hb.block k_ hlt_)); clear hd hb; have f_n_ := kf_ BO1.out 2; have z_n_ : w1.cell? ⟨go, 2, none⟩ = some (.int .i64 n1) := (kc_ BO1.out 2).trans rfl) | ((with_reducible refine gate_store (t := 3) (p := 80) (v := .tmp 77) rfl ?_); refine sE 3 80 (.tmp 77) ((w1.setCell ⟨go, 2, none⟩ (.int .i64 (wrap64 t1)))) ?_; intro w2 hw_; have BO2 := am_ (show w2.heap[go]? = some (.cells #[.int .u8 kd, .int .i64 n0, .int .i64 (wrap64 t1), .int .i64 n2, .int .i64 0, .int .i64 0, .int .i64 0, .int .i64 0, .int .i64 0, .int .i64 0, .slice none 0 0, .slice none 0 0] 85 (0, 0)) by (rw [hw_]; exact blk_put (BO1.out) 2 _ rfl)); have hf_ : ∀ i, i ≠ go → w2.heap[i]? = w1.heap[i]? := fun i hi => (by rw [hw_]; rw [far1L _ _ _ _ _ hi]); have HB2 := am_ (show Below w.heap.size w w2 by (rw [hw_]; exact bs_ (HB1.out) Ggo.out)); have BS2 := am_ ((hf_ gs (Ne.symm Ngo_gs.out)).trans BS1.out); have HF2 := am_ (Kd.F_step HF1.out (fun k_ hk_ hlt_ => hf_ k_ (hk_.1))); clear hf_; clear hw_))
    cases gk with
    | zero => exact absurd HI.out (by omega)
    | succ k2 =>
    go_roundg k2
    case measure => omega
    case rel => exact ⟨2, t2, true, n0, (wrap64 t1), n2, rfl, (by rfl), rfl, rfl, ⟨by have := HI.out; omega⟩, HN2, HB2, BO2, BS2, HF2⟩
   | false =>
   by_cases c6 : t1 > 1073741824
   case pos =>
    have hbig : (false || link_open.big 1 t1) = true := by unfold link_open.big link_open.most; rw [if_neg (by decide), decide_eq_true c6]; rfl
    have b6 := decide_eq_true c6
    clear c6
    have HN2 := am_ (show link_open.nums k body [2] t2 true n0 (wrap64 t1) n2 = some (qe, qa, qb, q0, q1, q2) from hbig ▸ hnr2)
    clear hnr2 hbig
    have zBS0_0 : wr.cell? ⟨gs, 0, none⟩ = some (.int .u8 kd) := (kc_ BS0.out 0).trans rfl
    have zBS0_1 : wr.cell? ⟨gs, 1, none⟩ = some (.int .i64 sat) := (kc_ BS0.out 1).trans rfl
    have zBS0_2 : wr.cell? ⟨gs, 2, none⟩ = some (.slice Ab body.length cb) := (kc_ BS0.out 2).trans rfl
    go_wp2_with (first | ((with_reducible refine gd_ (N := 51) rfl ?_); (try (refine gate_guard (by rfl) ?_; dsimp only)); refine gL (some 51) Tryd.func41 #[.slice Ab body.length cb, .int .i64 at_] ?_; refine (octet_TakeUint.calls k Ab cb body at_ t1 t2 0 _ (Kd.F_now HF0.out) HCB.out HTU.out).mono ?_; rintro e_ w1 ⟨rfl, hd⟩; refine ⟨_, rfl, ?_⟩; have hb := hd.below; have HB1 := am_ (below_step HB0.out hb); have BO1 := am_ (blk_below BO0.out hb); have BS1 := am_ (blk_below BS0.out hb); have HF1 := am_ (Kd.F_step HF0.out (fun k_ hk_ hlt_ => hb.block k_ hlt_)); clear hd hb; have f_n_ := kf_ BO1.out 2; have z_n_ : w1.cell? ⟨go, 2, none⟩ = some (.int .i64 n1) := (kc_ BO1.out 2).trans rfl) | ((with_reducible refine gate_store (t := 3) (p := 80) (v := .tmp 77) rfl ?_); refine sE 3 80 (.tmp 77) ((w1.setCell ⟨go, 2, none⟩ (.int .i64 (wrap64 t1)))) ?_; intro w2 hw_; have BO2 := am_ (show w2.heap[go]? = some (.cells #[.int .u8 kd, .int .i64 n0, .int .i64 (wrap64 t1), .int .i64 n2, .int .i64 0, .int .i64 0, .int .i64 0, .int .i64 0, .int .i64 0, .int .i64 0, .slice none 0 0, .slice none 0 0] 85 (0, 0)) by (rw [hw_]; exact blk_put (BO1.out) 2 _ rfl)); have hf_ : ∀ i, i ≠ go → w2.heap[i]? = w1.heap[i]? := fun i hi => (by rw [hw_]; rw [far1L _ _ _ _ _ hi]); have HB2 := am_ (show Below w.heap.size w w2 by (rw [hw_]; exact bs_ (HB1.out) Ggo.out)); have BS2 := am_ ((hf_ gs (Ne.symm Ngo_gs.out)).trans BS1.out); have HF2 := am_ (Kd.F_step HF1.out (fun k_ hk_ hlt_ => hf_ k_ (hk_.1))); clear hf_; clear hw_))
    cases gk with
    | zero => exact absurd HI.out (by omega)
    | succ k2 =>
    go_roundg k2
    case measure => omega
    case rel => exact ⟨2, t2, true, n0, (wrap64 t1), n2, rfl, (by rfl), rfl, rfl, ⟨by have := HI.out; omega⟩, HN2, HB2, BO2, BS2, HF2⟩
   have hbig : (false || link_open.big 1 t1) = false := by unfold link_open.big link_open.most; rw [if_neg (by decide), decide_eq_false c6]; rfl
   have b6 := decide_eq_false c6
   clear c6
   have HN2 := am_ (show link_open.nums k body [2] t2 false n0 (wrap64 t1) n2 = some (qe, qa, qb, q0, q1, q2) from hbig ▸ hnr2)
   clear hnr2 hbig
   have zBS0_0 : wr.cell? ⟨gs, 0, none⟩ = some (.int .u8 kd) := (kc_ BS0.out 0).trans rfl
   have zBS0_1 : wr.cell? ⟨gs, 1, none⟩ = some (.int .i64 sat) := (kc_ BS0.out 1).trans rfl
   have zBS0_2 : wr.cell? ⟨gs, 2, none⟩ = some (.slice Ab body.length cb) := (kc_ BS0.out 2).trans rfl
   go_wp2_with (first | ((with_reducible refine gd_ (N := 51) rfl ?_); (try (refine gate_guard (by rfl) ?_; dsimp only)); refine gL (some 51) Tryd.func41 #[.slice Ab body.length cb, .int .i64 at_] ?_; refine (octet_TakeUint.calls k Ab cb body at_ t1 t2 0 _ (Kd.F_now HF0.out) HCB.out HTU.out).mono ?_; rintro e_ w1 ⟨rfl, hd⟩; refine ⟨_, rfl, ?_⟩; have hb := hd.below; have HB1 := am_ (below_step HB0.out hb); have BO1 := am_ (blk_below BO0.out hb); have BS1 := am_ (blk_below BS0.out hb); have HF1 := am_ (Kd.F_step HF0.out (fun k_ hk_ hlt_ => hb.block k_ hlt_)); clear hd hb; have f_n_ := kf_ BO1.out 2; have z_n_ : w1.cell? ⟨go, 2, none⟩ = some (.int .i64 n1) := (kc_ BO1.out 2).trans rfl) | ((with_reducible refine gate_store (t := 3) (p := 80) (v := .tmp 77) rfl ?_); refine sE 3 80 (.tmp 77) ((w1.setCell ⟨go, 2, none⟩ (.int .i64 (wrap64 t1)))) ?_; intro w2 hw_; have BO2 := am_ (show w2.heap[go]? = some (.cells #[.int .u8 kd, .int .i64 n0, .int .i64 (wrap64 t1), .int .i64 n2, .int .i64 0, .int .i64 0, .int .i64 0, .int .i64 0, .int .i64 0, .int .i64 0, .slice none 0 0, .slice none 0 0] 85 (0, 0)) by (rw [hw_]; exact blk_put (BO1.out) 2 _ rfl)); have hf_ : ∀ i, i ≠ go → w2.heap[i]? = w1.heap[i]? := fun i hi => (by rw [hw_]; rw [far1L _ _ _ _ _ hi]); have HB2 := am_ (show Below w.heap.size w w2 by (rw [hw_]; exact bs_ (HB1.out) Ggo.out)); have BS2 := am_ ((hf_ gs (Ne.symm Ngo_gs.out)).trans BS1.out); have HF2 := am_ (Kd.F_step HF1.out (fun k_ hk_ hlt_ => hf_ k_ (hk_.1))); clear hf_; clear hw_))
   cases gk with
   | zero => exact absurd HI.out (by omega)
   | succ k2 =>
   go_roundg k2
   case measure => omega
   case rel => exact ⟨2, t2, false, n0, (wrap64 t1), n2, rfl, (by rfl), rfl, rfl, ⟨by have := HI.out; omega⟩, HN2, HB2, BO2, BS2, HF2⟩
  subst hi0
  have hnr : link_open.nums k body (2 :: []) at_ big n0 n1 n2 = some (qe, qa, qb, q0, q1, q2) := HNR.out
  obtain ⟨⟨t1, t2, t3⟩, ht, hnr2⟩ := Option.bind_eq_some_iff.mp hnr
  dsimp only at hnr2
  have HTU := am_ ht
  clear ht hnr HNR hi
  by_cases c5 : t3 = 0
  case neg =>
   rw [if_neg c5] at hnr2
   simp only [Option.some.injEq, Prod.mk.injEq] at hnr2
   obtain ⟨rfl, rfl, rfl, rfl, rfl, rfl⟩ := hnr2
   have he := HE.out
   rw [if_neg c5] at he
   simp only [Option.some.injEq, Prod.mk.injEq] at he
   obtain ⟨rfl, rfl⟩ := he
   have b5 : (t3 != 0) = true := bne_iff_ne.mpr c5
   clear c5
   have zBS0_0 : wr.cell? ⟨gs, 0, none⟩ = some (.int .u8 kd) := (kc_ BS0.out 0).trans rfl
   have zBS0_1 : wr.cell? ⟨gs, 1, none⟩ = some (.int .i64 sat) := (kc_ BS0.out 1).trans rfl
   have zBS0_2 : wr.cell? ⟨gs, 2, none⟩ = some (.slice Ab body.length cb) := (kc_ BS0.out 2).trans rfl
   go_wp2_with (first | ((with_reducible refine gd_ (N := 51) rfl ?_); (try (refine gate_guard (by rfl) ?_; dsimp only)); refine gL (some 51) Tryd.func41 #[.slice Ab body.length cb, .int .i64 at_] ?_; refine (octet_TakeUint.calls k Ab cb body at_ t1 t2 t3 _ (Kd.F_now HF0.out) HCB.out HTU.out).mono ?_; rintro e_ w1 ⟨rfl, hd⟩; refine ⟨_, rfl, ?_⟩; have hb := hd.below; have HB1 := am_ (below_step HB0.out hb); have BO1 := am_ (blk_below BO0.out hb); have BS1 := am_ (blk_below BS0.out hb); have HF1 := am_ (Kd.F_step HF0.out (fun k_ hk_ hlt_ => hb.block k_ hlt_)); clear hd hb; obtain ⟨zBO1_0, zBO1_1, zBO1_2, zBO1_3, zBO1_4, zBO1_5, zBO1_6, zBO1_7, zBO1_8, zBO1_9, zBO1_10, zBO1_11, fBO1_0, fBO1_1, fBO1_2, fBO1_3, fBO1_4, fBO1_5, fBO1_6, fBO1_7, fBO1_8, fBO1_9, fBO1_10, fBO1_11⟩ := cz12 BO1.out) | ((with_reducible refine gate_store (t := 85) (p := 2) (v := .tmp 57) rfl ?_); refine sE 85 2 (.tmp 57) (sets go w1 0 [.int .u8 kd, .int .i64 n0, .int .i64 n1, .int .i64 n2, .int .i64 0, .int .i64 0, .int .i64 0, .int .i64 0, .int .i64 0, .int .i64 0, .slice none 0 0, .slice none 0 0]) ?_; intro w2 hw_; have BO2 := am_ (show w2.heap[go]? = some (.cells #[.int .u8 kd, .int .i64 n0, .int .i64 n1, .int .i64 n2, .int .i64 0, .int .i64 0, .int .i64 0, .int .i64 0, .int .i64 0, .int .i64 0, .slice none 0 0, .slice none 0 0] 85 (0, 0)) by (rw [hw_]; exact putO12_0_12 BO1.out ..)); have hf_ : ∀ i, i ≠ go → w2.heap[i]? = w1.heap[i]? := fun i hi => (by rw [hw_]; exact sets_far _ _ _ _ _ hi); have HB2 := am_ (show Below w.heap.size w w2 by (rw [hw_]; exact sets_below (HB1.out) Ggo.out)); have BS2 := am_ ((hf_ gs (Ne.symm Ngo_gs.out)).trans BS1.out); have HF2 := am_ (Kd.F_step HF1.out (fun k_ hk_ hlt_ => hf_ k_ (hk_.1))); clear hf_; clear hw_))
   refine bodyPost_ret (results_ct rfl _ _ go 85 #[.int .u8 kd, .int .i64 n0, .int .i64 n1, .int .i64 n2, .int .i64 0, .int .i64 0, .int .i64 0, .int .i64 0, .int .i64 0, .int .i64 0, .slice none 0 0, .slice none 0 0] (0, 0) _ rfl BO2.out Tryd.underlying85 rfl (by kernel_rfl)) rfl ?_
   exact ⟨_, _, _, _, _, _, _, _, _, _, _, _, _, _, _, _, rfl, (fun r_ hr_ => by cases hr_), HB2.out⟩
  rw [if_pos c5] at hnr2
  subst c5
  cases big with
  | true =>
   have hbig : (true || link_open.big 2 t1) = true := rfl
   have HN2 := am_ (show link_open.nums k body [] t2 true n0 n1 (wrap64 t1) = some (qe, qa, qb, q0, q1, q2) from hbig ▸ hnr2)
   clear hnr2 hbig
   have zBS0_0 : wr.cell? ⟨gs, 0, none⟩ = some (.int .u8 kd) := (kc_ BS0.out 0).trans rfl
   have zBS0_1 : wr.cell? ⟨gs, 1, none⟩ = some (.int .i64 sat) := (kc_ BS0.out 1).trans rfl
   have zBS0_2 : wr.cell? ⟨gs, 2, none⟩ = some (.slice Ab body.length cb) := (kc_ BS0.out 2).trans rfl
   go_wp2_with (first | ((with_reducible refine gd_ (N := 51) rfl ?_); (try (refine gate_guard (by rfl) ?_; dsimp only)); refine gL (some 51) Tryd.func41 #[.slice Ab body.length cb, .int .i64 at_] ?_; refine (octet_TakeUint.calls k Ab cb body at_ t1 t2 0 _ (Kd.F_now HF0.out) HCB.out HTU.out).mono ?_; rintro e_ w1 ⟨rfl, hd⟩; refine ⟨_, rfl, ?_⟩; have hb := hd.below; have HB1 := am_ (below_step HB0.out hb); have BO1 := am_ (blk_below BO0.out hb); have BS1 := am_ (blk_below BS0.out hb); have HF1 := am_ (Kd.F_step HF0.out (fun k_ hk_ hlt_ => hb.block k_ hlt_)); clear hd hb; have f_n_ := kf_ BO1.out 3; have z_n_ : w1.cell? ⟨go, 3, none⟩ = some (.int .i64 n2) := (kc_ BO1.out 3).trans rfl) | ((with_reducible refine gate_store (t := 3) (p := 80) (v := .tmp 77) rfl ?_); refine sE 3 80 (.tmp 77) ((w1.setCell ⟨go, 3, none⟩ (.int .i64 (wrap64 t1)))) ?_; intro w2 hw_; have BO2 := am_ (show w2.heap[go]? = some (.cells #[.int .u8 kd, .int .i64 n0, .int .i64 n1, .int .i64 (wrap64 t1), .int .i64 0, .int .i64 0, .int .i64 0, .int .i64 0, .int .i64 0, .int .i64 0, .slice none 0 0, .slice none 0 0] 85 (0, 0)) by (rw [hw_]; exact blk_put (BO1.out) 3 _ rfl)); have hf_ : ∀ i, i ≠ go → w2.heap[i]? = w1.heap[i]? := fun i hi => (by rw [hw_]; rw [far1L _ _ _ _ _ hi]); have HB2 := am_ (show Below w.heap.size w w2 by (rw [hw_]; exact bs_ (HB1.out) Ggo.out)); have BS2 := am_ ((hf_ gs (Ne.symm Ngo_gs.out)).trans BS1.out); have HF2 := am_ (Kd.F_step HF1.out (fun k_ hk_ hlt_ => hf_ k_ (hk_.1))); clear hf_; clear hw_))
   cases gk with
   | zero => exact absurd HI.out (by omega)
   | succ k2 =>
   go_roundg k2
   case measure => omega
   case rel => exact ⟨3, t2, true, n0, n1, (wrap64 t1), rfl, (by rfl), rfl, rfl, ⟨by have := HI.out; omega⟩, HN2, HB2, BO2, BS2, HF2⟩
  | false =>
  by_cases c6 : t1 > 1099511627776
  case pos =>
   have hbig : (false || link_open.big 2 t1) = true := by unfold link_open.big link_open.most; rw [if_pos (by decide), decide_eq_true c6]; rfl
   have b6 := decide_eq_true c6
   clear c6
   have HN2 := am_ (show link_open.nums k body [] t2 true n0 n1 (wrap64 t1) = some (qe, qa, qb, q0, q1, q2) from hbig ▸ hnr2)
   clear hnr2 hbig
   have zBS0_0 : wr.cell? ⟨gs, 0, none⟩ = some (.int .u8 kd) := (kc_ BS0.out 0).trans rfl
   have zBS0_1 : wr.cell? ⟨gs, 1, none⟩ = some (.int .i64 sat) := (kc_ BS0.out 1).trans rfl
   have zBS0_2 : wr.cell? ⟨gs, 2, none⟩ = some (.slice Ab body.length cb) := (kc_ BS0.out 2).trans rfl
   go_wp2_with (first | ((with_reducible refine gd_ (N := 51) rfl ?_); (try (refine gate_guard (by rfl) ?_; dsimp only)); refine gL (some 51) Tryd.func41 #[.slice Ab body.length cb, .int .i64 at_] ?_; refine (octet_TakeUint.calls k Ab cb body at_ t1 t2 0 _ (Kd.F_now HF0.out) HCB.out HTU.out).mono ?_; rintro e_ w1 ⟨rfl, hd⟩; refine ⟨_, rfl, ?_⟩; have hb := hd.below; have HB1 := am_ (below_step HB0.out hb); have BO1 := am_ (blk_below BO0.out hb); have BS1 := am_ (blk_below BS0.out hb); have HF1 := am_ (Kd.F_step HF0.out (fun k_ hk_ hlt_ => hb.block k_ hlt_)); clear hd hb; have f_n_ := kf_ BO1.out 3; have z_n_ : w1.cell? ⟨go, 3, none⟩ = some (.int .i64 n2) := (kc_ BO1.out 3).trans rfl) | ((with_reducible refine gate_store (t := 3) (p := 80) (v := .tmp 77) rfl ?_); refine sE 3 80 (.tmp 77) ((w1.setCell ⟨go, 3, none⟩ (.int .i64 (wrap64 t1)))) ?_; intro w2 hw_; have BO2 := am_ (show w2.heap[go]? = some (.cells #[.int .u8 kd, .int .i64 n0, .int .i64 n1, .int .i64 (wrap64 t1), .int .i64 0, .int .i64 0, .int .i64 0, .int .i64 0, .int .i64 0, .int .i64 0, .slice none 0 0, .slice none 0 0] 85 (0, 0)) by (rw [hw_]; exact blk_put (BO1.out) 3 _ rfl)); have hf_ : ∀ i, i ≠ go → w2.heap[i]? = w1.heap[i]? := fun i hi => (by rw [hw_]; rw [far1L _ _ _ _ _ hi]); have HB2 := am_ (show Below w.heap.size w w2 by (rw [hw_]; exact bs_ (HB1.out) Ggo.out)); have BS2 := am_ ((hf_ gs (Ne.symm Ngo_gs.out)).trans BS1.out); have HF2 := am_ (Kd.F_step HF1.out (fun k_ hk_ hlt_ => hf_ k_ (hk_.1))); clear hf_; clear hw_))
   cases gk with
   | zero => exact absurd HI.out (by omega)
   | succ k2 =>
   go_roundg k2
   case measure => omega
   case rel => exact ⟨3, t2, true, n0, n1, (wrap64 t1), rfl, (by rfl), rfl, rfl, ⟨by have := HI.out; omega⟩, HN2, HB2, BO2, BS2, HF2⟩
  by_cases c7 : t1 = 0
  case pos =>
   have hbig : (false || link_open.big 2 t1) = true := by unfold link_open.big link_open.most; rw [if_pos (by decide), decide_eq_false c6, decide_eq_true c7]; rfl
   have b6 := decide_eq_false c6
   have b7 : (t1 == 0) = true := beq_iff_eq.mpr c7
   clear c6 c7
   have HN2 := am_ (show link_open.nums k body [] t2 true n0 n1 (wrap64 t1) = some (qe, qa, qb, q0, q1, q2) from hbig ▸ hnr2)
   clear hnr2 hbig
   have zBS0_0 : wr.cell? ⟨gs, 0, none⟩ = some (.int .u8 kd) := (kc_ BS0.out 0).trans rfl
   have zBS0_1 : wr.cell? ⟨gs, 1, none⟩ = some (.int .i64 sat) := (kc_ BS0.out 1).trans rfl
   have zBS0_2 : wr.cell? ⟨gs, 2, none⟩ = some (.slice Ab body.length cb) := (kc_ BS0.out 2).trans rfl
   go_wp2_with (first | ((with_reducible refine gd_ (N := 51) rfl ?_); (try (refine gate_guard (by rfl) ?_; dsimp only)); refine gL (some 51) Tryd.func41 #[.slice Ab body.length cb, .int .i64 at_] ?_; refine (octet_TakeUint.calls k Ab cb body at_ t1 t2 0 _ (Kd.F_now HF0.out) HCB.out HTU.out).mono ?_; rintro e_ w1 ⟨rfl, hd⟩; refine ⟨_, rfl, ?_⟩; have hb := hd.below; have HB1 := am_ (below_step HB0.out hb); have BO1 := am_ (blk_below BO0.out hb); have BS1 := am_ (blk_below BS0.out hb); have HF1 := am_ (Kd.F_step HF0.out (fun k_ hk_ hlt_ => hb.block k_ hlt_)); clear hd hb; have f_n_ := kf_ BO1.out 3; have z_n_ : w1.cell? ⟨go, 3, none⟩ = some (.int .i64 n2) := (kc_ BO1.out 3).trans rfl) | ((with_reducible refine gate_store (t := 3) (p := 80) (v := .tmp 77) rfl ?_); refine sE 3 80 (.tmp 77) ((w1.setCell ⟨go, 3, none⟩ (.int .i64 (wrap64 t1)))) ?_; intro w2 hw_; have BO2 := am_ (show w2.heap[go]? = some (.cells #[.int .u8 kd, .int .i64 n0, .int .i64 n1, .int .i64 (wrap64 t1), .int .i64 0, .int .i64 0, .int .i64 0, .int .i64 0, .int .i64 0, .int .i64 0, .slice none 0 0, .slice none 0 0] 85 (0, 0)) by (rw [hw_]; exact blk_put (BO1.out) 3 _ rfl)); have hf_ : ∀ i, i ≠ go → w2.heap[i]? = w1.heap[i]? := fun i hi => (by rw [hw_]; rw [far1L _ _ _ _ _ hi]); have HB2 := am_ (show Below w.heap.size w w2 by (rw [hw_]; exact bs_ (HB1.out) Ggo.out)); have BS2 := am_ ((hf_ gs (Ne.symm Ngo_gs.out)).trans BS1.out); have HF2 := am_ (Kd.F_step HF1.out (fun k_ hk_ hlt_ => hf_ k_ (hk_.1))); clear hf_; clear hw_))
   cases gk with
   | zero => exact absurd HI.out (by omega)
   | succ k2 =>
   go_roundg k2
   case measure => omega
   case rel => exact ⟨3, t2, true, n0, n1, (wrap64 t1), rfl, (by rfl), rfl, rfl, ⟨by have := HI.out; omega⟩, HN2, HB2, BO2, BS2, HF2⟩
  have hbig : (false || link_open.big 2 t1) = false := by unfold link_open.big link_open.most; rw [if_pos (by decide), decide_eq_false c6, decide_eq_false c7]; rfl
  have b6 := decide_eq_false c6
  have b7 : (t1 == 0) = false := beq_eq_false_iff_ne.mpr c7
  clear c6 c7
  have HN2 := am_ (show link_open.nums k body [] t2 false n0 n1 (wrap64 t1) = some (qe, qa, qb, q0, q1, q2) from hbig ▸ hnr2)
  clear hnr2 hbig
  have zBS0_0 : wr.cell? ⟨gs, 0, none⟩ = some (.int .u8 kd) := (kc_ BS0.out 0).trans rfl
  have zBS0_1 : wr.cell? ⟨gs, 1, none⟩ = some (.int .i64 sat) := (kc_ BS0.out 1).trans rfl
  have zBS0_2 : wr.cell? ⟨gs, 2, none⟩ = some (.slice Ab body.length cb) := (kc_ BS0.out 2).trans rfl
  go_wp2_with (first | ((with_reducible refine gd_ (N := 51) rfl ?_); (try (refine gate_guard (by rfl) ?_; dsimp only)); refine gL (some 51) Tryd.func41 #[.slice Ab body.length cb, .int .i64 at_] ?_; refine (octet_TakeUint.calls k Ab cb body at_ t1 t2 0 _ (Kd.F_now HF0.out) HCB.out HTU.out).mono ?_; rintro e_ w1 ⟨rfl, hd⟩; refine ⟨_, rfl, ?_⟩; have hb := hd.below; have HB1 := am_ (below_step HB0.out hb); have BO1 := am_ (blk_below BO0.out hb); have BS1 := am_ (blk_below BS0.out hb); have HF1 := am_ (Kd.F_step HF0.out (fun k_ hk_ hlt_ => hb.block k_ hlt_)); clear hd hb; have f_n_ := kf_ BO1.out 3; have z_n_ : w1.cell? ⟨go, 3, none⟩ = some (.int .i64 n2) := (kc_ BO1.out 3).trans rfl) | ((with_reducible refine gate_store (t := 3) (p := 80) (v := .tmp 77) rfl ?_); refine sE 3 80 (.tmp 77) ((w1.setCell ⟨go, 3, none⟩ (.int .i64 (wrap64 t1)))) ?_; intro w2 hw_; have BO2 := am_ (show w2.heap[go]? = some (.cells #[.int .u8 kd, .int .i64 n0, .int .i64 n1, .int .i64 (wrap64 t1), .int .i64 0, .int .i64 0, .int .i64 0, .int .i64 0, .int .i64 0, .int .i64 0, .slice none 0 0, .slice none 0 0] 85 (0, 0)) by (rw [hw_]; exact blk_put (BO1.out) 3 _ rfl)); have hf_ : ∀ i, i ≠ go → w2.heap[i]? = w1.heap[i]? := fun i hi => (by rw [hw_]; rw [far1L _ _ _ _ _ hi]); have HB2 := am_ (show Below w.heap.size w w2 by (rw [hw_]; exact bs_ (HB1.out) Ggo.out)); have BS2 := am_ ((hf_ gs (Ne.symm Ngo_gs.out)).trans BS1.out); have HF2 := am_ (Kd.F_step HF1.out (fun k_ hk_ hlt_ => hf_ k_ (hk_.1))); clear hf_; clear hw_))
  cases gk with
  | zero => exact absurd HI.out (by omega)
  | succ k2 =>
  go_roundg k2
  case measure => omega
  case rel => exact ⟨3, t2, false, n0, n1, (wrap64 t1), rfl, (by rfl), rfl, rfl, ⟨by have := HI.out; omega⟩, HN2, HB2, BO2, BS2, HF2⟩
 have hi3 : i = 3 := by have := HI.out; omega
 subst hi3
 have hnr := HNR.out
 have hnr : some ((0 : Int), at_, big, n0, n1, n2) = some (qe, qa, qb, q0, q1, q2) := HNR.out
 simp only [Option.some.injEq, Prod.mk.injEq] at hnr
 obtain ⟨rfl, rfl, rfl, rfl, rfl, rfl⟩ := hnr
 have he := HE.out
 rw [if_pos rfl] at he
 clear hi HNR HE HQ HI
 cases big with
 | true =>
  rw [if_pos rfl] at he
  simp only [Option.some.injEq, Prod.mk.injEq] at he
  obtain ⟨rfl, rfl⟩ := he
  have zBO0_0 : wr.cell? ⟨go, 0, none⟩ = some (.int .u8 kd) := (kc_ BO0.out 0).trans rfl
  have fBO0_0 := kf_ BO0.out 0
  have zBO0_1 : wr.cell? ⟨go, 1, none⟩ = some (.int .i64 n0) := (kc_ BO0.out 1).trans rfl
  have fBO0_1 := kf_ BO0.out 1
  have zBO0_2 : wr.cell? ⟨go, 2, none⟩ = some (.int .i64 n1) := (kc_ BO0.out 2).trans rfl
  have fBO0_2 := kf_ BO0.out 2
  have zBO0_3 : wr.cell? ⟨go, 3, none⟩ = some (.int .i64 n2) := (kc_ BO0.out 3).trans rfl
  have fBO0_3 := kf_ BO0.out 3
  have zBO0_4 : wr.cell? ⟨go, 4, none⟩ = some (.int .i64 0) := (kc_ BO0.out 4).trans rfl
  have fBO0_4 := kf_ BO0.out 4
  have zBO0_5 : wr.cell? ⟨go, 5, none⟩ = some (.int .i64 0) := (kc_ BO0.out 5).trans rfl
  have fBO0_5 := kf_ BO0.out 5
  have zBO0_6 : wr.cell? ⟨go, 6, none⟩ = some (.int .i64 0) := (kc_ BO0.out 6).trans rfl
  have fBO0_6 := kf_ BO0.out 6
  have zBO0_7 : wr.cell? ⟨go, 7, none⟩ = some (.int .i64 0) := (kc_ BO0.out 7).trans rfl
  have fBO0_7 := kf_ BO0.out 7
  have zBO0_8 : wr.cell? ⟨go, 8, none⟩ = some (.int .i64 0) := (kc_ BO0.out 8).trans rfl
  have fBO0_8 := kf_ BO0.out 8
  have zBO0_9 : wr.cell? ⟨go, 9, none⟩ = some (.int .i64 0) := (kc_ BO0.out 9).trans rfl
  have fBO0_9 := kf_ BO0.out 9
  have zBO0_10 : wr.cell? ⟨go, 10, none⟩ = some (.slice none 0 0) := (kc_ BO0.out 10).trans rfl
  have fBO0_10 := kf_ BO0.out 10
  have zBO0_11 : wr.cell? ⟨go, 11, none⟩ = some (.slice none 0 0) := (kc_ BO0.out 11).trans rfl
  have fBO0_11 := kf_ BO0.out 11
  go_wp2_with (((with_reducible refine gate_store (t := 85) (p := 2) (v := .tmp 83) rfl ?_); refine sE 85 2 (.tmp 83) (sets go wr 0 [.int .u8 kd, .int .i64 n0, .int .i64 n1, .int .i64 n2, .int .i64 0, .int .i64 0, .int .i64 0, .int .i64 0, .int .i64 0, .int .i64 0, .slice none 0 0, .slice none 0 0]) ?_; intro w1 hw_; have BO1 := am_ (show w1.heap[go]? = some (.cells #[.int .u8 kd, .int .i64 n0, .int .i64 n1, .int .i64 n2, .int .i64 0, .int .i64 0, .int .i64 0, .int .i64 0, .int .i64 0, .int .i64 0, .slice none 0 0, .slice none 0 0] 85 (0, 0)) by (rw [hw_]; exact putO12_0_12 BO0.out ..)); have hf_ : ∀ i, i ≠ go → w1.heap[i]? = wr.heap[i]? := fun i hi => (by rw [hw_]; exact sets_far _ _ _ _ _ hi); have HB1 := am_ (show Below w.heap.size w w1 by (rw [hw_]; exact sets_below (HB0.out) Ggo.out)); have BS1 := am_ ((hf_ gs (Ne.symm Ngo_gs.out)).trans BS0.out); have HF1 := am_ (Kd.F_step HF0.out (fun k_ hk_ hlt_ => hf_ k_ (hk_.1))); clear hf_; clear hw_))
  refine bodyPost_ret (results_ct rfl _ _ go 85 #[.int .u8 kd, .int .i64 n0, .int .i64 n1, .int .i64 n2, .int .i64 0, .int .i64 0, .int .i64 0, .int .i64 0, .int .i64 0, .int .i64 0, .slice none 0 0, .slice none 0 0] (0, 0) _ rfl BO1.out Tryd.underlying85 rfl (by kernel_rfl)) rfl ?_
  exact ⟨_, _, _, _, _, _, _, _, _, _, _, _, _, _, _, _, rfl, (fun r_ hr_ => by cases hr_), HB1.out⟩
 | false =>
 rw [if_neg (by decide)] at he
 unfold link_open.fin at he
 by_cases c8 : 0 ≤ at_ ∧ at_ ≤ (body.length : Int)
 case neg => rw [if_neg c8] at he; exact absurd he (by simp)
 rw [if_pos c8] at he
 have c8n : at_.toNat ≤ body.length := by omega
 obtain ⟨ti, hti, hzz⟩ := Option.map_eq_some_iff.1 info5
 simp only [Prod.mk.injEq] at hzz
 have hcut := cut_from (P := Tryd.prog) 42 5 .i64 Tryd.underlying42 hti 1 hzz.2.1 Ab body.length cb at_ c8.1 c8.2
 have HCD := am_ (Kd.C_drop (Kd.F_now HF0.out) c8n HCB.out)
 have HLD := am_ (show (body.drop at_.toNat).length ≤ cb - at_.toNat by rw [List.length_drop]; have := HCB.out; omega)
 rw [← List.length_drop] at hcut
 obtain ⟨rs, hrs⟩ : ∃ rs, body.drop at_.toNat = rs := ⟨_, rfl⟩
 rw [hrs] at hcut HCD HLD he
 obtain ⟨Ad, hAd⟩ : ∃ Ad, (if cb = at_.toNat then Ab else Ab.map (·.add (at_.toNat * 1))) = Ad := ⟨_, rfl⟩
 rw [hAd] at hcut
 replace HCD := am_ (show Kd.C (Kd.int .u8) wr Ad rs.length rs from hAd ▸ HCD.out)
 obtain ⟨cd, hcd⟩ : ∃ cd, cb - at_.toNat = cd := ⟨_, rfl⟩
 rw [hcd] at hcut HLD
 clear hrs hAd hcd c8 c8n hti hzz
 have zBS0_0 : wr.cell? ⟨gs, 0, none⟩ = some (.int .u8 kd) := (kc_ BS0.out 0).trans rfl
 have zBS0_1 : wr.cell? ⟨gs, 1, none⟩ = some (.int .i64 sat) := (kc_ BS0.out 1).trans rfl
 have zBS0_2 : wr.cell? ⟨gs, 2, none⟩ = some (.slice Ab body.length cb) := (kc_ BS0.out 2).trans rfl
 have zBO0_0 : wr.cell? ⟨go, 0, none⟩ = some (.int .u8 kd) := (kc_ BO0.out 0).trans rfl
 have fBO0_0 := kf_ BO0.out 0
 have zBO0_1 : wr.cell? ⟨go, 1, none⟩ = some (.int .i64 n0) := (kc_ BO0.out 1).trans rfl
 have fBO0_1 := kf_ BO0.out 1
 have zBO0_2 : wr.cell? ⟨go, 2, none⟩ = some (.int .i64 n1) := (kc_ BO0.out 2).trans rfl
 have fBO0_2 := kf_ BO0.out 2
 have zBO0_3 : wr.cell? ⟨go, 3, none⟩ = some (.int .i64 n2) := (kc_ BO0.out 3).trans rfl
 have fBO0_3 := kf_ BO0.out 3
 have zBO0_4 : wr.cell? ⟨go, 4, none⟩ = some (.int .i64 0) := (kc_ BO0.out 4).trans rfl
 have fBO0_4 := kf_ BO0.out 4
 have zBO0_5 : wr.cell? ⟨go, 5, none⟩ = some (.int .i64 0) := (kc_ BO0.out 5).trans rfl
 have fBO0_5 := kf_ BO0.out 5
 have zBO0_6 : wr.cell? ⟨go, 6, none⟩ = some (.int .i64 0) := (kc_ BO0.out 6).trans rfl
 have fBO0_6 := kf_ BO0.out 6
 have zBO0_7 : wr.cell? ⟨go, 7, none⟩ = some (.int .i64 0) := (kc_ BO0.out 7).trans rfl
 have fBO0_7 := kf_ BO0.out 7
 have zBO0_8 : wr.cell? ⟨go, 8, none⟩ = some (.int .i64 0) := (kc_ BO0.out 8).trans rfl
 have fBO0_8 := kf_ BO0.out 8
 have zBO0_9 : wr.cell? ⟨go, 9, none⟩ = some (.int .i64 0) := (kc_ BO0.out 9).trans rfl
 have fBO0_9 := kf_ BO0.out 9
 have zBO0_10 : wr.cell? ⟨go, 10, none⟩ = some (.slice none 0 0) := (kc_ BO0.out 10).trans rfl
 have fBO0_10 := kf_ BO0.out 10
 have zBO0_11 : wr.cell? ⟨go, 11, none⟩ = some (.slice none 0 0) := (kc_ BO0.out 11).trans rfl
 have fBO0_11 := kf_ BO0.out 11
 by_cases c9 : kd = 1
 case pos =>
  rw [if_pos c9] at he
  subst c9
  obtain ⟨⟨r1, r2, r3, r4, r5, r6, r7, r8, r9⟩, hk9, he⟩ := Option.bind_eq_some_iff.mp he
  dsimp only at he
  have HTK := am_ hk9
  clear hk9
  by_cases c10 : r9 = 0
  case neg =>
   rw [if_neg c10] at he
   simp only [Option.some.injEq, Prod.mk.injEq] at he
   obtain ⟨rfl, rfl⟩ := he
   clear c10
   go_wp2_with (first | ((with_reducible refine gd_ (N := 94) rfl ?_); (try (refine gate_guard (by rfl) ?_; dsimp only)); refine gL (some 94) Tryd.func42 #[.slice Ad rs.length cd] ?_; refine (parcel_Take.calls k Ad cd rs r1 r2 r3 r4 r5 r6 r7 r8 r9 _ HCD.out HLD.out HTK.out).mono ?_; rintro e_ w1 ⟨v7, v8, rfl, hv, hs, hb⟩; refine ⟨_, rfl, ?_⟩; obtain ⟨A7, c7, e7⟩ := Kd.V_slice hv; obtain ⟨A8, c8, e8⟩ := Kd.S_slice hs; subst e7; subst e8; have hgo := blk_lt BO0.out; have hsz := bz_ HB0.out; have HV1 := am_ (Kd.V_mono (Kd.V_bound hv) (ok' := fun k_ => (w.heap.size ≤ k_ ∧ some k_ ≠ (Value.slice A8 r8.length c8).ownBlock) ∧ k_ ≠ go) (fun k_ hk_ => ⟨⟨by have := hk_.1.2.1; omega, hk_.1.1.2⟩, by have := hk_.1.2.1; omega⟩)); have HI1 := am_ (Kd.S_lower (Kd.S_mono (Kd.S_bound hs) (ok' := fun k_ => k_ ≠ go) (fun k_ hk_ => by have := hk_.2.1; omega)) hsz); clear hgo hsz; have HB1 := am_ (below_step HB0.out hb); have BO1 := am_ (blk_below BO0.out hb); have BS1 := am_ (blk_below BS0.out hb); have HF1 := am_ (Kd.F_step HF0.out (fun k_ hk_ hlt_ => hb.block k_ hlt_)); clear hv hs hb; have zBO1_4 : w1.cell? ⟨go, 4, none⟩ = some (.int .i64 0) := (kc_ BO1.out 4).trans rfl; have fBO1_4 := kf_ BO1.out 4; have zBO1_5 : w1.cell? ⟨go, 5, none⟩ = some (.int .i64 0) := (kc_ BO1.out 5).trans rfl; have fBO1_5 := kf_ BO1.out 5; have zBO1_6 : w1.cell? ⟨go, 6, none⟩ = some (.int .i64 0) := (kc_ BO1.out 6).trans rfl; have fBO1_6 := kf_ BO1.out 6; have zBO1_7 : w1.cell? ⟨go, 7, none⟩ = some (.int .i64 0) := (kc_ BO1.out 7).trans rfl; have fBO1_7 := kf_ BO1.out 7; have zBO1_8 : w1.cell? ⟨go, 8, none⟩ = some (.int .i64 0) := (kc_ BO1.out 8).trans rfl; have fBO1_8 := kf_ BO1.out 8; have zBO1_9 : w1.cell? ⟨go, 9, none⟩ = some (.int .i64 0) := (kc_ BO1.out 9).trans rfl; have fBO1_9 := kf_ BO1.out 9; have zBO1_10 : w1.cell? ⟨go, 10, none⟩ = some (.slice none 0 0) := (kc_ BO1.out 10).trans rfl; have fBO1_10 := kf_ BO1.out 10; have zBO1_11 : w1.cell? ⟨go, 11, none⟩ = some (.slice none 0 0) := (kc_ BO1.out 11).trans rfl; have fBO1_11 := kf_ BO1.out 11) | ((with_reducible refine gate_store (t := 37) (p := 97) (v := .tmp 95) rfl ?_); refine sE 37 97 (.tmp 95) (sets go w1 4 [.int .i64 r1, .int .i64 r2, .int .i64 r3, .int .i64 r4, .int .i64 r5, .int .i64 r6, .slice A7 r7.length c7, .slice A8 r8.length c8]) ?_; intro w2 hw_; have BO2 := am_ (show w2.heap[go]? = some (.cells #[.int .u8 1, .int .i64 n0, .int .i64 n1, .int .i64 n2, .int .i64 r1, .int .i64 r2, .int .i64 r3, .int .i64 r4, .int .i64 r5, .int .i64 r6, .slice A7 r7.length c7, .slice A8 r8.length c8] 85 (0, 0)) by (rw [hw_]; exact putO12_4_8 BO1.out ..)); have hf_ : ∀ i, i ≠ go → w2.heap[i]? = w1.heap[i]? := fun i hi => (by rw [hw_]; exact sets_far _ _ _ _ _ hi); have HB2 := am_ (show Below w.heap.size w w2 by (rw [hw_]; exact sets_below (HB1.out) Ggo.out)); have BS2 := am_ ((hf_ gs (Ne.symm Ngo_gs.out)).trans BS1.out); have HF2 := am_ (Kd.F_step HF1.out (fun k_ hk_ hlt_ => hf_ k_ (hk_.1))); have HV2 := am_ (Kd.V_step HV1.out (fun k_ hk_ hlt_ => hf_ k_ (hk_.2))); have HI2 := am_ (Kd.S_step HI1.out (fun k_ hk_ hlt_ => hf_ k_ (hk_))); clear hf_; obtain ⟨zBO2_0, zBO2_1, zBO2_2, zBO2_3, zBO2_4, zBO2_5, zBO2_6, zBO2_7, zBO2_8, zBO2_9, zBO2_10, zBO2_11, fBO2_0, fBO2_1, fBO2_2, fBO2_3, fBO2_4, fBO2_5, fBO2_6, fBO2_7, fBO2_8, fBO2_9, fBO2_10, fBO2_11⟩ := cz12 BO2.out; clear hw_) | ((with_reducible refine gate_store (t := 85) (p := 2) (v := .tmp 102) rfl ?_); refine sE 85 2 (.tmp 102) (sets go w2 0 [.int .u8 1, .int .i64 n0, .int .i64 n1, .int .i64 n2, .int .i64 r1, .int .i64 r2, .int .i64 r3, .int .i64 r4, .int .i64 r5, .int .i64 r6, .slice A7 r7.length c7, .slice A8 r8.length c8]) ?_; intro w3 hw_; have BO3 := am_ (show w3.heap[go]? = some (.cells #[.int .u8 1, .int .i64 n0, .int .i64 n1, .int .i64 n2, .int .i64 r1, .int .i64 r2, .int .i64 r3, .int .i64 r4, .int .i64 r5, .int .i64 r6, .slice A7 r7.length c7, .slice A8 r8.length c8] 85 (0, 0)) by (rw [hw_]; exact putO12_0_12 BO2.out ..)); have hf_ : ∀ i, i ≠ go → w3.heap[i]? = w2.heap[i]? := fun i hi => (by rw [hw_]; exact sets_far _ _ _ _ _ hi); have HB3 := am_ (show Below w.heap.size w w3 by (rw [hw_]; exact sets_below (HB2.out) Ggo.out)); have BS3 := am_ ((hf_ gs (Ne.symm Ngo_gs.out)).trans BS2.out); have HF3 := am_ (Kd.F_step HF2.out (fun k_ hk_ hlt_ => hf_ k_ (hk_.1))); have HV3 := am_ (Kd.V_step HV2.out (fun k_ hk_ hlt_ => hf_ k_ (hk_.2))); have HI3 := am_ (Kd.S_step HI2.out (fun k_ hk_ hlt_ => hf_ k_ (hk_))); clear hf_; clear hw_))
   refine bodyPost_ret (results_ct rfl _ _ go 85 #[.int .u8 1, .int .i64 n0, .int .i64 n1, .int .i64 n2, .int .i64 r1, .int .i64 r2, .int .i64 r3, .int .i64 r4, .int .i64 r5, .int .i64 r6, .slice A7 r7.length c7, .slice A8 r8.length c8] (0, 0) _ rfl BO3.out Tryd.underlying85 rfl (by kernel_rfl)) rfl ?_
   exact ⟨_, _, _, _, _, _, _, _, _, _, _, _, _, _, _, _, rfl, (fun r_ hr_ => by cases hr_), HB3.out⟩
  rw [if_pos c10] at he
  subst c10
  simp only [Option.some.injEq, Prod.mk.injEq] at he
  obtain ⟨rfl, hR⟩ := he
  have HRR := am_ hR
  clear hR
  go_wp2_with (first | ((with_reducible refine gd_ (N := 94) rfl ?_); (try (refine gate_guard (by rfl) ?_; dsimp only)); refine gL (some 94) Tryd.func42 #[.slice Ad rs.length cd] ?_; refine (parcel_Take.calls k Ad cd rs r1 r2 r3 r4 r5 r6 r7 r8 0 _ HCD.out HLD.out HTK.out).mono ?_; rintro e_ w1 ⟨v7, v8, rfl, hv, hs, hb⟩; refine ⟨_, rfl, ?_⟩; obtain ⟨A7, c7, e7⟩ := Kd.V_slice hv; obtain ⟨A8, c8, e8⟩ := Kd.S_slice hs; subst e7; subst e8; have hgo := blk_lt BO0.out; have hsz := bz_ HB0.out; have HV1 := am_ (Kd.V_mono (Kd.V_bound hv) (ok' := fun k_ => (w.heap.size ≤ k_ ∧ some k_ ≠ (Value.slice A8 r8.length c8).ownBlock) ∧ k_ ≠ go) (fun k_ hk_ => ⟨⟨by have := hk_.1.2.1; omega, hk_.1.1.2⟩, by have := hk_.1.2.1; omega⟩)); have HI1 := am_ (Kd.S_lower (Kd.S_mono (Kd.S_bound hs) (ok' := fun k_ => k_ ≠ go) (fun k_ hk_ => by have := hk_.2.1; omega)) hsz); clear hgo hsz; have HB1 := am_ (below_step HB0.out hb); have BO1 := am_ (blk_below BO0.out hb); have BS1 := am_ (blk_below BS0.out hb); have HF1 := am_ (Kd.F_step HF0.out (fun k_ hk_ hlt_ => hb.block k_ hlt_)); clear hv hs hb; have zBO1_4 : w1.cell? ⟨go, 4, none⟩ = some (.int .i64 0) := (kc_ BO1.out 4).trans rfl; have fBO1_4 := kf_ BO1.out 4; have zBO1_5 : w1.cell? ⟨go, 5, none⟩ = some (.int .i64 0) := (kc_ BO1.out 5).trans rfl; have fBO1_5 := kf_ BO1.out 5; have zBO1_6 : w1.cell? ⟨go, 6, none⟩ = some (.int .i64 0) := (kc_ BO1.out 6).trans rfl; have fBO1_6 := kf_ BO1.out 6; have zBO1_7 : w1.cell? ⟨go, 7, none⟩ = some (.int .i64 0) := (kc_ BO1.out 7).trans rfl; have fBO1_7 := kf_ BO1.out 7; have zBO1_8 : w1.cell? ⟨go, 8, none⟩ = some (.int .i64 0) := (kc_ BO1.out 8).trans rfl; have fBO1_8 := kf_ BO1.out 8; have zBO1_9 : w1.cell? ⟨go, 9, none⟩ = some (.int .i64 0) := (kc_ BO1.out 9).trans rfl; have fBO1_9 := kf_ BO1.out 9; have zBO1_10 : w1.cell? ⟨go, 10, none⟩ = some (.slice none 0 0) := (kc_ BO1.out 10).trans rfl; have fBO1_10 := kf_ BO1.out 10; have zBO1_11 : w1.cell? ⟨go, 11, none⟩ = some (.slice none 0 0) := (kc_ BO1.out 11).trans rfl; have fBO1_11 := kf_ BO1.out 11) | ((with_reducible refine gate_store (t := 37) (p := 97) (v := .tmp 95) rfl ?_); refine sE 37 97 (.tmp 95) (sets go w1 4 [.int .i64 r1, .int .i64 r2, .int .i64 r3, .int .i64 r4, .int .i64 r5, .int .i64 r6, .slice A7 r7.length c7, .slice A8 r8.length c8]) ?_; intro w2 hw_; have BO2 := am_ (show w2.heap[go]? = some (.cells #[.int .u8 1, .int .i64 n0, .int .i64 n1, .int .i64 n2, .int .i64 r1, .int .i64 r2, .int .i64 r3, .int .i64 r4, .int .i64 r5, .int .i64 r6, .slice A7 r7.length c7, .slice A8 r8.length c8] 85 (0, 0)) by (rw [hw_]; exact putO12_4_8 BO1.out ..)); have hf_ : ∀ i, i ≠ go → w2.heap[i]? = w1.heap[i]? := fun i hi => (by rw [hw_]; exact sets_far _ _ _ _ _ hi); have HB2 := am_ (show Below w.heap.size w w2 by (rw [hw_]; exact sets_below (HB1.out) Ggo.out)); have BS2 := am_ ((hf_ gs (Ne.symm Ngo_gs.out)).trans BS1.out); have HF2 := am_ (Kd.F_step HF1.out (fun k_ hk_ hlt_ => hf_ k_ (hk_.1))); have HV2 := am_ (Kd.V_step HV1.out (fun k_ hk_ hlt_ => hf_ k_ (hk_.2))); have HI2 := am_ (Kd.S_step HI1.out (fun k_ hk_ hlt_ => hf_ k_ (hk_))); clear hf_; obtain ⟨zBO2_0, zBO2_1, zBO2_2, zBO2_3, zBO2_4, zBO2_5, zBO2_6, zBO2_7, zBO2_8, zBO2_9, zBO2_10, zBO2_11, fBO2_0, fBO2_1, fBO2_2, fBO2_3, fBO2_4, fBO2_5, fBO2_6, fBO2_7, fBO2_8, fBO2_9, fBO2_10, fBO2_11⟩ := cz12 BO2.out; clear hw_) | ((with_reducible refine gate_store (t := 85) (p := 2) (v := .tmp 102) rfl ?_); refine sE 85 2 (.tmp 102) (sets go w2 0 [.int .u8 1, .int .i64 n0, .int .i64 n1, .int .i64 n2, .int .i64 r1, .int .i64 r2, .int .i64 r3, .int .i64 r4, .int .i64 r5, .int .i64 r6, .slice A7 r7.length c7, .slice A8 r8.length c8]) ?_; intro w3 hw_; have BO3 := am_ (show w3.heap[go]? = some (.cells #[.int .u8 1, .int .i64 n0, .int .i64 n1, .int .i64 n2, .int .i64 r1, .int .i64 r2, .int .i64 r3, .int .i64 r4, .int .i64 r5, .int .i64 r6, .slice A7 r7.length c7, .slice A8 r8.length c8] 85 (0, 0)) by (rw [hw_]; exact putO12_0_12 BO2.out ..)); have hf_ : ∀ i, i ≠ go → w3.heap[i]? = w2.heap[i]? := fun i hi => (by rw [hw_]; exact sets_far _ _ _ _ _ hi); have HB3 := am_ (show Below w.heap.size w w3 by (rw [hw_]; exact sets_below (HB2.out) Ggo.out)); have BS3 := am_ ((hf_ gs (Ne.symm Ngo_gs.out)).trans BS2.out); have HF3 := am_ (Kd.F_step HF2.out (fun k_ hk_ hlt_ => hf_ k_ (hk_.1))); have HV3 := am_ (Kd.V_step HV2.out (fun k_ hk_ hlt_ => hf_ k_ (hk_.2))); have HI3 := am_ (Kd.S_step HI2.out (fun k_ hk_ hlt_ => hf_ k_ (hk_))); clear hf_; clear hw_))
  refine bodyPost_ret (results_ct rfl _ _ go 85 #[.int .u8 1, .int .i64 n0, .int .i64 n1, .int .i64 n2, .int .i64 r1, .int .i64 r2, .int .i64 r3, .int .i64 r4, .int .i64 r5, .int .i64 r6, .slice A7 r7.length c7, .slice A8 r8.length c8] (0, 0) _ rfl BO3.out Tryd.underlying85 rfl (by kernel_rfl)) rfl ?_
  exact ⟨_, _, _, _, _, _, _, _, _, _, _, _, _, _, _, _, rfl, (fun r_ hr_ => by cases (HRR.out.trans hr_); exact ⟨⟨rfl, rfl, rfl, rfl, rfl, rfl, rfl, rfl, rfl, rfl⟩, rfl, rfl, Kd.V_mono HV3.out (fun _ hk_ => hk_.1), Kd.S_mono HI3.out (fun _ _ => trivial)⟩), HB3.out⟩
 rw [if_neg c9] at he
 have b9 : (kd == 1) = false := beq_eq_false_iff_ne.mpr c9
 by_cases c11 : ((rs.length : Nat) : Int) > 0
 case pos =>
  rw [if_pos c11] at he
  simp only [Option.some.injEq, Prod.mk.injEq] at he
  obtain ⟨rfl, rfl⟩ := he
  have b11 : decide (0 < rs.length) = true := decide_eq_true (by omega)
  clear c11 c9
  go_wp2_with (((with_reducible refine gate_store (t := 85) (p := 2) (v := .tmp 102) rfl ?_); refine sE 85 2 (.tmp 102) (sets go wr 0 [.int .u8 kd, .int .i64 n0, .int .i64 n1, .int .i64 n2, .int .i64 0, .int .i64 0, .int .i64 0, .int .i64 0, .int .i64 0, .int .i64 0, .slice none 0 0, .slice none 0 0]) ?_; intro w1 hw_; have BO1 := am_ (show w1.heap[go]? = some (.cells #[.int .u8 kd, .int .i64 n0, .int .i64 n1, .int .i64 n2, .int .i64 0, .int .i64 0, .int .i64 0, .int .i64 0, .int .i64 0, .int .i64 0, .slice none 0 0, .slice none 0 0] 85 (0, 0)) by (rw [hw_]; exact putO12_0_12 BO0.out ..)); have hf_ : ∀ i, i ≠ go → w1.heap[i]? = wr.heap[i]? := fun i hi => (by rw [hw_]; exact sets_far _ _ _ _ _ hi); have HB1 := am_ (show Below w.heap.size w w1 by (rw [hw_]; exact sets_below (HB0.out) Ggo.out)); have BS1 := am_ ((hf_ gs (Ne.symm Ngo_gs.out)).trans BS0.out); have HF1 := am_ (Kd.F_step HF0.out (fun k_ hk_ hlt_ => hf_ k_ (hk_.1))); clear hf_; clear hw_))
  refine bodyPost_ret (results_ct rfl _ _ go 85 #[.int .u8 kd, .int .i64 n0, .int .i64 n1, .int .i64 n2, .int .i64 0, .int .i64 0, .int .i64 0, .int .i64 0, .int .i64 0, .int .i64 0, .slice none 0 0, .slice none 0 0] (0, 0) _ rfl BO1.out Tryd.underlying85 rfl (by kernel_rfl)) rfl ?_
  exact ⟨_, _, _, _, _, _, _, _, _, _, _, _, _, _, _, _, rfl, (fun r_ hr_ => by cases hr_), HB1.out⟩
 rw [if_neg c11] at he
 simp only [Option.some.injEq, Prod.mk.injEq] at he
 obtain ⟨rfl, hR⟩ := he
 have HRR := am_ hR
 clear hR
 have b11 : decide (0 < rs.length) = false := decide_eq_false (by omega)
 clear c11 c9
 go_wp2_with (((with_reducible refine gate_store (t := 85) (p := 2) (v := .tmp 102) rfl ?_); refine sE 85 2 (.tmp 102) (sets go wr 0 [.int .u8 kd, .int .i64 n0, .int .i64 n1, .int .i64 n2, .int .i64 0, .int .i64 0, .int .i64 0, .int .i64 0, .int .i64 0, .int .i64 0, .slice none 0 0, .slice none 0 0]) ?_; intro w1 hw_; have BO1 := am_ (show w1.heap[go]? = some (.cells #[.int .u8 kd, .int .i64 n0, .int .i64 n1, .int .i64 n2, .int .i64 0, .int .i64 0, .int .i64 0, .int .i64 0, .int .i64 0, .int .i64 0, .slice none 0 0, .slice none 0 0] 85 (0, 0)) by (rw [hw_]; exact putO12_0_12 BO0.out ..)); have hf_ : ∀ i, i ≠ go → w1.heap[i]? = wr.heap[i]? := fun i hi => (by rw [hw_]; exact sets_far _ _ _ _ _ hi); have HB1 := am_ (show Below w.heap.size w w1 by (rw [hw_]; exact sets_below (HB0.out) Ggo.out)); have BS1 := am_ ((hf_ gs (Ne.symm Ngo_gs.out)).trans BS0.out); have HF1 := am_ (Kd.F_step HF0.out (fun k_ hk_ hlt_ => hf_ k_ (hk_.1))); clear hf_; clear hw_))
 refine bodyPost_ret (results_ct rfl _ _ go 85 #[.int .u8 kd, .int .i64 n0, .int .i64 n1, .int .i64 n2, .int .i64 0, .int .i64 0, .int .i64 0, .int .i64 0, .int .i64 0, .int .i64 0, .slice none 0 0, .slice none 0 0] (0, 0) _ rfl BO1.out Tryd.underlying85 rfl (by kernel_rfl)) rfl ?_
 exact ⟨_, _, _, _, _, _, _, _, _, _, _, _, _, _, _, _, rfl, (fun r_ hr_ => by cases (HRR.out.trans hr_); exact ⟨⟨rfl, rfl, rfl, rfl, rfl, rfl, rfl, rfl, rfl, rfl⟩, rfl, rfl, Kd.V_nil _ _ _ _ _, Kd.S_nil _ _ _ _ _⟩), HB1.out⟩
end Go.Proofs.YtoandmnefgimoaaDoor.PL
