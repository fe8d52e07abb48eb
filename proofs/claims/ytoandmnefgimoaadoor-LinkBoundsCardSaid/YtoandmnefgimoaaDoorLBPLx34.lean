import Derived.Test.YtoandmnefgimoaaDoorLBPLx0
import Derived.Test.YtoandmnefgimoaaDoorLBPLx2
import Derived.Test.YtoandmnefgimoaaDoorLBPLx7
import Derived.Test.YtoandmnefgimoaaDoorLBPLx8
import Derived.Test.YtoandmnefgimoaaDoorLBPLx9
import Derived.Test.YtoandmnefgimoaaDoorLBPLx12
import Derived.Test.YtoandmnefgimoaaDoorLBPLx13
import Derived.Test.YtoandmnefgimoaaDoorLBPLx20
import Derived.Test.YtoandmnefgimoaaDoorLBPLx22
import Derived.Test.YtoandmnefgimoaaDoorLBPLx25
import Derived.Test.YtoandmnefgimoaaDoorLBPLx26
import Derived.Test.YtoandmnefgimoaaDoorLBPLx28
import Derived.Test.YtoandmnefgimoaaDoorLBPLx33
namespace Go.Proofs.YtoandmnefgimoaaDoor.PL
open Go.RowKit Go.Proofs.YtoandmnefgimoaaDoorW.PrintWords Go.Proofs.YtoandmnefgimoaaDoorW.PrintLast Go.Proofs.YtoandmnefgimoaaDoorW.PrintMore
set_option linter.unusedVariables false
set_option linter.unusedSimpArgs false
def grapevinelaw14_LinkBounds.okR : Option OpenR → Bool
 | none => true
 | some r => decide (1 ≤ r.n2) && decide (r.n2 ≤ 1099511627776)
theorem grapevinelaw14_LinkBounds.okR_of {R : Option OpenR} (h : grapevinelaw14_LinkBounds.okR R = true) : ∀ r, R = some r → 1 ≤ r.n2 ∧ r.n2 ≤ 1099511627776 := by
 intro r hr
 subst hr
 simpa [grapevinelaw14_LinkBounds.okR] using h
def grapevinelaw14_LinkBounds.hdW : List S79 → Option (Int × List Int × List S79)
 | [] => none
 | x :: xs => some (x.f0, x.f1, xs)
theorem grapevinelaw14_LinkBounds.hdW_of {l : List S79} {q : Int × List Int × List S79} (h : grapevinelaw14_LinkBounds.hdW l = some q) : l = ⟨q.1, q.2.1⟩ :: q.2.2 := by
 cases l with
 | nil => cases h
 | cons x xs => cases h; rfl
def grapevinelaw14_LinkBounds.sent (n : Int) (L : LK) (p : List Int × Int) : Option LK :=
 if sendE L p.2 = 0 then (if (L.ws.length : Int) < n ∧ ((sendL L p.1 p.2).ws.length : Int) = (L.ws.length : Int) + 1 then some (sendL L p.1 p.2) else none) else if (sendL L p.1 p.2).ws.length = L.ws.length then some (sendL L p.1 p.2) else none
def grapevinelaw14_LinkBounds.took (k : Nat) (L : LK) (b : List Int) : Option LK := (link_open.F k b).bind fun q => if grapevinelaw14_LinkBounds.okR q.2 = true then (link_Link_Take.F L 3 q.1 q.2).bind fun t => some t.2.2 else none
def grapevinelaw14_LinkBounds.act (k : Nat) (n : Int) (L : LK) (d : S57) : Option LK :=
 if d.f0 = 0 then (parcel_Put.f k d.f1.f0 d.f1.f1 d.f1.f2 d.f1.f3 d.f1.f4 d.f1.f5 d.f1.f6 d.f1.f7).bind fun p => grapevinelaw14_LinkBounds.sent n L p else if d.f0 = 1 then some (putL L 2 []) else if d.f0 = 3 then (grapevinelaw14_frame.f k d.f0 d.f1.f0 d.f1.f1 d.f1.f2 d.f1.f3 d.f1.f4 d.f1.f5 d.f1.f6 d.f1.f7 d.f2 d.f3 d.f4 d.f5 d.f6 d.f7).bind fun b => grapevinelaw14_LinkBounds.took k L b else some L
def grapevinelaw14_LinkBounds.deed (k : Nat) (n : Int) (L : LK) (d : S57) : Option LK :=
 if L.ws.length < 1000 ∧ 0 ≤ L.high ∧ L.high ≤ 1099511627776 then (grapevinelaw14_LinkBounds.act k n L d).bind fun L1 => if (L1.ws.length : Int) ≤ n then some L1 else none else none
def grapevinelaw14_LinkBounds.deeds (k : Nat) (n : Int) : Nat → List S57 → LK → Option LK
 | 0, _, L => some L
 | _ + 1, [], L => some L
 | m + 1, d :: ds, L => (grapevinelaw14_LinkBounds.deed k n L d).bind fun L1 => grapevinelaw14_LinkBounds.deeds k n m ds L1
def grapevinelaw14_LinkBounds.pulls (k : Nat) : Nat → LK → Option LK
 | 0, L => if L.ws = [] then some L else none
 | m + 1, L => (grapevinelaw14_LinkBounds.hdW L.ws).bind fun h => (link_Link_Pull.F k L.own L.other (L.made + 1) h.1 h.2.1).bind fun r => if 8 ≤ (r.length : Int) ∧ 0 ≤ L.made ∧ L.made < 1099511627776 then grapevinelaw14_LinkBounds.pulls k m { L with ws := h.2.2, made := L.made + 1 } else none
def grapevinelaw14_LinkBounds.f (k : Nat) (a : Int) (l : List S57) : Option Bool :=
 (grapevinelaw14_LinkBounds.deeds k (1 + Int.tmod a 32) 200 l ⟨1, 0, 1 + Int.tmod a 32, 0, 0, -1, 0, []⟩).bind fun L => if L.ws.length < 1000 then (grapevinelaw14_LinkBounds.pulls k L.ws.length L).bind fun _ => (grapevinelaw14_live.f k).bind fun t => if t = true then some true else none else none
set_option maxHeartbeats 100000000 in
set_option maxRecDepth 100000 in
theorem grapevinelaw14_LinkBounds.calls (k : Nat) (a : Int) (A : Option Addr) (c : Nat) (l : List S57) (r : Bool) (w : World) (ha0 : 0 ≤ a) (ha1 : a < 256) (hr : Kd.C k57 w A l.length l) (hc : l.length ≤ c) (ht : TabW w) (h : grapevinelaw14_LinkBounds.f k a l = some r) :
 Calls Tryd.prog 4 #[.int .u8 a, .slice A l.length c] w fun e w' => e = .returned (.bool r) ∧ Below w.heap.size w w' := by
 have hu := Tryd.underlying37
 have hud := Tryd.underlying57
 have HR := am_ hr
 have HC := am_ hc
 have HT := am_ ht
 have HA := am_ (And.intro ha0 ha1)
 unfold grapevinelaw14_LinkBounds.f at h
 obtain ⟨n, hn⟩ : ∃ n, n = 1 + Int.tmod a 32 := ⟨_, rfl⟩
 rw [← hn] at h
 have HN := am_ (show 1 ≤ n ∧ n ≤ 32 by have h1_ := Int.tmod_nonneg 32 ha0; have h2_ := Int.tmod_lt_of_pos a (show (0 : Int) < 32 by decide); omega)
 obtain ⟨L1, hd, h⟩ := Option.bind_eq_some_iff.mp h
 by_cases c1 : L1.ws.length < 1000
 case neg => rw [if_neg c1] at h; exact absurd h (by simp)
 rw [if_pos c1] at h
 obtain ⟨L2, hp, h⟩ := Option.bind_eq_some_iff.mp h
 obtain ⟨t, hlv, h⟩ := Option.bind_eq_some_iff.mp h
 by_cases c2 : t = true
 case neg => rw [if_neg c2] at h; exact absurd h (by simp)
 rw [if_pos c2] at h
 subst c2
 obtain rfl := Option.some.inj h
 have HD := am_ hd
 have HP := am_ hp
 have HLV := am_ hlv
 have HL1 := am_ c1
 have hwa : wrap64 a = a := by unfold wrap64; omega
 have hwn : wrap64 (1 + Int.tmod a 32) = n := by rw [← hn]; have := HN.out; unfold wrap64; omega
 have HNE := am_ hn
 clear hr hc ht h hd hp hlv c1 ha0 ha1 hn
 go_enter Tryd.func4, Tryd.ntmps4
 go_wp2_with (first | ((with_reducible refine gd_ (N := 23) rfl ?_); (try (refine gate_guard (by rfl) ?_; dsimp only)); rw [hwn]; refine gL (some 23) Tryd.func7 #[.int .i64 1, .int .i64 n] ?_; refine (link_New.calls 1 n _ (by decide) (by decide) HN.out.1 HN.out.2).mono ?_; rintro e_ w1 ⟨g, rfl, hl, hb⟩; refine ⟨_, rfl, ?_⟩; have HL1_ := am_ hl; have HB1 := am_ hb; clear hl hb))
 go_loopg [8] 201 (fun kq v8 w' => ∃ (i : Int) (L : LK), v8 = .int .i64 i ∧ Aside0 (0 ≤ i ∧ i ≤ (l.length : Int) ∧ i ≤ 200 ∧ 201 ≤ kq + i.toNat) ∧ Aside0 (grapevinelaw14_LinkBounds.deeds k n (200 - i.toNat) (l.drop i.toNat) L = some L1) ∧ Aside0 (LKat w' (fun k => w.heap.size ≤ k) g L) ∧ Aside0 (Below w.heap.size w w'))
 case atStart => exact ⟨0, _, rfl, ⟨by omega⟩, HD, HL1_, HB1⟩
 case round =>
 obtain ⟨i, L, rfl, HI, HNR, HL0, HB0⟩ := hrel
 clear HB1 HL1_ HD
 have h0 := HI.out.1
 by_cases hi : i < (l.length : Int)
 case pos =>
  have p1_ := eq_true hi
  by_cases h2 : i < 200
  case pos =>
   have p2_ := eq_true h2
   have p0_ := eq_true h0
   have hlt : i.toNat < l.length := by omega
   have p3_ := eq_true hlt
   obtain ⟨ad, A7, c7, A8, c8, A13, c13, hA, q0, q1, q2, q3, q4, q5, q6, q7, q8, q9, q10, q11, q12, q13, q14, l7, g7, l8, g8, l13, g13⟩ := at_T57 HR.out i h0 hi
   obtain ⟨d, hd⟩ : ∃ d : S57, rd_T57 l i = d := ⟨_, rfl⟩
   rw [hd] at q0 q1 q2 q3 q4 q5 q6 q7 q8 q9 q10 q11 q12 q13 q14 l7 g7 l8 g8 l13 g13
   have hje : l[i.toNat] = d := by rw [← hd]; unfold rd_T57; rw [List.getD_eq_getElem?_getD, List.getElem?_eq_getElem hlt]; rfl
   have hdr : l.drop i.toNat = d :: l.drop (i.toNat + 1) := by rw [List.drop_eq_getElem_cons hlt, hje]
   subst hA
   have hnr := HNR.out
   rw [hdr, show 200 - i.toNat = (200 - (i.toNat + 1)) + 1 by omega] at hnr
   obtain ⟨L3, hde, hrest⟩ := Option.bind_eq_some_iff.mp hnr
   have HREST := am_ hrest
   clear hnr hrest hdr hje hd HNR
   unfold grapevinelaw14_LinkBounds.deed at hde
   by_cases hq : L.ws.length < 1000 ∧ 0 ≤ L.high ∧ L.high ≤ 1099511627776
   case neg => rw [if_neg hq] at hde; exact absurd hde (by simp)
   rw [if_pos hq] at hde
   obtain ⟨L4, hac, hde⟩ := Option.bind_eq_some_iff.mp hde
   by_cases hln : (L4.ws.length : Int) ≤ n
   case neg => rw [if_neg hln] at hde; exact absurd hde (by simp)
   rw [if_pos hln] at hde
   obtain rfl : L4 = L3 := Option.some.inj hde
   have HQ := am_ hq
   have HLN := decide_eq_false (show ¬ ((L4.ws.length : Int) > n) by omega)
   clear hde hq hln
   have hw_ : wrap64 (i + 1) = i + 1 := by unfold wrap64; omega
   replace q0 := (HB0.out.cell (World.block_lt_of_cell? w _ q0)).trans q0
   replace q1 := (HB0.out.cell (World.block_lt_of_cell? w _ q1)).trans q1
   replace q2 := (HB0.out.cell (World.block_lt_of_cell? w _ q2)).trans q2
   replace q3 := (HB0.out.cell (World.block_lt_of_cell? w _ q3)).trans q3
   replace q4 := (HB0.out.cell (World.block_lt_of_cell? w _ q4)).trans q4
   replace q5 := (HB0.out.cell (World.block_lt_of_cell? w _ q5)).trans q5
   replace q6 := (HB0.out.cell (World.block_lt_of_cell? w _ q6)).trans q6
   replace q7 := (HB0.out.cell (World.block_lt_of_cell? w _ q7)).trans q7
   replace q8 := (HB0.out.cell (World.block_lt_of_cell? w _ q8)).trans q8
   replace q9 := (HB0.out.cell (World.block_lt_of_cell? w _ q9)).trans q9
   replace q10 := (HB0.out.cell (World.block_lt_of_cell? w _ q10)).trans q10
   replace q11 := (HB0.out.cell (World.block_lt_of_cell? w _ q11)).trans q11
   replace q12 := (HB0.out.cell (World.block_lt_of_cell? w _ q12)).trans q12
   replace q13 := (HB0.out.cell (World.block_lt_of_cell? w _ q13)).trans q13
   replace q14 := (HB0.out.cell (World.block_lt_of_cell? w _ q14)).trans q14
   have G7 := am_ g7
   have G8 := am_ g8
   have G13 := am_ g13
   have L7 := am_ l7
   have L8 := am_ l8
   have L13 := am_ l13
   clear g7 g8 g13 l7 l8 l13
   cases gk with
   | zero => exact absurd HI.out (by omega)
   | succ k2 =>
   unfold grapevinelaw14_LinkBounds.act at hac
   by_cases d0 : d.f0 = 0
   case pos =>
    rw [if_pos d0] at hac
    have b0 : (d.f0 == 0) = true := beq_iff_eq.mpr d0
    obtain ⟨⟨r1, r2⟩, hpu, hac⟩ := Option.bind_eq_some_iff.mp hac
    unfold grapevinelaw14_LinkBounds.sent at hac
    dsimp only at hac
    have HPU := am_ hpu
    clear hpu d0
    by_cases e1 : sendE L r2 = 0
    case pos =>
     rw [if_pos e1] at hac
     by_cases e2 : (L.ws.length : Int) < n ∧ ((sendL L r1 r2).ws.length : Int) = (L.ws.length : Int) + 1
     case neg => rw [if_neg e2] at hac; exact absurd hac (by simp)
     rw [if_pos e2] at hac
     obtain rfl : sendL L r1 r2 = L4 := Option.some.inj hac
     have b1 := decide_eq_false (show ¬ ((L.ws.length : Int) ≥ n) by omega)
     have hw2 : wrap64 ((L.ws.length : Int) + 1) = (L.ws.length : Int) + 1 := by have := HQ.out.1; unfold wrap64; omega
     have b2 : (((sendL L r1 r2).ws.length : Int) != (L.ws.length : Int) + 1) = false := bne_eq_false_iff_eq.mpr e2.2
     clear e2 hac
     go_wp2_with (first | ((with_reducible refine gd_ (N := 50) rfl ?_); (try (refine gate_guard (by rfl) ?_; dsimp only)); refine gL (some 50) Tryd.func15 #[.pointer (some ⟨g, 0, none⟩)] ?_; refine (waits_calls g L (fun k => w.heap.size ≤ k) _ HL0.out).mono ?_; rintro e_ w_ ⟨rfl, rfl⟩; refine ⟨_, rfl, ?_⟩) | ((with_reducible refine gd_ (N := 57) rfl ?_); (try (refine gate_guard (by rfl) ?_; dsimp only)); refine gL (some 57) Tryd.func9 #[.pointer (some ⟨g, 0, none⟩), .agg #[.int .i64 d.f1.f0, .int .i64 d.f1.f1, .int .i64 d.f1.f2, .int .i64 d.f1.f3, .int .i64 d.f1.f4, .int .i64 d.f1.f5, .slice A7 d.f1.f6.length c7, .slice A8 d.f1.f7.length c8]] ?_; refine (link_Link_Send.calls k w.heap.size g L (fun k => w.heap.size ≤ k) d.f1.f0 d.f1.f1 d.f1.f2 d.f1.f3 d.f1.f4 d.f1.f5 A7 c7 d.f1.f6 A8 c8 d.f1.f7 r1 r2 _ (Kd.C_below G7.out HB0.out) L7.out (Kd.C_below G8.out HB0.out) L8.out HPU.out HL0.out HQ.out.1 (fun _ h_ => h_) HB0.out.size).mono ?_; rintro e_ w1 ⟨he_, hl, hk, hb⟩; rw [e1] at he_; subst he_; refine ⟨_, rfl, ?_⟩; have HB1 := am_ (HB0.out.trans hb); have HL1 := am_ (hl.mono (ok' := fun k => w.heap.size ≤ k) (fun k_ hk_ => hk_.elim id (Nat.le_trans HB0.out.size))); clear hl hk hb) | ((with_reducible refine gd_ (N := 66) rfl ?_); (try (refine gate_guard (by rfl) ?_; dsimp only)); refine gL (some 66) Tryd.func15 #[.pointer (some ⟨g, 0, none⟩)] ?_; refine (waits_calls g (sendL L r1 r2) (fun k => w.heap.size ≤ k) _ HL1.out).mono ?_; rintro e_ w_ ⟨rfl, rfl⟩; refine ⟨_, rfl, ?_⟩) | ((with_reducible refine gd_ (N := 96) rfl ?_); (try (refine gate_guard (by rfl) ?_; dsimp only)); refine gL (some 96) Tryd.func15 #[.pointer (some ⟨g, 0, none⟩)] ?_; refine (waits_calls g (sendL L r1 r2) (fun k => w.heap.size ≤ k) _ HL1.out).mono ?_; rintro e_ w_ ⟨rfl, rfl⟩; refine ⟨_, rfl, ?_⟩) | (refine skip_guard (by rfl) ?_))
     go_roundg k2
     case measure => omega
     case rel => exact ⟨i + 1, sendL L r1 r2, (by first | rfl | rw [hw_]), ⟨by have := HI.out; omega⟩, ⟨by rw [show (i + 1).toNat = i.toNat + 1 by omega]; exact HREST.out⟩, HL1, HB1⟩
    rw [if_neg e1] at hac
    by_cases e2 : (sendL L r1 r2).ws.length = L.ws.length
    case neg => rw [if_neg e2] at hac; exact absurd hac (by simp)
    rw [if_pos e2] at hac
    obtain rfl : sendL L r1 r2 = L4 := Option.some.inj hac
    have b1 : (sendE L r2 == 0) = false := beq_eq_false_iff_ne.mpr e1
    have b2 : (sendE L r2 != 0) = true := bne_iff_ne.mpr e1
    have b3 : (((sendL L r1 r2).ws.length : Int) != (L.ws.length : Int)) = false := bne_eq_false_iff_eq.mpr (by rw [e2])
    clear e1 e2 hac
    go_wp2_with (first | ((with_reducible refine gd_ (N := 50) rfl ?_); (try (refine gate_guard (by rfl) ?_; dsimp only)); refine gL (some 50) Tryd.func15 #[.pointer (some ⟨g, 0, none⟩)] ?_; refine (waits_calls g L (fun k => w.heap.size ≤ k) _ HL0.out).mono ?_; rintro e_ w_ ⟨rfl, rfl⟩; refine ⟨_, rfl, ?_⟩) | ((with_reducible refine gd_ (N := 57) rfl ?_); (try (refine gate_guard (by rfl) ?_; dsimp only)); refine gL (some 57) Tryd.func9 #[.pointer (some ⟨g, 0, none⟩), .agg #[.int .i64 d.f1.f0, .int .i64 d.f1.f1, .int .i64 d.f1.f2, .int .i64 d.f1.f3, .int .i64 d.f1.f4, .int .i64 d.f1.f5, .slice A7 d.f1.f6.length c7, .slice A8 d.f1.f7.length c8]] ?_; refine (link_Link_Send.calls k w.heap.size g L (fun k => w.heap.size ≤ k) d.f1.f0 d.f1.f1 d.f1.f2 d.f1.f3 d.f1.f4 d.f1.f5 A7 c7 d.f1.f6 A8 c8 d.f1.f7 r1 r2 _ (Kd.C_below G7.out HB0.out) L7.out (Kd.C_below G8.out HB0.out) L8.out HPU.out HL0.out HQ.out.1 (fun _ h_ => h_) HB0.out.size).mono ?_; rintro e_ w1 ⟨rfl, hl, hk, hb⟩; refine ⟨_, rfl, ?_⟩; have HB1 := am_ (HB0.out.trans hb); have HL1 := am_ (hl.mono (ok' := fun k => w.heap.size ≤ k) (fun k_ hk_ => hk_.elim id (Nat.le_trans HB0.out.size))); clear hl hk hb) | ((with_reducible refine gd_ (N := 77) rfl ?_); (try (refine gate_guard (by rfl) ?_; dsimp only)); refine gL (some 77) Tryd.func15 #[.pointer (some ⟨g, 0, none⟩)] ?_; refine (waits_calls g (sendL L r1 r2) (fun k => w.heap.size ≤ k) _ HL1.out).mono ?_; rintro e_ w_ ⟨rfl, rfl⟩; refine ⟨_, rfl, ?_⟩) | ((with_reducible refine gd_ (N := 96) rfl ?_); (try (refine gate_guard (by rfl) ?_; dsimp only)); refine gL (some 96) Tryd.func15 #[.pointer (some ⟨g, 0, none⟩)] ?_; refine (waits_calls g (sendL L r1 r2) (fun k => w.heap.size ≤ k) _ HL1.out).mono ?_; rintro e_ w_ ⟨rfl, rfl⟩; refine ⟨_, rfl, ?_⟩) | (refine skip_guard (by rfl) ?_))
    go_roundg k2
    case measure => omega
    case rel => exact ⟨i + 1, sendL L r1 r2, (by first | rfl | rw [hw_]), ⟨by have := HI.out; omega⟩, ⟨by rw [show (i + 1).toNat = i.toNat + 1 by omega]; exact HREST.out⟩, HL1, HB1⟩
   rw [if_neg d0] at hac
   have b0 : (d.f0 == 0) = false := beq_eq_false_iff_ne.mpr d0
   clear d0
   by_cases d1 : d.f0 = 1
   case pos =>
    rw [if_pos d1] at hac
    have b1 : (d.f0 == 1) = true := beq_iff_eq.mpr d1
    clear d1
    obtain rfl : putL L 2 [] = L4 := Option.some.inj hac
    clear hac
    go_wp2_with (first | ((with_reducible refine gd_ (N := 85) rfl ?_); (try (refine gate_guard (by rfl) ?_; dsimp only)); refine gL (some 85) Tryd.func16 #[.pointer (some ⟨g, 0, none⟩)] ?_; refine (link_Link_Probe.calls w.heap.size g L (fun k => w.heap.size ≤ k) _ HL0.out HQ.out.1 (fun _ h_ => h_) HB0.out.size).mono ?_; rintro e_ w1 ⟨rfl, hl, hk, hb⟩; refine ⟨_, rfl, ?_⟩; have HB1 := am_ (HB0.out.trans hb); have HL1 := am_ (hl.mono (ok' := fun k => w.heap.size ≤ k) (fun k_ hk_ => hk_.elim id (Nat.le_trans HB0.out.size))); clear hl hk hb) | ((with_reducible refine gd_ (N := 96) rfl ?_); (try (refine gate_guard (by rfl) ?_; dsimp only)); refine gL (some 96) Tryd.func15 #[.pointer (some ⟨g, 0, none⟩)] ?_; refine (waits_calls g (putL L 2 []) (fun k => w.heap.size ≤ k) _ HL1.out).mono ?_; rintro e_ w_ ⟨rfl, rfl⟩; refine ⟨_, rfl, ?_⟩))
    go_roundg k2
    case measure => omega
    case rel => exact ⟨i + 1, putL L 2 [], (by first | rfl | rw [hw_]), ⟨by have := HI.out; omega⟩, ⟨by rw [show (i + 1).toNat = i.toNat + 1 by omega]; exact HREST.out⟩, HL1, HB1⟩
   rw [if_neg d1] at hac
   have b1 : (d.f0 == 1) = false := beq_eq_false_iff_ne.mpr d1
   clear d1
   by_cases d3 : d.f0 = 3
   case pos =>
    rw [if_pos d3] at hac
    have b3 : (d.f0 == 3) = true := beq_iff_eq.mpr d3
    clear d3
    obtain ⟨bb, hfr, hac⟩ := Option.bind_eq_some_iff.mp hac
    unfold grapevinelaw14_LinkBounds.took at hac
    obtain ⟨⟨er, R_⟩, hop, hac⟩ := Option.bind_eq_some_iff.mp hac
    dsimp only at hac
    by_cases ho : grapevinelaw14_LinkBounds.okR R_ = true
    case neg => rw [if_neg ho] at hac; exact absurd hac (by simp)
    rw [if_pos ho] at hac
    obtain ⟨⟨fl, e1, L5⟩, htk, hac⟩ := Option.bind_eq_some_iff.mp hac
    obtain rfl : L5 = L4 := Option.some.inj hac
    have HFR := am_ hfr
    have HOP := am_ hop
    have HOK := am_ ho
    have HTK := am_ htk
    clear hfr hop ho htk hac
    go_wp2_with (first | ((with_reducible refine gd_ (N := 93) rfl ?_); (try (refine gate_guard (by rfl) ?_; dsimp only)); refine gL (some 93) Tryd.func17 #[.agg #[.int .i64 d.f0, .int .i64 d.f1.f0, .int .i64 d.f1.f1, .int .i64 d.f1.f2, .int .i64 d.f1.f3, .int .i64 d.f1.f4, .int .i64 d.f1.f5, .slice A7 d.f1.f6.length c7, .slice A8 d.f1.f7.length c8, .int .u8 d.f2, .int .i64 d.f3, .int .i64 d.f4, .int .i64 d.f5, .slice A13 d.f6.length c13, .int .i64 d.f7]] ?_; refine (grapevinelaw14_frame.calls k d.f0 d.f1.f0 d.f1.f1 d.f1.f2 d.f1.f3 d.f1.f4 d.f1.f5 A7 c7 d.f1.f6 A8 c8 d.f1.f7 d.f2 d.f3 d.f4 d.f5 A13 c13 d.f6 d.f7 bb _ (Kd.C_below G7.out HB0.out) L7.out (Kd.C_below G8.out HB0.out) L8.out (Kd.C_below G13.out HB0.out) L13.out HFR.out).mono ?_; rintro e_ w1 ⟨v_, rfl, hr_, hb⟩; refine ⟨_, rfl, ?_⟩; have HB1 := am_ (below_step HB0.out hb); have HL1 := am_ (HL0.out.below hb); obtain ⟨Ab, cb, eb⟩ := Kd.R_slice hr_; subst eb; have HRb := am_ (Kd.R_reads' hr_); clear hr_ hb) | ((with_reducible refine gd_ (N := 94) rfl ?_); (try (refine gate_guard (by rfl) ?_; dsimp only)); refine gL (some 94) Tryd.func12 #[.pointer (some ⟨g, 0, none⟩), .slice Ab bb.length cb, .int .i64 3] ?_; refine (link_Link_Take.calls k w.heap.size g L (fun k => w.heap.size ≤ k) Ab cb bb 3 er R_ fl e1 L5 _ HRb.out.2.2 HRb.out.2.1 (TabW.below HT.out HB1.out) HOP.out HTK.out (grapevinelaw14_LinkBounds.okR_of HOK.out) (by decide) (by decide) HQ.out.2.1 HQ.out.2.2 HL1.out HQ.out.1 (fun _ h_ => h_) HB1.out.size).mono ?_; rintro e_ w2 ⟨p1, p2, p3, p4, p5, p6, A7_, m7, c7_, A8_, m8, c8_, rfl, _, hl, hk, hb⟩; refine ⟨_, rfl, ?_⟩; have HB2 := am_ (HB1.out.trans hb); have HL2 := am_ (hl.mono (ok' := fun k => w.heap.size ≤ k) (fun k_ hk_ => hk_.elim id (Nat.le_trans HB1.out.size))); clear hl hk hb) | ((with_reducible refine gd_ (N := 96) rfl ?_); (try (refine gate_guard (by rfl) ?_; dsimp only)); refine gL (some 96) Tryd.func15 #[.pointer (some ⟨g, 0, none⟩)] ?_; refine (waits_calls g L5 (fun k => w.heap.size ≤ k) _ HL2.out).mono ?_; rintro e_ w_ ⟨rfl, rfl⟩; refine ⟨_, rfl, ?_⟩))
    go_roundg k2
    case measure => omega
    case rel => exact ⟨i + 1, L5, (by first | rfl | rw [hw_]), ⟨by have := HI.out; omega⟩, ⟨by rw [show (i + 1).toNat = i.toNat + 1 by omega]; exact HREST.out⟩, HL2, HB2⟩
   rw [if_neg d3] at hac
   have b3 : (d.f0 == 3) = false := beq_eq_false_iff_ne.mpr d3
   clear d3
   obtain rfl : L = L4 := Option.some.inj hac
   clear hac
   go_wp2_with (first | ((with_reducible refine gd_ (N := 96) rfl ?_); (try (refine gate_guard (by rfl) ?_; dsimp only)); refine gL (some 96) Tryd.func15 #[.pointer (some ⟨g, 0, none⟩)] ?_; refine (waits_calls g L (fun k => w.heap.size ≤ k) _ HL0.out).mono ?_; rintro e_ w_ ⟨rfl, rfl⟩; refine ⟨_, rfl, ?_⟩))
   go_roundg k2
   case measure => omega
   case rel => exact ⟨i + 1, L, (by first | rfl | rw [hw_]), ⟨by have := HI.out; omega⟩, ⟨by rw [show (i + 1).toNat = i.toNat + 1 by omega]; exact HREST.out⟩, HL0, HB0⟩
  have e2_ := eq_false h2
  have hnr := HNR.out
  have hnr2 : L = L1 := by rw [show 200 - i.toNat = 0 by have := HI.out; omega] at hnr; unfold grapevinelaw14_LinkBounds.deeds at hnr; exact Option.some.inj hnr
  subst hnr2
  clear hnr HNR
  go_wp2_with (first | ((with_reducible refine gd_ (N := 100) rfl ?_); (try (refine gate_guard (by rfl) ?_; dsimp only)); refine gL (some 100) Tryd.func15 #[.pointer (some ⟨g, 0, none⟩)] ?_; refine (waits_calls g L (fun k => w.heap.size ≤ k) _ HL0.out).mono ?_; rintro e_ w_ ⟨rfl, rfl⟩; refine ⟨_, rfl, ?_⟩))
  go_loopg [12] (L.ws.length + 1) (fun kq v12 w' => ∃ (j : Int) (L3 : LK), v12 = .int .i64 j ∧ Aside0 (0 ≤ j ∧ j ≤ (L.ws.length : Int) ∧ L.ws.length + 1 ≤ kq + j.toNat) ∧ Aside0 (grapevinelaw14_LinkBounds.pulls k (L.ws.length - j.toNat) L3 = some L2) ∧ Aside0 (LKat w' (fun k => w.heap.size ≤ k) g L3) ∧ Aside0 (Below w.heap.size w w'))
  case atStart => exact ⟨0, _, rfl, ⟨by omega⟩, HP, HL0, HB0⟩
  case round =>
  obtain ⟨j, L3, rfl, HJ, HNR, HL2, HB2⟩ := hrel
  have hj0 := HJ.out.1
  have hnr := HNR.out
  by_cases hj : j < (L.ws.length : Int)
  case pos =>
   rw [show L.ws.length - j.toNat = (L.ws.length - (j.toNat + 1)) + 1 by omega] at hnr
   obtain ⟨⟨kd, body, rest⟩, hh, hnr⟩ := Option.bind_eq_some_iff.mp hnr
   obtain ⟨r, hf, hnr⟩ := Option.bind_eq_some_iff.mp hnr
   dsimp only at hf hnr
   by_cases hm : 8 ≤ (r.length : Int) ∧ 0 ≤ L3.made ∧ L3.made < 1099511627776
   case neg => rw [if_neg hm] at hnr; exact absurd hnr (by simp)
   rw [if_pos hm] at hnr
   have HH := am_ (grapevinelaw14_LinkBounds.hdW_of hh)
   have HF := am_ hf
   have HM := am_ hm.2
   have b8 := decide_eq_false (show ¬ ((r.length : Int) < 8) by omega)
   have HX := am_ hnr
   have p1_ := eq_true hj
   have hw_ : wrap64 (j + 1) = j + 1 := by have := HL1.out; unfold wrap64; omega
   clear hh hf hm hnr HNR
   go_wp2_with (first | ((with_reducible refine gd_ (N := 108) rfl ?_); (try (refine gate_guard (by rfl) ?_; dsimp only)); refine gL (some 108) Tryd.func11 #[.pointer (some ⟨g, 0, none⟩)] ?_; refine (link_Link_Pull.calls k w.heap.size g L3 (fun k => w.heap.size ≤ k) kd body rest r _ HL2.out HH.out HF.out HM.out.1 HM.out.2 (TabW.below HT.out HB2.out) (fun _ h_ => h_) HB2.out.size HT.out.pos).mono ?_; rintro e_ w3 ⟨v_, rfl, hr_, hl, hk, hb⟩; refine ⟨_, rfl, ?_⟩; have HB3 := am_ (HB2.out.trans hb); have HL3 := am_ hl; obtain ⟨Ar, cr, er⟩ := Kd.R_slice hr_; subst er; clear hr_ hl hk hb))
   cases gk with
   | zero => exact absurd HJ.out (by omega)
   | succ k2 =>
   go_roundg k2
   case measure => omega
   case rel => exact ⟨j + 1, _, (by first | rfl | rw [hw_]), ⟨by have := HJ.out; omega⟩, ⟨by rw [show (j + 1).toNat = j.toNat + 1 by omega]; exact HX.out⟩, HL3, HB3⟩
  rw [show L.ws.length - j.toNat = 0 by have := HJ.out; omega] at hnr
  unfold grapevinelaw14_LinkBounds.pulls at hnr
  by_cases hw : L3.ws = []
  case neg => rw [if_neg hw] at hnr; exact absurd hnr (by simp)
  have HW := am_ hw
  have e1_ := eq_false hj
  have hz : ((L3.ws.length : Int) == 0) = true := by rw [hw]; rfl
  clear hnr HNR hw hj
  go_wp2_with (first | ((with_reducible refine gd_ (N := 120) rfl ?_); (try (refine gate_guard (by rfl) ?_; dsimp only)); refine gL (some 120) Tryd.func11 #[.pointer (some ⟨g, 0, none⟩)] ?_; refine (link_Link_Pull.none_calls g L3 (fun k => w.heap.size ≤ k) _ HL2.out HW.out).mono ?_; rintro e_ w_ ⟨rfl, rfl⟩; refine ⟨_, rfl, ?_⟩) | ((with_reducible refine gd_ (N := 123) rfl ?_); (try (refine gate_guard (by rfl) ?_; dsimp only)); refine gL (some 123) Tryd.func14 #[] ?_; refine (grapevinelaw14_live.calls k true _ (TabW.below HT.out HB2.out) HLV.out).mono ?_; rintro e_ w4 ⟨rfl, hb⟩; refine ⟨_, rfl, ?_⟩; have HB4 := am_ (below_step HB2.out hb); have HL4 := am_ (HL2.out.below hb); clear hb) | ((with_reducible refine gd_ (N := 130) rfl ?_); (try (refine gate_guard (by rfl) ?_; dsimp only)); refine gL (some 130) Tryd.func15 #[.pointer (some ⟨g, 0, none⟩)] ?_; refine (waits_calls g L3 (fun k => w.heap.size ≤ k) _ HL4.out).mono ?_; rintro e_ w_ ⟨rfl, rfl⟩; refine ⟨_, rfl, ?_⟩))
  go_ret
  exact ⟨rfl, HB4.out⟩
 have e1_ := eq_false hi
 have hnr := HNR.out
 have hnr2 : L = L1 := by rw [List.drop_eq_nil_of_le (show l.length ≤ i.toNat by have := HI.out; omega)] at hnr; rcases Nat.eq_zero_or_pos (200 - i.toNat) with hz_ | hz_; (· rw [hz_] at hnr; unfold grapevinelaw14_LinkBounds.deeds at hnr; exact Option.some.inj hnr); (· obtain ⟨m_, hm_⟩ : ∃ m_, 200 - i.toNat = m_ + 1 := ⟨_, (Nat.succ_pred_eq_of_pos hz_).symm⟩; rw [hm_] at hnr; unfold grapevinelaw14_LinkBounds.deeds at hnr; exact Option.some.inj hnr)
 subst hnr2
 clear hnr HNR
 go_wp2_with (first | ((with_reducible refine gd_ (N := 100) rfl ?_); (try (refine gate_guard (by rfl) ?_; dsimp only)); refine gL (some 100) Tryd.func15 #[.pointer (some ⟨g, 0, none⟩)] ?_; refine (waits_calls g L (fun k => w.heap.size ≤ k) _ HL0.out).mono ?_; rintro e_ w_ ⟨rfl, rfl⟩; refine ⟨_, rfl, ?_⟩))
 go_loopg [12] (L.ws.length + 1) (fun kq v12 w' => ∃ (j : Int) (L3 : LK), v12 = .int .i64 j ∧ Aside0 (0 ≤ j ∧ j ≤ (L.ws.length : Int) ∧ L.ws.length + 1 ≤ kq + j.toNat) ∧ Aside0 (grapevinelaw14_LinkBounds.pulls k (L.ws.length - j.toNat) L3 = some L2) ∧ Aside0 (LKat w' (fun k => w.heap.size ≤ k) g L3) ∧ Aside0 (Below w.heap.size w w'))
 case atStart => exact ⟨0, _, rfl, ⟨by omega⟩, HP, HL0, HB0⟩
 case round =>
 obtain ⟨j, L3, rfl, HJ, HNR, HL2, HB2⟩ := hrel
 have hj0 := HJ.out.1
 have hnr := HNR.out
 by_cases hj : j < (L.ws.length : Int)
 case pos =>
  rw [show L.ws.length - j.toNat = (L.ws.length - (j.toNat + 1)) + 1 by omega] at hnr
  obtain ⟨⟨kd, body, rest⟩, hh, hnr⟩ := Option.bind_eq_some_iff.mp hnr
  obtain ⟨r, hf, hnr⟩ := Option.bind_eq_some_iff.mp hnr
  dsimp only at hf hnr
  by_cases hm : 8 ≤ (r.length : Int) ∧ 0 ≤ L3.made ∧ L3.made < 1099511627776
  case neg => rw [if_neg hm] at hnr; exact absurd hnr (by simp)
  rw [if_pos hm] at hnr
  have HH := am_ (grapevinelaw14_LinkBounds.hdW_of hh)
  have HF := am_ hf
  have HM := am_ hm.2
  have b8 := decide_eq_false (show ¬ ((r.length : Int) < 8) by omega)
  have HX := am_ hnr
  have p1_ := eq_true hj
  have hw_ : wrap64 (j + 1) = j + 1 := by have := HL1.out; unfold wrap64; omega
  clear hh hf hm hnr HNR
  go_wp2_with (first | ((with_reducible refine gd_ (N := 108) rfl ?_); (try (refine gate_guard (by rfl) ?_; dsimp only)); refine gL (some 108) Tryd.func11 #[.pointer (some ⟨g, 0, none⟩)] ?_; refine (link_Link_Pull.calls k w.heap.size g L3 (fun k => w.heap.size ≤ k) kd body rest r _ HL2.out HH.out HF.out HM.out.1 HM.out.2 (TabW.below HT.out HB2.out) (fun _ h_ => h_) HB2.out.size HT.out.pos).mono ?_; rintro e_ w3 ⟨v_, rfl, hr_, hl, hk, hb⟩; refine ⟨_, rfl, ?_⟩; have HB3 := am_ (HB2.out.trans hb); have HL3 := am_ hl; obtain ⟨Ar, cr, er⟩ := Kd.R_slice hr_; subst er; clear hr_ hl hk hb))
  cases gk with
  | zero => exact absurd HJ.out (by omega)
  | succ k2 =>
  go_roundg k2
  case measure => omega
  case rel => exact ⟨j + 1, _, (by first | rfl | rw [hw_]), ⟨by have := HJ.out; omega⟩, ⟨by rw [show (j + 1).toNat = j.toNat + 1 by omega]; exact HX.out⟩, HL3, HB3⟩
 rw [show L.ws.length - j.toNat = 0 by have := HJ.out; omega] at hnr
 unfold grapevinelaw14_LinkBounds.pulls at hnr
 by_cases hw : L3.ws = []
 case neg => rw [if_neg hw] at hnr; exact absurd hnr (by simp)
 have HW := am_ hw
 have e1_ := eq_false hj
 have hz : ((L3.ws.length : Int) == 0) = true := by rw [hw]; rfl
 clear hnr HNR hw hj
 go_wp2_with (first | ((with_reducible refine gd_ (N := 120) rfl ?_); (try (refine gate_guard (by rfl) ?_; dsimp only)); refine gL (some 120) Tryd.func11 #[.pointer (some ⟨g, 0, none⟩)] ?_; refine (link_Link_Pull.none_calls g L3 (fun k => w.heap.size ≤ k) _ HL2.out HW.out).mono ?_; rintro e_ w_ ⟨rfl, rfl⟩; refine ⟨_, rfl, ?_⟩) | ((with_reducible refine gd_ (N := 123) rfl ?_); (try (refine gate_guard (by rfl) ?_; dsimp only)); refine gL (some 123) Tryd.func14 #[] ?_; refine (grapevinelaw14_live.calls k true _ (TabW.below HT.out HB2.out) HLV.out).mono ?_; rintro e_ w4 ⟨rfl, hb⟩; refine ⟨_, rfl, ?_⟩; have HB4 := am_ (below_step HB2.out hb); have HL4 := am_ (HL2.out.below hb); clear hb) | ((with_reducible refine gd_ (N := 130) rfl ?_); (try (refine gate_guard (by rfl) ?_; dsimp only)); refine gL (some 130) Tryd.func15 #[.pointer (some ⟨g, 0, none⟩)] ?_; refine (waits_calls g L3 (fun k => w.heap.size ≤ k) _ HL4.out).mono ?_; rintro e_ w_ ⟨rfl, rfl⟩; refine ⟨_, rfl, ?_⟩))
 go_ret
 exact ⟨rfl, HB4.out⟩
end Go.Proofs.YtoandmnefgimoaaDoor.PL
