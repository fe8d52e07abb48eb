/-
  PLAIN LAW: whatever comes, a link's queue holds: each deed of the law, and what is pulled behind them.
-/
import Derived.Test.YtoandmnefgimoaaDoorLBLnkA
import Derived.Test.YtoandmnefgimoaaDoorLBParAll
import Derived.Test.YtoandmnefgimoaaDoorLBPLx33
import Derived.Test.YtoandmnefgimoaaDoorLBPLx34
import Derived.Test.YtoandmnefgimoaaDoorLBPLx25
set_option linter.unusedSimpArgs false
set_option linter.unusedVariables false
namespace Go.Proofs.YtoandmnefgimoaaDoor.PL
open Go.RowKit Go.Proofs.YtoandmnefgimoaaDoorW.PrintWords Go.Proofs.YtoandmnefgimoaaDoorW.PrintMore Go.Proofs.YtoandmnefgimoaaDoor.Open Go.Proofs.YtoandmnefgimoaaDoor.Crc
namespace Lnk
open Oct (uint uintN tk takeU)
theorem openR_body {l : List Int} (hl : IsB l) (a : Int) : IsB (openR l a).1.2.2 ∧ (openR l a).1.2.2.length ≤ 4096 := by
  have hT : ∀ t : List Int, IsB t → IsB (openT t a).1.2.2 ∧ (openT t a).1.2.2.length ≤ 4096 := by
    intro t ht
    unfold openT
    repeat' split
    all_goals first | exact ⟨IsB_nil, Nat.zero_le _⟩ | skip
    refine ⟨IsB_take (IsB_drop ht _) _, ?_⟩
    rw [List.length_take]
    have : (rd t 2 + 256 * rd t 3).toNat ≤ 4096 := by omega
    exact Nat.le_trans (Nat.min_le_left _ _) this
  unfold openR
  split
  · exact ⟨IsB_nil, Nat.zero_le _⟩
  · exact hT _ (IsB_drop hl _)
theorem big_no {j : Nat} {t : Int} (h : link_open.big j t = false) : t ≤ link_open.most j ∧ (j ≠ 1 → t ≠ 0) := by
  unfold link_open.big at h
  rw [Bool.or_eq_false_iff] at h
  obtain ⟨h1, h2⟩ := h
  refine ⟨by simpa using h1, fun hj ht => ?_⟩
  subst ht
  simp [hj] at h2
theorem nums_tot {b : List Int} (hb : Oct.Bytes b) (hlen : b.length ≤ 9223372036854775000) : ∃ q, Ev (fun k => link_open.nums k b [0, 1, 2] 0 false 0 0 0) q ∧
    (q.1 = 0 → q.2.2.1 = false → (0 ≤ q.2.1 ∧ q.2.1 ≤ b.length) ∧ (1 ≤ q.2.2.2.1 ∧ q.2.2.2.1 ≤ 1073741824) ∧ (0 ≤ q.2.2.2.2.1 ∧ q.2.2.2.2.1 ≤ 1073741824) ∧ (1 ≤ q.2.2.2.2.2 ∧ q.2.2.2.2.2 ≤ 1099511627776)) := by
  have h1 := (Oct.TakeUint_ev hb hlen 0).1
  have o1 := (Par.takeU_ok hb 0).1
  generalize takeU b 0 = t1 at h1 o1
  by_cases c1 : t1.2.2 = 0
  case neg => exact ⟨_, by unfold link_open.nums; exact Ev.bind h1 (Ev.congr (fun k => if_neg c1) (Ev.now _)), fun h => absurd h c1⟩
  have h2 := (Oct.TakeUint_ev hb hlen t1.2.1).1
  have o2 := (Par.takeU_ok hb t1.2.1).1
  generalize takeU b t1.2.1 = t2 at h2 o2
  by_cases c2 : t2.2.2 = 0
  case neg => exact ⟨_, by unfold link_open.nums; exact Ev.bind h1 (Ev.congr (fun k => if_pos c1) (by unfold link_open.nums; exact Ev.bind h2 (Ev.congr (fun k => if_neg c2) (Ev.now _)))), fun h => absurd h c2⟩
  have h3 := (Oct.TakeUint_ev hb hlen t2.2.1).1
  have o3 := (Par.takeU_ok hb t2.2.1).1
  generalize takeU b t2.2.1 = t3 at h3 o3
  by_cases c3 : t3.2.2 = 0
  case neg => exact ⟨_, by unfold link_open.nums; exact Ev.bind h1 (Ev.congr (fun k => if_pos c1) (by unfold link_open.nums; exact Ev.bind h2 (Ev.congr (fun k => if_pos c2) (by unfold link_open.nums; exact Ev.bind h3 (Ev.congr (fun k => if_neg c3) (Ev.now _)))))), fun h => absurd h c3⟩
  refine ⟨(0, t3.2.1, ((false || link_open.big 0 t1.1) || link_open.big 1 t2.1) || link_open.big 2 t3.1, wrap64 t1.1, wrap64 t2.1, wrap64 t3.1), ?_, fun _ hq => ?_⟩
  · unfold link_open.nums
    refine Ev.bind h1 (Ev.congr (fun k => if_pos c1) ?_)
    unfold link_open.nums
    refine Ev.bind h2 (Ev.congr (fun k => if_pos c2) ?_)
    unfold link_open.nums
    exact Ev.bind h3 (Ev.congr (fun k => if_pos c3) (Ev.now _))
  · have p1 := o1 c1
    have p2 := o2 c2
    have p3 := o3 c3
    simp only [Bool.or_eq_false_iff] at hq
    obtain ⟨⟨⟨_, b1⟩, b2⟩, b3⟩ := hq
    have d1 := big_no b1
    have d2 := big_no b2
    have d3 := big_no b3
    have e1 : link_open.most 0 = 1073741824 := rfl
    have e2 : link_open.most 1 = 1073741824 := rfl
    have e3 : link_open.most 2 = 1099511627776 := rfl
    have n1 := d1.2 (by decide)
    have n3 := d3.2 (by decide)
    have w1 : wrap64 t1.1 = t1.1 := Oct.wrap_ok (by omega) (by omega)
    have w2 : wrap64 t2.1 = t2.1 := Oct.wrap_ok (by omega) (by omega)
    have w3 : wrap64 t3.1 = t3.1 := Oct.wrap_ok (by omega) (by omega)
    dsimp only
    rw [w1, w2, w3]
    exact ⟨by omega, by omega, by omega, by omega⟩
theorem evif {β : Type} {c : Prop} [Decidable c] {A B : Nat → Option β} {r : β} (h : c) (hA : Ev A r) : Ev (fun k => if c then A k else B k) r := by simpa only [if_pos h] using hA
theorem evno {β : Type} {c : Prop} [Decidable c] {A B : Nat → Option β} {r : β} (h : ¬ c) (hB : Ev B r) : Ev (fun k => if c then A k else B k) r := by simpa only [if_neg h] using hB
def OpOk (q : Int × Option OpenR) : Prop := (q.1 = 0 → ∃ r, q.2 = some r) ∧ ∀ r, q.2 = some r → (1 ≤ r.n2 ∧ r.n2 ≤ 1099511627776) ∧ (1 ≤ r.n0 ∧ r.n0 ≤ 1073741824)
theorem OpOk.err {e : Int} (h : e ≠ 0) : OpOk (e, none) := ⟨fun h0 => absurd h0 h, fun r hr => by cases hr⟩
theorem fin_tot {kd at_ n0 n1 n2 : Int} {b : List Int} (hb : Oct.Bytes b) (hlen : b.length ≤ 4096) (h0 : 0 ≤ at_ ∧ at_ ≤ b.length) (hn0 : 1 ≤ n0 ∧ n0 ≤ 1073741824) (hn2 : 1 ≤ n2 ∧ n2 ≤ 1099511627776) : ∃ q, Ev (fun k => link_open.fin k kd b at_ n0 n1 n2) q ∧ OpOk q := by
  unfold link_open.fin
  by_cases c1 : kd = 1
  · have hd : Oct.Bytes (b.drop at_.toNat) := Oct.bytes_drop hb _
    have hp := Par.PTake_ev hd (by rw [List.length_drop]; omega)
    generalize Par.takeP (b.drop at_.toNat) = p at hp
    by_cases c2 : p.2.2.2.2.2.2.2.2 = 0
    · exact ⟨_, evif h0 (evif c1 (Ev.bind hp (evif c2 (Ev.now _)))), fun _ => ⟨_, rfl⟩, fun r hr => by cases hr; exact ⟨hn2, hn0⟩⟩
    · exact ⟨_, evif h0 (evif c1 (Ev.bind hp (evno c2 (Ev.now _)))), OpOk.err c2⟩
  · by_cases c2 : ((b.drop at_.toNat).length : Int) > 0
    · exact ⟨_, evif h0 (evno c1 (evif c2 (Ev.now _))), OpOk.err (by decide)⟩
    · exact ⟨_, evif h0 (evno c1 (evno c2 (Ev.now _))), fun _ => ⟨_, rfl⟩, fun r hr => by cases hr; exact ⟨hn2, hn0⟩⟩
theorem open_tot {l : List Int} (hl : IsB l) (hn : l.length ≤ 4611686018427387904) : ∃ q, Ev (fun k => link_open.F k l) q ∧ OpOk q := by
  have h := Open_ev (l := l) (a := 0) hl hn
  have hb := openR_body hl 0
  have e3 : (flat (openR l 0)).2.2.1 = (openR l 0).1.2.2 := rfl
  rw [← e3] at hb
  clear e3
  generalize flat (openR l 0) = s at h hb
  unfold link_open.F
  by_cases c1 : s.2.2.2.2 = 0
  case neg => exact ⟨_, Ev.bind h (evno c1 (Ev.now _)), OpOk.err c1⟩
  by_cases c2 : s.2.2.2.1 < (l.length : Int)
  · exact ⟨_, Ev.bind h (evif c1 (evif c2 (Ev.now _))), OpOk.err (by decide)⟩
  by_cases c3 : s.1 < 1
  · exact ⟨_, Ev.bind h (evif c1 (evno c2 (evif c3 (Ev.now _)))), OpOk.err (by decide)⟩
  by_cases c4 : s.1 > 3
  · exact ⟨_, Ev.bind h (evif c1 (evno c2 (evno c3 (evif c4 (Ev.now _))))), OpOk.err (by decide)⟩
  obtain ⟨q, hq, hq2⟩ := nums_tot (b := s.2.2.1) hb.1 (by omega)
  by_cases c5 : q.1 = 0
  case neg => exact ⟨_, Ev.bind h (evif c1 (evno c2 (evno c3 (evno c4 (Ev.bind hq (evno c5 (Ev.now _))))))), OpOk.err c5⟩
  cases c6 : q.2.2.1 with
  | true => exact ⟨_, Ev.bind h (evif c1 (evno c2 (evno c3 (evno c4 (Ev.bind hq (evif c5 (evif c6 (Ev.now _)))))))), OpOk.err (by decide)⟩
  | false =>
    obtain ⟨k1, k2, k3, k4⟩ := hq2 c5 c6
    obtain ⟨p, hp, hp2⟩ := fin_tot (kd := s.1) (n1 := q.2.2.2.2.1) hb.1 hb.2 k1 k2 k4
    exact ⟨p, Ev.bind h (evif c1 (evno c2 (evno c3 (evno c4 (Ev.bind hq (evif c5 (evno (by simp [c6]) hp))))))), hp2⟩
structure LI (n : Int) (L : LK) : Prop where
  own : L.own = 1
  que : L.queue = n
  oth : 0 ≤ L.other ∧ L.other ≤ 1073741824
  high : 0 ≤ L.high ∧ L.high ≤ 1099511627776
  len : (L.ws.length : Int) ≤ n
  ws : ∀ x ∈ L.ws, (0 ≤ x.f0 ∧ x.f0 < 256) ∧ IsB x.f1 ∧ x.f1.length ≤ 4041
  made : L.made = 0
theorem LI.putL {n : Int} {L : LK} (h : LI n L) {kd : Int} {b : List Int} (hk : 0 ≤ kd ∧ kd < 256) (hb : IsB b) (hl : b.length ≤ 4041) : LI n (putL L kd b) := by
  unfold Go.Proofs.YtoandmnefgimoaaDoor.PL.putL
  by_cases c : (L.ws.length : Int) ≥ L.queue
  · rw [if_pos c]; exact h
  · rw [if_neg c]
    have hq := h.que
    refine ⟨h.own, h.que, h.oth, h.high, ?_, fun x hx => ?_, h.made⟩
    · show ((L.ws ++ [_]).length : Int) ≤ n
      rw [List.length_append, List.length_singleton]
      omega
    · rcases List.mem_append.1 hx with hx | hx
      · exact h.ws x hx
      · rw [List.mem_singleton] at hx; subst hx; exact ⟨hk, hb, hl⟩
theorem LI.fresh {n : Int} {L : LK} (h : LI n L) {m : Int} (hm : 1 ≤ m ∧ m ≤ 1099511627776) : LI n (link_Link_fresh.F L m).2 := by
  have hm' : 0 ≤ m ∧ m ≤ 1099511627776 := ⟨by omega, hm.2⟩
  unfold link_Link_fresh.F
  repeat' split
  all_goals first
    | exact h
    | exact ⟨h.own, h.que, h.oth, hm', h.len, h.ws, h.made⟩
    | exact ⟨h.own, h.que, h.oth, h.high, h.len, h.ws, h.made⟩
theorem LI.take {n : Int} {L : LK} (h : LI n L) {q : Int × Option OpenR} (hq : OpOk q) : ∃ t, link_Link_Take.F L 3 q.1 q.2 = some t ∧ LI n t.2.2 := by
  unfold link_Link_Take.F
  by_cases c : q.1 = 0
  case neg => exact ⟨_, if_neg c, h⟩
  obtain ⟨r, hr⟩ := hq.1 c
  obtain ⟨h2, h0⟩ := hq.2 r hr
  refine ⟨link_Link_Take.G L 3 r, by rw [if_pos c, hr]; rfl, ?_⟩
  unfold link_Link_Take.G
  by_cases c1 : r.n0 < L.other
  · rw [if_pos c1]; exact h
  rw [if_neg c1]
  have h1 : LI n (if r.n0 > L.other then { L with other := r.n0, high := 0, taken := 0 } else L) := by
    split
    · exact ⟨h.own, h.que, ⟨by show 0 ≤ r.n0; omega, h0.2⟩, ⟨by show (0 : Int) ≤ 0; omega, by show (0 : Int) ≤ 1099511627776; omega⟩, h.len, h.ws, h.made⟩
    · exact h
  generalize (if r.n0 > L.other then { L with other := r.n0, high := 0, taken := 0 } else L) = L1 at h1
  unfold link_Link_Take.G2
  by_cases c2 : r.n1 ≠ 0 ∧ r.n1 ≠ L1.own
  · rw [if_pos c2]; exact h1
  rw [if_neg c2]
  have h3 := h1.fresh h2
  generalize link_Link_fresh.F L1 r.n2 = f at h3
  dsimp only
  split
  · exact h3
  · have h4 : LI n { f.2 with heard := if f.2.heard < 3 then 3 else f.2.heard } := ⟨h3.own, h3.que, h3.oth, h3.high, h3.len, h3.ws, h3.made⟩
    dsimp only
    split
    · exact h4.putL (by decide) IsB_nil (by decide)
    · exact h4
theorem wrapu_in (x : Int) : 0 ≤ IntKind.u64.wrap x ∧ IntKind.u64.wrap x < 18446744073709551616 := by
  have e : IntKind.u64.wrap x = x % 18446744073709551616 := by simp [IntKind.wrap, IntKind.bits, IntKind.signed]
  rw [e]; omega
theorem FrameE_ev {K o t m : Int} {b : List Int} (hK : 0 ≤ K ∧ K < 256) (hb : IsB b) (hl : b.length ≤ 5000) : Ev (fun k => grapevineref14_Frame.f k K o t m b) (sealR K (uint (IntKind.u64.wrap o) ++ uint (IntKind.u64.wrap t) ++ uint (IntKind.u64.wrap m) ++ b)).1 := by
  have a1 := wrapu_in o
  have a2 := wrapu_in t
  have a3 := wrapu_in m
  have l1 := uint_len (IntKind.u64.wrap o)
  have l2 := uint_len (IntKind.u64.wrap t)
  have l3 := uint_len (IntKind.u64.wrap m)
  unfold grapevineref14_Frame.f
  refine Ev.bind (Oct.Uint_ev _ a1.1 a1.2).2 (Ev.bind (Oct.Uint_ev _ a2.1 a2.2).2 (evif (by omega) ?_))
  refine Ev.bind (Ev.now _) (Ev.bind (Oct.Uint_ev _ a3.1 a3.2).2 (evif (by rw [List.length_append]; omega) ?_))
  refine Ev.bind (Ev.now _) (evif (by simp only [List.length_append]; omega) ?_)
  exact Ev.bind (refSeal_ev hK.1 hK.2 (IsB_append (IsB_append (IsB_append (uint_b a1.1) (uint_b a2.1)) (uint_b a3.1)) hb)) (Ev.now _)
theorem Frame_ev {K o t m : Int} {b : List Int} (hK : 0 ≤ K ∧ K < 256) (hb : IsB b) (hl : b.length ≤ 5000) : ∃ r, Ev (fun k => grapevineref14_Frame.f k K o t m b) r ∧ IsB r ∧ r.length ≤ 10000 := by
  have l1 := uint_len (IntKind.u64.wrap o)
  have l2 := uint_len (IntKind.u64.wrap t)
  have l3 := uint_len (IntKind.u64.wrap m)
  refine ⟨_, FrameE_ev hK hb hl, ?_⟩
  unfold sealR
  split
  · exact ⟨IsB_nil, Nat.zero_le _⟩
  · refine ⟨sealdS_b hK.1 hK.2 (IsB_append (IsB_append (IsB_append (uint_b (wrapu_in o).1) (uint_b (wrapu_in t).1)) (uint_b (wrapu_in m).1)) hb), ?_⟩
    show (sealdS K _).length ≤ 10000
    rw [sealdS_length]
    simp only [List.length_append]
    omega
theorem pullE_ev {o m K : Int} {b : List Int} {t : Int} (hK : 0 ≤ K ∧ K < 256) (ho : 0 ≤ o ∧ o < 18446744073709551616) (ht : 0 ≤ t ∧ t < 18446744073709551616) (hm : 0 ≤ m ∧ m < 18446744073709551616) (hb : IsB b) (hl : b.length ≤ 4041) : Ev (fun k => link_Link_Pull.F k o t m K b) (sealdS K (body o t m ++ b)) := by
  have hln := body_len o t m
  unfold link_Link_Pull.F
  refine Ev.bind (nums_ev ho ht hm) (evif (by unfold body at hln; omega) ?_)
  have hs := Seal_ev hK.1 hK.2 (IsB_append (body_b ho.1 ht.1 hm.1) hb)
  unfold sealR at hs
  rw [if_neg (by rw [List.length_append]; omega)] at hs
  exact Ev.bind hs (Ev.now _)
theorem pullB_ev {o m K : Int} {b : List Int} {t : Int} (hK : 0 ≤ K ∧ K < 256) (ho : 0 ≤ o ∧ o < 18446744073709551616) (ht : 0 ≤ t ∧ t < 18446744073709551616) (hm : 0 ≤ m ∧ m < 18446744073709551616) (hb : IsB b) (hl : b.length ≤ 4041) : ∃ r, Ev (fun k => link_Link_Pull.F k o t m K b) r ∧ 8 ≤ (r.length : Int) := by
  exact ⟨_, pullE_ev hK ho ht hm hb hl, by rw [sealdS_length]; omega⟩
theorem live_ev : Ev (fun k => grapevinelaw14_live.f k) true := by
  have h := Par.PPut_ev 2 0 0 0 1 2 [] []
  rw [show Par.putP 2 0 0 0 1 2 [] [] = ([2, 0, 1, 2], 0) by decide +kernel] at h
  have hb : IsB [2, 0, 1, 2] := IsB_cons (by decide) (by decide) (IsB_cons (by decide) (by decide) (IsB_cons (by decide) (by decide) (IsB_cons (by decide) (by decide) IsB_nil)))
  unfold grapevinelaw14_live.f
  refine Ev.bind h (evif rfl (Ev.bind (pullE_ev (by decide) (by decide) (by decide) (by decide) hb (by decide)) (Ev.bind (FrameE_ev (by decide) hb (by decide)) (evif ?_ (Ev.now _)))))
  show sealdS 1 (body 3 0 (0 + 1) ++ [2, 0, 1, 2]) = (sealR 1 (uint (IntKind.u64.wrap 3) ++ uint (IntKind.u64.wrap 0) ++ uint (IntKind.u64.wrap 1) ++ [2, 0, 1, 2])).1
  decide +kernel
abbrev Dd := S57
theorem put_ok {d : Dd} (hd : g57 d) : IsB (Par.putP d.f1.f0 d.f1.f1 d.f1.f2 d.f1.f3 d.f1.f4 d.f1.f5 d.f1.f6 d.f1.f7).1 ∧ (Par.putP d.f1.f0 d.f1.f1 d.f1.f2 d.f1.f3 d.f1.f4 d.f1.f5 d.f1.f6 d.f1.f7).1.length ≤ 4041 := by
  unfold Par.putP
  have hp : Par.okP d.f1.f7 := fun y hy => by
    have h1 := hd.2.1.2.2.2.2.2.2.2.2 y hy
    obtain ⟨n, e, hn⟩ := u32_wf h1.2.1
    exact ⟨by omega, by omega, Oct.bytes_of h1.2.2.2⟩
  split
  · rename_i hc
    exact ⟨Par.putBb hc hp, Par.putB_len hc hp⟩
  · exact ⟨IsB_nil, Nat.zero_le _⟩
theorem act_ev {n : Int} {L : LK} {d : Dd} (h : LI n L) (hn : n ≤ 32) (hd : g57 d) : ∃ L1, Ev (fun k => grapevinelaw14_LinkBounds.act k n L d) L1 ∧ LI n L1 := by
  unfold grapevinelaw14_LinkBounds.act
  have hpb := put_ok hd
  by_cases d0 : d.f0 = 0
  · have hp := Par.PPut_ev d.f1.f0 d.f1.f1 d.f1.f2 d.f1.f3 d.f1.f4 d.f1.f5 d.f1.f6 d.f1.f7
    generalize Par.putP d.f1.f0 d.f1.f1 d.f1.f2 d.f1.f3 d.f1.f4 d.f1.f5 d.f1.f6 d.f1.f7 = p at hp hpb
    have hs : ∃ L1, grapevinelaw14_LinkBounds.sent n L p = some L1 ∧ LI n L1 := by
      unfold grapevinelaw14_LinkBounds.sent sendE sendL
      have hq := h.que
      by_cases c1 : p.2 = 0
      · simp only [if_pos c1]
        unfold putE PL.putL
        by_cases c2 : (L.ws.length : Int) ≥ L.queue
        · simp only [if_pos c2]
          rw [if_neg (by decide), if_pos trivial]
          exact ⟨L, rfl, h⟩
        · simp only [if_neg c2]
          have hp2 := h.putL (kd := 1) (by decide) hpb.1 hpb.2
          unfold Go.Proofs.YtoandmnefgimoaaDoor.PL.putL at hp2
          rw [if_neg c2] at hp2
          rw [if_pos trivial, if_pos ⟨by omega, by simp⟩]
          exact ⟨_, rfl, hp2⟩
      · simp only [if_neg c1]
        rw [if_pos trivial]
        exact ⟨L, rfl, h⟩
    obtain ⟨L1, e, hL1⟩ := hs
    exact ⟨L1, evif d0 (Ev.bind hp (by rw [e]; exact Ev.now _)), hL1⟩
  by_cases d1 : d.f0 = 1
  · exact ⟨_, evno d0 (evif d1 (Ev.now _)), h.putL (by decide) IsB_nil (by decide)⟩
  by_cases d3 : d.f0 = 3
  · have hk := u8_wf hd.2.2.1
    have hr := Par.RPPut_ev d.f1.f0 d.f1.f1 d.f1.f2 d.f1.f3 d.f1.f4 d.f1.f5 d.f1.f6 d.f1.f7
    generalize Par.putP d.f1.f0 d.f1.f1 d.f1.f2 d.f1.f3 d.f1.f4 d.f1.f5 d.f1.f6 d.f1.f7 = p at hr hpb
    have hfr : ∃ b, Ev (fun k => grapevinelaw14_frame.f k d.f0 d.f1.f0 d.f1.f1 d.f1.f2 d.f1.f3 d.f1.f4 d.f1.f5 d.f1.f6 d.f1.f7 d.f2 d.f3 d.f4 d.f5 d.f6 d.f7) b ∧ IsB b ∧ b.length ≤ 10000 := by
      unfold grapevinelaw14_frame.f
      by_cases c1 : d.f2 = 1
      · obtain ⟨r, r1, r2, r3⟩ := Frame_ev (o := d.f3) (t := d.f4) (m := d.f5) hk hpb.1 (by omega)
        exact ⟨r, Ev.bind hr (evif c1 (Ev.bind r1 (Ev.now _))), r2, r3⟩
      · obtain ⟨r, r1, r2, r3⟩ := Frame_ev (o := d.f3) (t := d.f4) (m := d.f5) hk IsB_nil (by decide)
        exact ⟨r, Ev.bind hr (evno c1 (Ev.bind r1 (Ev.now _))), r2, r3⟩
    obtain ⟨b, b1, b2, b3⟩ := hfr
    obtain ⟨q, q1, q2⟩ := open_tot b2 (by omega)
    obtain ⟨t, t1, t2⟩ := h.take q2
    have ho : grapevinelaw14_LinkBounds.okR q.2 = true := by
      unfold grapevinelaw14_LinkBounds.okR
      split
      · rfl
      · rename_i r hr2
        obtain ⟨o1, o2⟩ := q2.2 r hr2
        rw [decide_eq_true o1.1, decide_eq_true o1.2]; rfl
    refine ⟨t.2.2, evno d0 (evno d1 (evif d3 (Ev.bind b1 ?_))), t2⟩
    unfold grapevinelaw14_LinkBounds.took
    exact Ev.bind q1 (evif ho (by rw [t1]; exact Ev.now _))
  · exact ⟨L, evno d0 (evno d1 (evno d3 (Ev.now _))), h⟩
theorem deed_ev {n : Int} {L : LK} {d : Dd} (h : LI n L) (hn : n ≤ 32) (hd : g57 d) : ∃ L1, Ev (fun k => grapevinelaw14_LinkBounds.deed k n L d) L1 ∧ LI n L1 := by
  obtain ⟨L1, e, h1⟩ := act_ev h hn hd
  unfold grapevinelaw14_LinkBounds.deed
  have hl := h.len
  exact ⟨L1, evif ⟨by omega, h.high⟩ (Ev.bind e (evif h1.len (Ev.now _))), h1⟩
theorem deeds_ev {n : Int} (hn : n ≤ 32) : ∀ (m : Nat) (ds : List Dd) (L : LK), LI n L → (∀ d ∈ ds, g57 d) → ∃ L1, Ev (fun k => grapevinelaw14_LinkBounds.deeds k n m ds L) L1 ∧ LI n L1 := by
  intro m
  induction m with
  | zero => intro ds L h _; exact ⟨L, by unfold grapevinelaw14_LinkBounds.deeds; exact Ev.now _, h⟩
  | succ m ih =>
    intro ds L h hd
    cases ds with
    | nil => exact ⟨L, by unfold grapevinelaw14_LinkBounds.deeds; exact Ev.now _, h⟩
    | cons d ds =>
      obtain ⟨L1, e1, h1⟩ := deed_ev h hn (hd d List.mem_cons_self)
      obtain ⟨L2, e2, h2⟩ := ih ds L1 h1 (fun x hx => hd x (List.mem_cons_of_mem _ hx))
      exact ⟨L2, by unfold grapevinelaw14_LinkBounds.deeds; exact Ev.bind e1 e2, h2⟩
theorem pulls_ev : ∀ (m : Nat) (L : LK), L.ws.length = m → L.own = 1 → (0 ≤ L.other ∧ L.other ≤ 1073741824) → (0 ≤ L.made ∧ L.made + m ≤ 1000) → (∀ x ∈ L.ws, (0 ≤ x.f0 ∧ x.f0 < 256) ∧ IsB x.f1 ∧ x.f1.length ≤ 4041) → ∃ L1, Ev (fun k => grapevinelaw14_LinkBounds.pulls k m L) L1 := by
  intro m
  induction m with
  | zero =>
    intro L hm _ _ _ _
    exact ⟨L, by unfold grapevinelaw14_LinkBounds.pulls; exact evif (List.length_eq_zero_iff.1 hm) (Ev.now _)⟩
  | succ m ih =>
    intro L hm ho ht hmd hws
    cases hw : L.ws with
    | nil => rw [hw] at hm; simp at hm
    | cons x xs =>
      rw [hw] at hm
      obtain ⟨x1, x2, x3⟩ := hws x (by rw [hw]; exact List.mem_cons_self)
      obtain ⟨r, r1, r2⟩ := pullB_ev (o := L.own) (t := L.other) (m := L.made + 1) x1 (by omega) (by omega) (by omega) x2 x3
      obtain ⟨L1, e1⟩ := ih { L with ws := xs, made := L.made + 1 } (by simpa using hm) ho ht ⟨by show 0 ≤ L.made + 1; omega, by show L.made + 1 + m ≤ 1000; omega⟩ (fun y hy => hws y (by rw [hw]; exact List.mem_cons_of_mem _ hy))
      refine ⟨L1, ?_⟩
      unfold grapevinelaw14_LinkBounds.pulls
      refine Ev.bind (a := (x.f0, x.f1, xs)) (by rw [hw]; exact Ev.now _) ?_
      exact Ev.bind r1 (evif ⟨r2, hmd.1, by omega⟩ e1)
end Lnk
end Go.Proofs.YtoandmnefgimoaaDoor.PL
