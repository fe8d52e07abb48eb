/-
  PLAIN LAW: the parcels that the law learns; in whatever order they are learnt, the streams know the same.
-/
import Derived.Test.YtffefaiaifhokaaSOOrdC
import Derived.Test.YtffefaiaifhokaaSOPTx5
import Derived.Test.YtffefaiaifhokaaSOPTx23
import Derived.Test.YtffefaiaifhokaaSOPTx27
import Derived.Test.YtffefaiaifhokaaSOPTOpens
set_option linter.unusedSimpArgs false
set_option linter.unusedVariables false
namespace Go.Proofs.Ytffefaiaifhokaa.PT
open Go.RowKit Go.Proofs.YtffefaiaifhokaaW.PrintWords Go.Proofs.YtffefaiaifhokaaW.PrintMore
theorem u8_wf {x : Int} (h : (Lit.int .u8 x).wf = true) : 0 ≤ x ∧ x < 256 := by
  simp only [Lit.wf, IntKind.min, IntKind.max, IntKind.signed, IntKind.bits, Bool.and_eq_true, decide_eq_true_eq] at h
  simp at h
  omega
theorem u32_wf {x : Int} (h : (Lit.int .u32 x).wf = true) : 0 ≤ x ∧ x < 4294967296 := by
  simp only [Lit.wf, IntKind.min, IntKind.max, IntKind.signed, IntKind.bits, Bool.and_eq_true, decide_eq_true_eq] at h
  simp at h
  omega
/-! ### owned, bodies -/
theorem owned_ev_l (a0 a1 a2 a3 a4 a5 b0 b1 b2 b3 b4 b5 : Int) (l6 m6 : List Sp) (l7 : List It) (h7 : l7.length < 3518437208883) (hb : ∀ y ∈ l7, y.f2.length < 140737488355328) : ∀ (m i : Nat) (acc : List It), i + m = l7.length → acc.length = i →
    Ev (fun k => grapevinelaw15_owned.l0 k (i : Int) a0 a1 a2 a3 a4 a5 l6 l7 b0 b1 b2 b3 b4 b5 m6 acc) (b0, b1, b2, b3, b4, b5, m6, acc ++ l7.drop i) := by
  intro m
  induction m with
  | zero =>
    intro i acc hi ha
    rw [List.drop_of_length_le (by omega), List.append_nil]
    exact Ev.done (fun k => by simp only [grapevinelaw15_owned.l0]; rw [if_neg (by omega)])
  | succ m ih =>
    intro i acc hi ha
    have hlt : i < l7.length := by omega
    have hr := drop_rdi l7 i hlt
    have hm : rd_T42 l7 (i : Int) ∈ l7 := by rw [rdi_at l7 i hlt]; exact List.getElem_mem _
    generalize rd_T42 l7 (i : Int) = y at hr hm
    have hy := hb _ hm
    refine Ev.step (f := fun k => grapevinelaw15_owned.l0 k ((i + 1 : Nat) : Int) a0 a1 a2 a3 a4 a5 l6 l7 b0 b1 b2 b3 b4 b5 m6 (acc ++ [y])) (fun k => ?_) (by
      have := ih (i + 1) (acc ++ [y]) (by omega) (by simp [ha])
      rwa [List.append_assoc, List.singleton_append, ← hr] at this)
    simp only [grapevinelaw15_owned.l0, Option.bind_some, List.nil_append, List.length_nil, Nat.zero_add]
    have he : rd_T42 l7 (i : Int) = y := by
      have h2 := drop_rdi l7 i hlt
      rw [hr] at h2
      exact (List.cons.inj h2).1.symm
    rw [if_pos (by omega), if_pos (by omega), he, if_pos hy, if_pos (by omega), cast_succ_wrap hlt (by omega)]
theorem owned_ev (p : Pa) (h6 : p.f6.length < 5864062014805) (h7 : p.f7.length < 3518437208883) (hb : ∀ y ∈ p.f7, y.f2.length < 140737488355328) : Ev (fun k => grapevinelaw15_owned.f k p.f0 p.f1 p.f2 p.f3 p.f4 p.f5 p.f6 p.f7) (p.f0, p.f1, p.f2, p.f3, p.f4, p.f5, p.f6, p.f7) := by
  refine Ev.congr (fun k => ?_) (owned_ev_l p.f0 p.f1 p.f2 p.f3 p.f4 p.f5 p.f0 p.f1 p.f2 p.f3 p.f4 p.f5 p.f6 p.f6 p.f7 h7 hb p.f7.length 0 [] (by omega) rfl)
  unfold grapevinelaw15_owned.f
  rw [Option.bind_some, if_pos (by simpa using h6), List.nil_append]
  rfl
def bb (y : It) : It := ⟨y.f0, y.f1, bodyT y.f0⟩
def bbP (p : Pa) : Pa := ⟨p.f0, p.f1, p.f2, p.f3, p.f4, p.f5, p.f6, p.f7.map bb⟩
theorem set_mid (d r : List It) (y x : It) : (d ++ y :: r).set d.length x = (d ++ [x]) ++ r := by
  rw [List.set_append_right _ _ (Nat.le_refl _)]
  simp
theorem bodies_l1 (x0 x3 : List Pa) (x4 x5 : Int) (a0 a1 a2 a3 a4 a5 : Int) (l6 : List Sp) (h3 : x3.length < 1466015503701) (R : List Pa) : ∀ (r d : List It), d.length + r.length ≤ 1000 →
    Ev (fun k => grapevinelaw15_bodies.l0 k x0 (x3 ++ [(⟨a0, a1, a2, a3, a4, a5, l6, d ++ r.map bb⟩ : Pa)]) (wrap64 (x4 + ((d.length + r.length : Nat) : Int))) (wrap64 (x5 + 1))) R →
    Ev (fun k => grapevinelaw15_bodies.l1 k x0 x3 x4 x5 (d.length : Int) a0 a1 a2 a3 a4 a5 l6 (d ++ r)) R := by
  intro r
  induction r with
  | nil =>
    intro d hd h
    refine Ev.step (fun k => ?_) h
    simp only [grapevinelaw15_bodies.l1]
    rw [if_neg (by simp), if_pos h3]
    simp
  | cons y r ih =>
    intro d hd h
    rw [List.length_cons] at hd
    have hy : rd_T42 (d ++ y :: r) (d.length : Int) = y := by rw [rdi_at _ _ (by simp)]; simp
    refine Ev.step (f := fun k => grapevinelaw15_bodies.l1 k x0 x3 x4 x5 ((d ++ [bb y]).length : Int) a0 a1 a2 a3 a4 a5 l6 ((d ++ [bb y]) ++ r)) (fun k => ?_) (ih (d ++ [bb y]) (by simp; omega) ?_)
    · simp only [grapevinelaw15_bodies.l1]
      rw [if_pos (by simp; omega), if_pos (by omega), hy, Int.toNat_natCast, set_mid, wrap_ok (by omega) (by omega)]
      simp [bb, bodyT]
    · have e : (d ++ [bb y]) ++ r.map bb = d ++ (y :: r).map bb := by simp
      have e2 : (d ++ [bb y]).length + r.length = d.length + (y :: r).length := by simp; omega
      rw [e, e2]
      exact h
theorem itemsE_bb (sp : List Sp) (to_ : Int) : ∀ (l : List It) (a : Int), itemsE sp to_ a l = 0 → itemsE sp to_ a (l.map bb) = 0
  | [], _, h => h
  | x :: l, a, h => by
    rw [itemsE] at h
    rw [List.map_cons, itemsE]
    by_cases c : x.f0 ≤ a ∨ x.f0 > to_ ∨ atS sp x.f0 ≠ 0
    · rw [if_pos c] at h; omega
    rw [if_neg c] at h
    by_cases c2 : (x.f2.length : Int) > 400
    · rw [if_pos c2] at h; omega
    rw [if_neg c2] at h
    rw [if_neg (by simpa only [bb] using c), if_neg (by simp [bb, bodyT])]
    exact itemsE_bb sp to_ l x.f0 h
theorem bb_ok {p : Pa} (h : chk p.f0 p.f1 p.f2 p.f3 p.f4 p.f5 p.f6 p.f7 = 0) (hk : p.f0 = 1) (hn : ∀ y ∈ p.f7, 0 ≤ y.f1 ∧ y.f1 < 4294967296) : POk (bbP p) := by
  refine ⟨?_, hk, fun y hy => ?_⟩
  · show chk p.f0 p.f1 p.f2 p.f3 p.f4 p.f5 p.f6 (p.f7.map Go.Proofs.Ytffefaiaifhokaa.PT.bb) = 0
    rw [hk] at h ⊢
    unfold Go.Proofs.Ytffefaiaifhokaa.PT.chk at h ⊢
    rw [List.length_map]
    rw [if_neg (by omega)] at h ⊢
    split
    · rename_i c; rw [if_pos c] at h; exact h
    rename_i c
    rw [if_neg c, if_neg (by simp)] at h
    rw [if_neg (by simp)]
    split
    · rename_i c2; rw [if_pos c2] at h; exact h
    rename_i c2
    rw [if_neg c2] at h
    split
    · rename_i c3; rw [if_pos c3] at h; exact h
    rename_i c3
    rw [if_neg c3] at h
    split
    · rename_i c4; rw [if_pos c4] at h; exact h
    rename_i c4
    rw [if_neg c4] at h
    exact itemsE_bb _ _ _ _ h
  · obtain ⟨z, hz, rfl⟩ := List.mem_map.1 hy
    exact ⟨(hn z hz).1, (hn z hz).2, rfl⟩
/-- What bodies hands on. -/
structure Psok (ps : List Pa) : Prop where
  len : ps.length ≤ 8
  ok : ∀ p ∈ ps, POk p
  few : (ps.flatMap (fun p => p.f7)).length ≤ 64
theorem rdp_at (l : List Pa) (i : Nat) (h : i < l.length) : rd_T33 l (i : Int) = l[i] := by
  unfold rd_T33
  rw [Int.toNat_natCast, List.getD_eq_getElem?_getD, List.getElem?_eq_getElem h]
  rfl
theorem bodies_ev_l (l : List Pa) (hl : l.length ≤ 9223372036854775807) (hg : ∀ p ∈ l, p.f6.length < 5864062014805 ∧ p.f7.length < 3518437208883 ∧ (∀ y ∈ p.f7, y.f2.length < 140737488355328) ∧ ∀ y ∈ p.f7, 0 ≤ y.f1 ∧ y.f1 < 4294967296) :
    ∀ (d i : Nat) (out : List Pa) (n : Int), i + d = min l.length 8 → out.length ≤ i → (∀ p ∈ out, POk p) → n = ((out.flatMap (fun p => p.f7)).length : Int) → n ≤ 64 → ∃ ps, Ev (fun k => grapevinelaw15_bodies.l0 k l out n (i : Int)) ps ∧ Psok ps := by
  intro d
  induction d with
  | zero =>
    intro i out n hi ho hp hn h64
    refine ⟨out, Ev.done2 (fun k => ?_), by omega, hp, by omega⟩
    have hj : ∀ k, grapevinelaw15_bodies.j1 (k + 1) l out n (i : Int) false = some out := fun k => by simp only [grapevinelaw15_bodies.j1]; rw [if_neg (by simp)]
    rw [show k + 2 = (k + 1) + 1 from rfl]
    simp only [grapevinelaw15_bodies.l0]
    split
    · rw [show (decide ((i : Int) < 8)) = false from decide_eq_false (by omega)]; exact hj k
    · exact hj k
  | succ d ih =>
    intro i out n hi ho hp hn h64
    have hlt : i < l.length := by omega
    have hrd := rdp_at l i hlt
    have hm : l[i] ∈ l := List.getElem_mem _
    generalize l[i] = p at hrd hm
    obtain ⟨g6, g7, gb, gn⟩ := hg p hm
    have hskip : ∀ (out : List Pa) (n : Int) (R : List Pa), Ev (fun k => grapevinelaw15_bodies.l0 k l out n ((i + 1 : Nat) : Int)) R → ∀ a0 a1 a2 a3 a4 a5 l6 l7, Ev (fun k => grapevinelaw15_bodies.j2 k l out n (i : Int) true a0 a1 a2 a3 a4 a5 l6 l7) R := by
      intro out n R h a0 a1 a2 a3 a4 a5 l6 l7
      refine Ev.step (fun k => ?_) h
      simp only [grapevinelaw15_bodies.j2]
      rw [if_pos trivial, cast_succ_wrap hlt hl]
    have hopen : ∀ k, grapevinelaw15_bodies.l0 (k + 2) l out n (i : Int) = (grapevinelaw15_owned.f k p.f0 p.f1 p.f2 p.f3 p.f4 p.f5 p.f6 p.f7).bind fun b => (grapevineref13_Check.f k b.1 b.2.1 b.2.2.1 b.2.2.2.1 b.2.2.2.2.1 b.2.2.2.2.2.1 b.2.2.2.2.2.2.1 b.2.2.2.2.2.2.2).bind fun t =>
        if t = 0 then (if b.1 = 1 then grapevinelaw15_bodies.j2 k l out n (i : Int) (decide (wrap64 (n + (b.2.2.2.2.2.2.2.length : Int)) > 64)) b.1 b.2.1 b.2.2.1 b.2.2.2.1 b.2.2.2.2.1 b.2.2.2.2.2.1 b.2.2.2.2.2.2.1 b.2.2.2.2.2.2.2
          else grapevinelaw15_bodies.j2 k l out n (i : Int) true b.1 b.2.1 b.2.2.1 b.2.2.2.1 b.2.2.2.2.1 b.2.2.2.2.2.1 b.2.2.2.2.2.2.1 b.2.2.2.2.2.2.2)
        else grapevinelaw15_bodies.j2 k l out n (i : Int) true b.1 b.2.1 b.2.2.1 b.2.2.2.1 b.2.2.2.2.1 b.2.2.2.2.2.1 b.2.2.2.2.2.2.1 b.2.2.2.2.2.2.2 := by
      intro k
      rw [show k + 2 = (k + 1) + 1 from rfl]
      simp only [grapevinelaw15_bodies.l0]
      rw [if_pos (by omega), decide_eq_true (by omega)]
      simp only [grapevinelaw15_bodies.j1]
      rw [if_pos trivial, if_pos (by omega), if_pos (by omega), hrd]
    have hev : ∀ R, Ev (fun k => if chk p.f0 p.f1 p.f2 p.f3 p.f4 p.f5 p.f6 p.f7 = 0 then (if p.f0 = 1 then grapevinelaw15_bodies.j2 k l out n (i : Int) (decide (wrap64 (n + (p.f7.length : Int)) > 64)) p.f0 p.f1 p.f2 p.f3 p.f4 p.f5 p.f6 p.f7
          else grapevinelaw15_bodies.j2 k l out n (i : Int) true p.f0 p.f1 p.f2 p.f3 p.f4 p.f5 p.f6 p.f7)
        else grapevinelaw15_bodies.j2 k l out n (i : Int) true p.f0 p.f1 p.f2 p.f3 p.f4 p.f5 p.f6 p.f7) R → Ev (fun k => grapevinelaw15_bodies.l0 k l out n (i : Int)) R := fun R h =>
      Ev.step2 hopen (Ev.bind (owned_ev p g6 g7 gb) (Ev.bind (RCheck_ev _ _ _ _ _ _ _ _) h))
    have hno := ih (i + 1) out n (by omega) (by omega) hp hn h64
    obtain ⟨ps0, e0, q0⟩ := hno
    by_cases c1 : chk p.f0 p.f1 p.f2 p.f3 p.f4 p.f5 p.f6 p.f7 = 0
    case neg => exact ⟨ps0, hev _ (Ev.congr (fun k => if_neg c1) (hskip _ _ _ e0 _ _ _ _ _ _ _ _)), q0⟩
    by_cases c2 : p.f0 = 1
    case neg => exact ⟨ps0, hev _ (Ev.congr (fun k => (if_pos c1).trans (if_neg c2)) (hskip _ _ _ e0 _ _ _ _ _ _ _ _)), q0⟩
    have hok : POk (bbP p) := bb_ok c1 c2 gn
    have h8 : p.f7.length ≤ 8 := by have := hok.open.2.2.2; simpa [bbP] using this
    have hw : wrap64 (n + (p.f7.length : Int)) = n + (p.f7.length : Int) := wrap_ok (by omega) (by omega)
    by_cases c3 : n + (p.f7.length : Int) > 64
    · exact ⟨ps0, hev _ (Ev.congr (fun k => (if_pos c1).trans ((if_pos c2).trans (by rw [hw, decide_eq_true c3]))) (hskip _ _ _ e0 _ _ _ _ _ _ _ _)), q0⟩
    · obtain ⟨ps1, e1, q1⟩ := ih (i + 1) (out ++ [bbP p]) (n + (p.f7.length : Int)) (by omega) (by simp; omega) (fun q hq => by
        rcases List.mem_append.1 hq with hq | hq
        · exact hp q hq
        · rw [List.mem_singleton] at hq; subst hq; exact hok) (by rw [List.flatMap_append, List.length_append, hn]; simp [bbP]) (by omega)
      refine ⟨ps1, hev _ (Ev.congr (fun k => (if_pos c1).trans ((if_pos c2).trans (by rw [hw, decide_eq_false c3]))) ?_), q1⟩
      refine Ev.step (f := fun k => grapevinelaw15_bodies.l1 k l out n (i : Int) 0 p.f0 p.f1 p.f2 p.f3 p.f4 p.f5 p.f6 p.f7) (fun k => by simp only [grapevinelaw15_bodies.j2]; rw [if_neg (by simp)]) ?_
      have := bodies_l1 l out n (i : Int) p.f0 p.f1 p.f2 p.f3 p.f4 p.f5 p.f6 (by omega) ps1 p.f7 [] (by simp; omega) (by
        rw [List.nil_append, List.length_nil, Nat.zero_add, hw, cast_succ_wrap hlt hl]
        exact e1)
      exact this
/-! ### the two streams -/
theorem SameItems_one (a : It) : ∃ k, grapevineref13_SameItems.f k [a] [a] = some true := by
  refine ⟨2, ?_⟩
  have e : wrap64 (0 + 1) = 1 := by rw [wrap_ok (by decide) (by decide)]; rfl
  unfold grapevineref13_SameItems.f
  rw [if_pos rfl]
  simp only [grapevineref13_SameItems.l0]
  rw [if_pos (by simp), if_pos (by simp), if_pos (by simp), if_pos trivial, if_pos trivial, if_pos trivial, e, if_neg (by simp)]
theorem at_mem {l : List Sp} : ∀ {pe pi : Int}, rightB pe pi l = true → ∀ s ∈ l, ∀ t, s.f0 ≤ t → t ≤ s.f1 → atS l t = s.f2 := by
  induction l with
  | nil => intro _ _ _ s hs; exact absurd hs (by simp)
  | cons x l ih =>
    intro pe pi h s hs t h1 h2
    obtain ⟨⟨a1, a2, a3⟩, hr⟩ := rightB_cons.1 h
    rw [atS_cons]
    rcases List.mem_cons.1 hs with rfl | hs
    · rw [if_pos ⟨h1, h2⟩]
    · have h3 := ih hr s hs t h1 h2
      by_cases c : x.f0 ≤ t ∧ t ≤ x.f1
      · have h4 := at_le hr c.2
        rw [h4] at h3
        have h5 := right_is hr s hs
        omega
      · rw [if_neg c]; exact h3
theorem span_in {l : List Sp} : ∀ {pe pi : Int}, rightB pe pi l = true → ∀ s ∈ l, 1 ≤ s.f0 ∧ s.f1 ≤ 1099511627776 := by
  induction l with
  | nil => intro _ _ _ s hs; exact absurd hs (by simp)
  | cons x l ih =>
    intro pe pi h s hs
    obtain ⟨⟨a1, a2, a3⟩, hr⟩ := rightB_cons.1 h
    rcases List.mem_cons.1 hs with rfl | hs
    · omega
    · exact ih hr s hs
theorem turn_back (n t m : Int) (hn : 0 < n) (hm : 0 ≤ m) (hmn : m < n) : ∃ i : Int, 0 ≤ i ∧ i < n ∧ (n - 1 - i + t) % n = m := by
  refine ⟨(n - 1 + t - m) % n, Int.emod_nonneg _ (by omega), Int.emod_lt_of_pos _ hn, ?_⟩
  have h := Int.emod_add_mul_ediv (n - 1 + t - m) n
  have e : n - 1 - (n - 1 + t - m) % n + t = m + n * ((n - 1 + t - m) / n) := by omega
  rw [e, Int.add_mul_emod_self_left]
  exact Int.emod_eq_of_lt hm hmn
def seqX (ps : List Pa) (m : Nat) : Pa := pAt ps ((m % ps.length : Nat) : Int)
def seqY (ps : List Pa) (turn : Int) (m : Nat) : Pa := if m % 2 = 0 then pAt ps (((ps.length : Int) - 1 - ((m / 2 : Nat) : Int) + turn) % (ps.length : Int)) else pAt ps 0
theorem pAt_mem {ps : List Pa} {i : Int} (h0 : 0 ≤ i) (h1 : i < ps.length) : pAt ps i ∈ ps := by
  unfold pAt
  rw [List.getD_eq_getElem?_getD, List.getElem?_eq_getElem (by omega)]
  exact List.getElem_mem _
theorem mem_pAt {ps : List Pa} {p : Pa} (h : p ∈ ps) : ∃ m : Nat, m < ps.length ∧ pAt ps (m : Int) = p := by
  obtain ⟨m, hm, e⟩ := List.mem_iff_getElem.1 h
  refine ⟨m, hm, ?_⟩
  unfold pAt
  rw [Int.toNat_natCast, List.getD_eq_getElem?_getD, List.getElem?_eq_getElem hm]
  exact e
theorem Orders_ex (ps : List Pa) (h : Psok ps) (turn : Int) (ht : 0 ≤ turn ∧ turn < 256) : ∃ S T M, OrdersP ps turn S T M := by
  by_cases hz : ps.length = 0
  · refine ⟨fun _ => ([], []), fun _ => ([], []), fun _ => ([], []), h.len, ht, rfl, rfl, fun i hi => absurd hi (by omega), fun i hi => absurd hi (by omega), fun i hi => absurd hi (by omega), fun i hi => absurd hi (by omega), rfl, rfl, ?_, by decide, fun x hx => absurd hx (by simp)⟩
    exact Ev.rounds (Same_self [] (by simp))
  have hn : 0 < ps.length := by omega
  have hx : ∀ m, seqX ps m ∈ ps := fun m => pAt_mem (by omega) (by have := Nat.mod_lt m hn; omega)
  have hy : ∀ m, seqY ps turn m ∈ ps := fun m => by
    unfold seqY
    split
    · exact pAt_mem (Int.emod_nonneg _ (by omega)) (Int.emod_lt_of_pos _ (by omega))
    · exact pAt_mem (by omega) (by omega)
  have hin : ∀ p ∈ ps, ∀ y ∈ p.f7, y ∈ ps.flatMap (fun p => p.f7) := fun p hp y hy => List.mem_flatMap.2 ⟨p, hp, hy⟩
  obtain ⟨S, s0, s1, s2⟩ := chain (seqX ps) (fun m => h.ok _ (hx m)) _ h.few (fun m => hin _ (hx m))
  obtain ⟨T, t0, t1, t2⟩ := chain (seqY ps turn) (fun m => h.ok _ (hy m)) _ h.few (fun m => hin _ (hy m))
  have ex : ∀ m, m < ps.length → seqX ps m = pAt ps (m : Int) := fun m hm => by unfold seqX; rw [Nat.mod_eq_of_lt hm]
  have ex2 : ∀ m, m < ps.length → seqX ps (ps.length + m) = pAt ps (m : Int) := fun m hm => by unfold seqX; rw [Nat.add_mod_left, Nat.mod_eq_of_lt hm]
  have ey0 : ∀ m, seqY ps turn (2 * m) = pAt ps (((ps.length : Int) - 1 - (m : Int) + turn) % (ps.length : Int)) := fun m => by unfold seqY; rw [if_pos (by omega), Nat.mul_div_cancel_left m (by decide)]
  have ey1 : ∀ m, seqY ps turn (2 * m + 1) = pAt ps 0 := fun m => by unfold seqY; rw [if_neg (by omega)]
  have cx : ∀ p, (∃ m, m < ps.length + ps.length ∧ seqX ps m = p) ↔ p ∈ ps := fun p => ⟨fun ⟨m, _, e⟩ => e ▸ hx m, fun hp => by
    obtain ⟨m, hm, e⟩ := mem_pAt hp
    exact ⟨m, by omega, (ex m hm).trans e⟩⟩
  have cy : ∀ p, (∃ m, m < 2 * ps.length ∧ seqY ps turn m = p) ↔ p ∈ ps := fun p => ⟨fun ⟨m, _, e⟩ => e ▸ hy m, fun hp => by
    obtain ⟨m, hm, e⟩ := mem_pAt hp
    obtain ⟨i, i1, i2, i3⟩ := turn_back (ps.length : Int) turn (m : Int) (by omega) (by omega) (by omega)
    refine ⟨2 * i.toNat, by omega, ?_⟩
    rw [ey0, Int.toNat_of_nonneg i1, i3, e]⟩
  have hS : SI (fun t j => ∃ p ∈ ps, atS p.f6 t = j ∧ j ≠ 0) (fun y => ∃ p ∈ ps, y ∈ p.f7) (S (ps.length + ps.length)).1 (S (ps.length + ps.length)).2 :=
    (s1 (ps.length + ps.length)).congr (fun t j => ⟨fun ⟨m, hm, e⟩ => ⟨_, hx m, e⟩, fun ⟨p, hp, e⟩ => by
      obtain ⟨m, hm, rfl⟩ := (cx p).2 hp
      exact ⟨m, hm, e⟩⟩) (fun y => ⟨fun ⟨m, hm, e⟩ => ⟨_, hx m, e⟩, fun ⟨p, hp, e⟩ => by
      obtain ⟨m, hm, rfl⟩ := (cx p).2 hp
      exact ⟨m, hm, e⟩⟩)
  have hT : SI (fun t j => ∃ p ∈ ps, atS p.f6 t = j ∧ j ≠ 0) (fun y => ∃ p ∈ ps, y ∈ p.f7) (T (2 * ps.length)).1 (T (2 * ps.length)).2 :=
    (t1 (2 * ps.length)).congr (fun t j => ⟨fun ⟨m, hm, e⟩ => ⟨_, hy m, e⟩, fun ⟨p, hp, e⟩ => by
      obtain ⟨m, hm, rfl⟩ := (cy p).2 hp
      exact ⟨m, hm, e⟩⟩) (fun y => ⟨fun ⟨m, hm, e⟩ => ⟨_, hy m, e⟩, fun ⟨p, hp, e⟩ => by
      obtain ⟨m, hm, rfl⟩ := (cy p).2 hp
      exact ⟨m, hm, e⟩⟩)
  obtain ⟨k1, k2, k3⟩ := hS.same hT
  have lS := length_right hS.right (Int.le_refl 0)
  have lT := length_right hT.right (Int.le_refl 0)
  refine ⟨S, fun i => T (2 * i), fun i => T (2 * i + 1), h.len, ht, s0, t0, fun i hi => ?_, fun i hi => ?_, fun i hi => ?_, fun i hi => ?_, if_pos (by omega), if_pos (by omega), ?_, by omega, fun x hx hx1 => ?_⟩
  · obtain ⟨r, h1, _⟩ := s2 i
    rw [ex i hi] at h1
    exact ⟨r, h1⟩
  · obtain ⟨r, h1, _⟩ := t2 (2 * i)
    rw [ey0] at h1
    exact ⟨r, h1⟩
  · obtain ⟨r, h1, _⟩ := t2 (2 * i + 1)
    rw [ey1] at h1
    exact ⟨r, h1⟩
  · obtain ⟨r, h1, h2⟩ := s2 (ps.length + i)
    rw [ex2 i hi] at h1
    have hr := h2 ⟨i, by omega, by rw [ex i hi, ex2 i hi]⟩
    rw [hr] at h1
    exact h1
  · show ∃ k, grapevineref08_Same.f k (S (ps.length + ps.length)).1 (T (2 * ps.length)).1 = some true
    rw [← k1]
    exact Ev.rounds (Same_self _ (by omega))
  · obtain ⟨b1, b2⟩ := span_in hS.right x hx
    refine ⟨by omega, by omega, fun t h1 h2 => ?_⟩
    have ha := at_mem hS.right x hx t h1 h2
    rw [hx1] at ha
    obtain ⟨a, a1, rfl⟩ := (hS.mem t).2 ha
    have hc : stream_copied.f a.f0 a.f1 a.f2 = some (a.f0, a.f1, a.f2) := copied_eq (by rw [hS.body a a1]; simp [bodyT])
    exact ⟨a, a, getI_of hS.apart a1, k3 a a1, hc, hc, SameItems_one a⟩
end Go.Proofs.Ytffefaiaifhokaa.PT
