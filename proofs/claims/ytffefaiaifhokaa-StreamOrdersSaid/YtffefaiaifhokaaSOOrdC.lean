/-
  PLAIN LAW: a parcel is learnt, whatever is known; learnt again it changes nothing; parcels learnt one behind the other.
-/
import Derived.Test.YtffefaiaifhokaaSOOrdB
import Derived.Test.YtffefaiaifhokaaSOPTx16
import Derived.Test.YtffefaiaifhokaaSOPTx18
set_option linter.unusedSimpArgs false
set_option linter.unusedVariables false
namespace Go.Proofs.Ytffefaiaifhokaa.PT
open Go.RowKit Go.Proofs.YtffefaiaifhokaaW.PrintWords Go.Proofs.YtffefaiaifhokaaW.PrintMore
theorem Ev.near {α : Type} {g f : Nat → Option α} {r : α} (h : ∃ N, ∀ k, N ≤ k → g k = f k) (k : Ev f r) : Ev g r := by
  obtain ⟨N, h⟩ := h
  obtain ⟨K, k⟩ := k
  exact ⟨max N K, fun n hn => (h n (by omega)).trans (k n (by omega))⟩
theorem copied_eq {t f : Int} {l : List Int} (h : l.length < 140737488355328) : stream_copied.f t f l = some (t, f, l) := by
  unfold stream_copied.f slices_Clone_byte_byte.f
  rw [if_pos h]; rfl
theorem wf64 {t : Int} (h1 : -9223372036854775808 ≤ t) (h2 : t ≤ 9223372036854775807) : (Lit.int .i64 t).wf = true := by
  have e := wrap_ok h1 h2
  rw [← e]; exact wrap64_wf t
theorem right_len {K : List Sp} (h : rightB 0 0 K = true) : K.length ≤ 9223372036854775807 := by have := length_right h (Int.le_refl 0); omega
theorem StJoin_ev (K l : List Sp) (hK : rightB 0 0 K = true) (hl : rightB 0 0 l = true) : ∃ K1, Ev (fun k => stream_Stream_join.f k K l) K1 ∧ Zips (fun t => mx (atS K t) (atS l t)) K1 := by
  obtain ⟨r, r1, r2⟩ := Join_ev K l (right_len hK) (right_len hl)
  rcases r2 with ⟨_, _, _, h⟩ | ⟨h, _⟩
  · exact ⟨r.1, Ev.bind r1 (Ev.now _), h⟩
  · exact absurd ⟨hK, hl⟩ h
theorem one_right {y : It} (h : ItOK y) : rightB 0 0 [(⟨y.f0, y.f0, 1⟩ : Sp)] = true := by
  rw [rightB_cons]
  have h1 := h.lo
  have h2 := h.hi
  exact ⟨⟨⟨by simp, by simp, h1, Int.le_refl _, h2⟩, by simp only; omega, fun e => by have := e.2; simp at this⟩, rfl⟩
theorem items_ev (M : List It) (hM : M.length ≤ 64) (KS : Int → Int → Prop) : ∀ (l : List It) (KI : It → Prop) (K : List Sp) (X : List It), SI KS KI K X → (∀ y ∈ l, ItOK y) → (∀ y, KI y → y ∈ M) → (∀ y ∈ l, y ∈ M) →
    ∃ K2 X2, Ev (fun k => itemsF k l K X) (K2, X2) ∧ SI KS (fun y => KI y ∨ y ∈ l) K2 X2 := by
  intro l
  induction l with
  | nil => intro KI K X h _ _ _; exact ⟨K, X, Ev.now _, h.congr (fun _ _ => Iff.rfl) (fun y => by simp)⟩
  | cons x l ih =>
    intro KI K X h hl hk hm
    have hx := hl x List.mem_cons_self
    have hb := h.bound hk
    have hc : (Lit.int .i64 x.f0).wf = true ∧ X.length < 1000 ∧ stream_copied.f x.f0 x.f1 x.f2 = some (x.f0, x.f1, x.f2) :=
      ⟨wf64 (by have := hx.lo; omega) (by have := hx.hi; omega), by omega, copied_eq (by rw [hx.body]; simp [bodyT])⟩
    have e : ∀ k, itemsF k (x :: l) K X = (span_At.f k K x.f0).bind fun a =>
        if a = 0 then (stream_Stream_join.f k K [⟨x.f0, x.f0, 1⟩]).bind fun K' => itemsF k l K' (putI x X)
        else if a = 1 then (getI X x.f0).bind fun y => itemsF k l K (putI ⟨x.f0, orI y.f1 x.f1, y.f2⟩ X)
        else itemsF k l K X := fun k => by rw [itemsF, if_pos hc]
    have sub : ∀ y, (KI y ∨ y = x) → y ∈ M := fun y hy => by
      rcases hy with hy | rfl
      · exact hk y hy
      · exact hm y List.mem_cons_self
    have hl' : ∀ y ∈ l, ItOK y := fun y hy => hl y (List.mem_cons_of_mem _ hy)
    have hm' : ∀ y ∈ l, y ∈ M := fun y hy => hm y (List.mem_cons_of_mem _ hy)
    have ek : ∀ y, ((KI y ∨ y = x) ∨ y ∈ l) ↔ (KI y ∨ y ∈ x :: l) := fun y => by rw [List.mem_cons, or_assoc]
    have ea := SAt_ev K x.f0 (right_len h.right)
    have hr := at_range (l := K) x.f0 h.right
    by_cases a0 : atS K x.f0 = 0
    · obtain ⟨K1, j1, z1⟩ := StJoin_ev K [⟨x.f0, x.f0, 1⟩] h.right (one_right hx)
      obtain ⟨K2, X2, e2, s2⟩ := ih _ K1 (putI x X) (h.new hx a0 z1) hl' sub hm'
      exact ⟨K2, X2, Ev.congr e (Ev.bind ea (Ev.congr (fun k => if_pos a0) (Ev.bind j1 e2))), s2.congr (fun _ _ => Iff.rfl) ek⟩
    by_cases a1 : atS K x.f0 = 1
    · obtain ⟨z, hz, ez⟩ := (h.mem x.f0).2 a1
      have hg : getI X x.f0 = some z := by rw [← ez]; exact getI_of h.apart hz
      obtain ⟨K2, X2, e2, s2⟩ := ih _ K _ (h.known hx a1 hz ez) hl' sub hm'
      exact ⟨K2, X2, Ev.congr e (Ev.bind ea (Ev.congr (fun k => (if_neg a0).trans ((if_pos a1).trans (by rw [hg, Option.bind_some]))) e2)), s2.congr (fun _ _ => Iff.rfl) ek⟩
    · obtain ⟨K2, X2, e2, s2⟩ := ih _ K X (h.skip (y := x) (by omega)) hl' sub hm'
      exact ⟨K2, X2, Ev.congr e (Ev.bind ea (Ev.congr (fun k => (if_neg a0).trans (if_neg a1)) e2)), s2.congr (fun _ _ => Iff.rfl) ek⟩
/-- A parcel that may be learnt. -/
structure POk (p : Pa) : Prop where
  chk : chk p.f0 p.f1 p.f2 p.f3 p.f4 p.f5 p.f6 p.f7 = 0
  kind : p.f0 = 1
  its : ∀ y ∈ p.f7, 0 ≤ y.f1 ∧ y.f1 < 4294967296 ∧ y.f2 = bodyT y.f0
theorem itemsE_in (sp : List Sp) (to_ : Int) : ∀ (l : List It) (a : Int), itemsE sp to_ a l = 0 → ∀ y ∈ l, a < y.f0 ∧ y.f0 ≤ to_
  | [], _, _, _, h => absurd h (by simp)
  | x :: l, a, h, y, hy => by
    rw [itemsE] at h
    by_cases c : x.f0 ≤ a ∨ x.f0 > to_ ∨ atS sp x.f0 ≠ 0
    · rw [if_pos c] at h; omega
    rw [if_neg c] at h
    by_cases c2 : (x.f2.length : Int) > 400
    · rw [if_pos c2] at h; omega
    rw [if_neg c2] at h
    rcases List.mem_cons.1 hy with rfl | hy
    · omega
    · have := itemsE_in sp to_ l x.f0 h y hy
      omega
theorem at_is : ∀ (l : List Sp) (t : Int), atS l t ≠ 0 → ∃ s ∈ l, s.f2 = atS l t
  | [], _, h => absurd rfl h
  | s :: l, t, h => by
    rw [atS_cons] at h ⊢
    split
    · exact ⟨s, List.mem_cons_self, rfl⟩
    · rename_i c
      rw [if_neg c] at h
      obtain ⟨s', h1, h2⟩ := at_is l t h
      exact ⟨s', List.mem_cons_of_mem _ h1, h2⟩
theorem POk.open {p : Pa} (h : POk p) : rightB 0 0 p.f6 = true ∧ (∀ t, atS p.f6 t ≠ 1) ∧ (∀ y ∈ p.f7, ItOK y) ∧ p.f7.length ≤ 8 := by
  have hc := h.chk
  rw [h.kind] at hc
  unfold Go.Proofs.Ytffefaiaifhokaa.PT.chk at hc
  rw [if_neg (by omega)] at hc
  by_cases c1 : numsOK 1 p.f1 p.f2 p.f3 p.f4 p.f5
  case neg => rw [if_pos c1] at hc; omega
  rw [if_neg (by simp [c1]), if_neg (by simp)] at hc
  by_cases c2 : (p.f6.length : Int) > 32 ∨ (p.f7.length : Int) > 8
  · rw [if_pos c2] at hc; omega
  rw [if_neg c2] at hc
  by_cases c3 : rightB 0 0 p.f6 = true
  case neg => rw [if_pos c3] at hc; omega
  rw [if_neg (by simp [c3])] at hc
  by_cases c4 : ∀ s ∈ p.f6, spanOK p.f4 p.f5 s
  case neg => rw [if_pos c4] at hc; omega
  rw [if_neg (fun hn => hn c4)] at hc
  have c5 := itemsE_in _ _ _ _ hc
  have c6 := c1.2.2
  rw [if_pos (.inl rfl)] at c6
  refine ⟨c3, fun t e => ?_, fun y hy => ?_, by omega⟩
  · obtain ⟨s, h1, h2⟩ := at_is p.f6 t (by omega)
    exact (c4 s h1).1 (by omega)
  · obtain ⟨b1, b2⟩ := c5 y hy
    obtain ⟨i1, i2, i3⟩ := h.its y hy
    exact ⟨by omega, by omega, i1, i2, i3⟩
theorem SAt_all (K : List Sp) (hK : K.length ≤ 9223372036854775807) : ∀ X : List It, ∃ N, ∀ k, N ≤ k → ∀ x ∈ X, span_At.f k K x.f0 = some (atS K x.f0)
  | [] => ⟨0, fun _ _ _ h => absurd h (by simp)⟩
  | x :: X => by
    obtain ⟨N, h⟩ := SAt_all K hK X
    obtain ⟨N1, h1⟩ := SAt_ev K x.f0 hK
    refine ⟨max N N1, fun k hk y hy => ?_⟩
    rcases List.mem_cons.1 hy with rfl | hy
    · exact h1 k (by omega)
    · exact h k (by omega) y hy
abbrev EqSp (k : Nat) (l m : List Sp) : Option Bool := api_Span_42.f k l m
theorem EqSp_ev_l (l m : List Sp) (hlen : l.length = m.length) (hl : l.length ≤ 9223372036854775807) : ∀ (d i : Nat), i + d = l.length → Ev (fun k => api_Span_42.l0 k l m (l.length : Int) (i : Int)) (decide (l.drop i = m.drop i)) := by
  intro d
  induction d with
  | zero =>
    intro i hi
    rw [List.drop_of_length_le (by omega), List.drop_of_length_le (by omega)]
    exact Ev.done (fun k => by simp only [api_Span_42.l0]; rw [if_neg (by omega)]; rfl)
  | succ d ih =>
    intro i hi
    rw [drop_rd l i (by omega), drop_rd m i (by omega)]
    generalize hs : rd_T38 l (i : Int) = s
    generalize hu : rd_T38 m (i : Int) = u
    by_cases e : s = u
    · subst e
      refine Ev.step (f := fun k => api_Span_42.l0 k l m (l.length : Int) ((i + 1 : Nat) : Int)) (fun k => ?_) (by have := ih (i + 1) (by omega); simpa using this)
      simp only [api_Span_42.l0]
      rw [if_pos (by omega), if_pos (by omega), if_pos (by omega), if_pos (by omega), hs, hu, if_neg (by simp), cast_succ_wrap (by omega : i < l.length) hl]
    · rw [decide_eq_false (by simp [e])]
      refine Ev.done (fun k => ?_)
      simp only [api_Span_42.l0]
      rw [if_pos (by omega), if_pos (by omega), if_pos (by omega), if_pos (by omega), hs, hu, if_pos]
      by_cases e0 : s.f0 = u.f0
      · by_cases e1 : s.f1 = u.f1
        · by_cases e2 : s.f2 = u.f2
          · exact absurd (by cases s; cases u; simp only at e0 e1 e2; subst e0; subst e1; subst e2; rfl) e
          · simp [e0, e1, e2]
        · simp [e0, e1]
      · simp [e0]
theorem EqSp_ev (l m : List Sp) (hl : l.length ≤ 9223372036854775807) : Ev (fun k => EqSp k l m) (decide (l = m)) := by
  by_cases e : l.length = m.length
  · refine Ev.congr (f := fun k => api_Span_42.l0 k l m (l.length : Int) ((0 : Nat) : Int)) (fun k => ?_) (EqSp_ev_l l m e hl l.length 0 (by omega))
    unfold EqSp api_Span_42.f
    rw [if_pos (by omega)]; rfl
  · rw [decide_eq_false (fun h => e (by rw [h]))]
    refine Ev.congr (f := fun k => some false) (fun k => ?_) (Ev.now _)
    unfold EqSp api_Span_42.f
    rw [if_neg (by omega)]
abbrev St := List Sp × List It
abbrev LT (s : St) (p : Pa) (t : St) (r : Bool) : Prop := ∃ k, learnF k s.1 s.2 p.f0 p.f1 p.f2 p.f3 p.f4 p.f5 p.f6 p.f7 = some (t.1, t.2, r)
theorem learn_ev (M : List It) (hM : M.length ≤ 64) {KS : Int → Int → Prop} {KI : It → Prop} {K : List Sp} {X : List It} {p : Pa} (h : SI KS KI K X) (hp : POk p) (hk : ∀ y, KI y → y ∈ M) (hm : ∀ y ∈ p.f7, y ∈ M) :
    ∃ t r, LT (K, X) p t r ∧ SI (fun t j => KS t j ∨ (atS p.f6 t = j ∧ j ≠ 0)) (fun y => KI y ∨ y ∈ p.f7) t.1 t.2 ∧ ((∀ t j, atS p.f6 t = j → j ≠ 0 → KS t j) → (∀ y ∈ p.f7, KI y) → r = false) := by
  obtain ⟨r6, d6, i7, n7⟩ := hp.open
  obtain ⟨K1, j1, z1⟩ := StJoin_ev K p.f6 h.right r6
  have s1 := h.spans r6 d6 z1
  obtain ⟨K2, X2, e2, s2⟩ := items_ev M hM _ p.f7 KI K1 _ s1 i7 hk hm
  have b2 : X2.length ≤ 64 := by
    have := s2.bound (M := M) (fun y hy => by
      rcases hy with hy | hy
      · exact hk y hy
      · exact hm y hy)
    omega
  have hq := EqSp_ev K K2 (right_len h.right)
  refine ⟨(K2, X2), !(decide (K = K2) && eqFor X X2), ?_, s2, fun a1 a2 => ?_⟩
  · obtain ⟨N, hN⟩ := SAt_all K1 (right_len z1.1) X
    refine Ev.rounds (g := fun k => learnF k K X p.f0 p.f1 p.f2 p.f3 p.f4 p.f5 p.f6 p.f7) ?_
    refine Ev.bind (Check_ev _ _ _ _ _ _ _ _) (Ev.congr (fun k => if_pos ⟨hp.chk, hp.kind, by omega⟩) (Ev.bind j1 ?_))
    refine Ev.near (f := fun k => (itemsF k p.f7 K1 (X.filter (fun x => atS K1 x.f0 == 1))).bind fun s => if s.2.length ≤ 64 then (EqSp k K s.1).bind fun q => some (s.1, s.2, !(q && eqFor X s.2)) else none) ⟨N, fun k hk => ?_⟩ (Ev.bind e2 (Ev.congr (fun k => if_pos b2) (Ev.bind hq (Ev.now _))))
    have hf : X.filter (keepI k K1) = X.filter (fun x => atS K1 x.f0 == 1) := List.filter_congr (fun x hx => by simp only [keepI, hN k hk x hx]; rfl)
    rw [if_pos (List.all_eq_true.2 fun x hx => by rw [hN k hk x hx]; rfl), hf]
  · have s3 : SI KS KI K2 X2 := s2.congr (fun t j => ⟨fun hh => by
      rcases hh with hh | ⟨e, e0⟩
      · exact hh
      · exact a1 t j e e0, Or.inl⟩) (fun y => ⟨fun hh => by
      rcases hh with hh | hh
      · exact hh
      · exact a2 y hh, Or.inl⟩)
    obtain ⟨k1, k2, k3⟩ := h.same s3
    have : eqFor X X2 = true := by
      simp only [eqFor, Bool.and_eq_true, beq_iff_eq, List.all_eq_true]
      exact ⟨k2, fun x hx => by simp [eq1, k3 x hx]⟩
    rw [this, decide_eq_true k1]; rfl
def KSr (seq : Nat → Pa) (i : Nat) (t j : Int) : Prop := ∃ m, m < i ∧ atS (seq m).f6 t = j ∧ j ≠ 0
def KIr (seq : Nat → Pa) (i : Nat) (y : It) : Prop := ∃ m, m < i ∧ y ∈ (seq m).f7
theorem chain_step (seq : Nat → Pa) (hs : ∀ m, POk (seq m)) (M : List It) (hM : M.length ≤ 64) (hin : ∀ m, ∀ y ∈ (seq m).f7, y ∈ M) (i : Nat) (s : { s : St // SI (KSr seq i) (KIr seq i) s.1 s.2 }) :
    ∃ t : { s : St // SI (KSr seq (i + 1)) (KIr seq (i + 1)) s.1 s.2 }, ∃ r, LT s.1 (seq i) t.1 r ∧ ((∃ m, m < i ∧ seq m = seq i) → r = false) := by
  obtain ⟨t, r, h1, h2, h3⟩ := learn_ev M hM s.2 (hs i) (fun y ⟨m, _, hy⟩ => hin m y hy) (hin i)
  refine ⟨⟨t, h2.congr (fun t j => ⟨fun hh => ?_, fun ⟨m, hm, e⟩ => ?_⟩) (fun y => ⟨fun hh => ?_, fun ⟨m, hm, e⟩ => ?_⟩)⟩, r, h1, fun ⟨m, hm, e⟩ => h3 (fun t j e1 e2 => ⟨m, hm, by rw [e]; exact e1, e2⟩) (fun y hy => ⟨m, hm, by rw [e]; exact hy⟩)⟩
  · rcases hh with ⟨m, hm, e⟩ | e
    · exact ⟨m, by omega, e⟩
    · exact ⟨i, by omega, e⟩
  · by_cases c : m = i
    · subst c; exact .inr e
    · exact .inl ⟨m, by omega, e⟩
  · rcases hh with ⟨m, hm, e⟩ | e
    · exact ⟨m, by omega, e⟩
    · exact ⟨i, by omega, e⟩
  · by_cases c : m = i
    · subst c; exact .inr e
    · exact .inl ⟨m, by omega, e⟩
theorem chain (seq : Nat → Pa) (hs : ∀ m, POk (seq m)) (M : List It) (hM : M.length ≤ 64) (hin : ∀ m, ∀ y ∈ (seq m).f7, y ∈ M) :
    ∃ S : Nat → St, S 0 = ([], []) ∧ (∀ i, SI (KSr seq i) (KIr seq i) (S i).1 (S i).2) ∧ ∀ i, ∃ r, LT (S i) (seq i) (S (i + 1)) r ∧ ((∃ m, m < i ∧ seq m = seq i) → r = false) := by
  have h0 : SI (KSr seq 0) (KIr seq 0) ([] : List Sp) ([] : List It) := SI.nil.congr (fun t j => ⟨fun h => h.elim, fun ⟨m, hm, _⟩ => absurd hm (Nat.not_lt_zero _)⟩) (fun y => ⟨fun h => h.elim, fun ⟨m, hm, _⟩ => absurd hm (Nat.not_lt_zero _)⟩)
  let F : ∀ i, { s : St // SI (KSr seq i) (KIr seq i) s.1 s.2 } := fun i => Nat.rec (motive := fun i => { s : St // SI (KSr seq i) (KIr seq i) s.1 s.2 }) ⟨([], []), h0⟩ (fun i s => Classical.choose (chain_step seq hs M hM hin i s)) i
  exact ⟨fun i => (F i).1, rfl, fun i => (F i).2, fun i => Classical.choose_spec (chain_step seq hs M hM hin i (F i))⟩
end Go.Proofs.Ytffefaiaifhokaa.PT
