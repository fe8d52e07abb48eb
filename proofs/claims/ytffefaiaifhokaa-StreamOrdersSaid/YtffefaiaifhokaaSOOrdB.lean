/-
  PLAIN LAW: what stands behind learning parcels: of each tick the greatest that was told, and of each item for whom all said it is.
-/
import Derived.Test.YtffefaiaifhokaaSOOrdS
import Derived.Test.YtffefaiaifhokaaSOParC
import Derived.Test.YtffefaiaifhokaaSOPTx18
set_option linter.unusedSimpArgs false
set_option linter.unusedVariables false
namespace Go.Proofs.Ytffefaiaifhokaa.PT
open Go.RowKit Go.Proofs.YtffefaiaifhokaaW.PrintWords Go.Proofs.YtffefaiaifhokaaW.PrintMore
abbrev Pa := S33
def bodyT (t : Int) : List Int := [t % 256, (t / 256) % 256]
structure ItOK (y : It) : Prop where
  lo : 1 ≤ y.f0
  hi : y.f0 ≤ 1099511627776
  f0 : 0 ≤ y.f1
  f1 : y.f1 < 4294967296
  body : y.f2 = bodyT y.f0
/-- Just what of a tick is to be known. -/
structure Kn (KS : Int → Int → Prop) (KI : It → Prop) (t k : Int) : Prop where
  nn : 0 ≤ k
  sp : ∀ j, KS t j → j ≤ k
  it : ∀ y, KI y → y.f0 = t → 1 ≤ k
  why : k = 0 ∨ KS t k ∨ (k = 1 ∧ ∃ y, KI y ∧ y.f0 = t)
theorem Kn.le {KS : Int → Int → Prop} {KI : It → Prop} {t k m : Int} (h : Kn KS KI t k) (h' : Kn KS KI t m) : k ≤ m := by
  rcases h.why with e | e | ⟨rfl, y, e1, e2⟩
  · have := h'.nn; omega
  · exact h'.sp _ e
  · exact h'.it y e1 e2
theorem Kn.uniq {KS : Int → Int → Prop} {KI : It → Prop} {t k m : Int} (h : Kn KS KI t k) (h' : Kn KS KI t m) : k = m := Int.le_antisymm (h.le h') (h'.le h)
/-- A stream that was told of spans (KS) and items (KI). -/
structure SI (KS : Int → Int → Prop) (KI : It → Prop) (K : List Sp) (X : List It) : Prop where
  ks : ∀ t j, KS t j → j ≠ 1
  right : rightB 0 0 K = true
  know : ∀ t, 1 ≤ t → t ≤ 1099511627776 → Kn KS KI t (atS K t)
  apart : X.Pairwise (fun x y => x.f0 ≠ y.f0)
  mem : ∀ t, (∃ x ∈ X, x.f0 = t) ↔ atS K t = 1
  num : ∀ x ∈ X, 0 ≤ x.f1 ∧ x.f1 < 4294967296
  for_ : ∀ x ∈ X, ∀ i, x.f1.toNat.testBit i = true ↔ ∃ y, KI y ∧ y.f0 = x.f0 ∧ y.f1.toNat.testBit i = true
  body : ∀ x ∈ X, x.f2 = bodyT x.f0
theorem SI.congr {KS KS' : Int → Int → Prop} {KI KI' : It → Prop} {K : List Sp} {X : List It} (h : SI KS KI K X) (e1 : ∀ t j, KS t j ↔ KS' t j) (e2 : ∀ y, KI y ↔ KI' y) : SI KS' KI' K X := by
  have a : KS = KS' := by funext t j; exact propext (e1 t j)
  have b : KI = KI' := by funext y; exact propext (e2 y)
  rw [← a, ← b]; exact h
theorem SI.nil : SI (fun _ _ => False) (fun _ => False) [] [] :=
  ⟨fun _ _ h => h.elim, rfl, fun t _ _ => ⟨by simp [atS], fun _ h => h.elim, fun _ h => h.elim, .inl rfl⟩, List.Pairwise.nil, fun t => by simp [atS], fun _ h => absurd h (by simp), fun _ h => absurd h (by simp), fun _ h => absurd h (by simp)⟩
theorem at_join {a b r : List Sp} (ha : rightB 0 0 a = true) (hb : rightB 0 0 b = true) (h : Zips (fun t => mx (atS a t) (atS b t)) r) (t : Int) : atS r t = mx (atS a t) (atS b t) := by
  by_cases c1 : t < 1
  · rw [at_le h.1 (by omega), at_le ha (by omega), at_le hb (by omega)]; rfl
  · by_cases c2 : t ≤ 1099511627776
    · exact h.2 t (by omega) c2
    · rw [at_top h.1 (by omega), at_top ha (by omega), at_top hb (by omega)]; rfl
theorem at_in {K : List Sp} {t : Int} (h : rightB 0 0 K = true) (hk : atS K t ≠ 0) : 1 ≤ t ∧ t ≤ 1099511627776 := by
  refine ⟨?_, ?_⟩
  · by_cases c : 1 ≤ t
    · exact c
    · exact absurd (at_le h (by omega)) hk
  · by_cases c : t ≤ 1099511627776
    · exact c
    · exact absurd (at_top h (by omega)) hk
variable {KS : Int → Int → Prop} {KI : It → Prop} {K K1 l : List Sp} {X : List It} in
/-- Spans are learnt. -/
theorem SI.spans (h : SI KS KI K X) (hl : rightB 0 0 l = true) (hd : ∀ t, atS l t ≠ 1) (hz : Zips (fun t => mx (atS K t) (atS l t)) K1) :
    SI (fun t j => KS t j ∨ (atS l t = j ∧ j ≠ 0)) KI K1 (X.filter (fun x => atS K1 x.f0 == 1)) := by
  have ha := at_join h.right hl hz
  have hr := fun t => at_range (l := l) t hl
  have hr2 := fun t => at_range (l := K) t h.right
  refine ⟨fun t j hj => ?_, hz.1, fun t t1 t2 => ?_, h.apart.filter _, fun t => ?_, fun x hx => h.num x (List.mem_filter.1 hx).1, fun x hx => h.for_ x (List.mem_filter.1 hx).1, fun x hx => h.body x (List.mem_filter.1 hx).1⟩
  · rcases hj with hj | ⟨rfl, _⟩
    · exact h.ks t j hj
    · exact hd t
  · have hk := h.know t t1 t2
    have h1 := hr t
    have h2 := hk.nn
    rw [ha t]
    refine ⟨by unfold mx; split <;> omega, fun j hj => ?_, fun y hy e => ?_, ?_⟩
    · rcases hj with hj | ⟨rfl, _⟩
      · have := hk.sp j hj; unfold mx; split <;> omega
      · unfold mx; split <;> omega
    · have := hk.it y hy e; unfold mx; split <;> omega
    · unfold mx
      split
      · exact .inr (.inl (.inr ⟨rfl, by omega⟩))
      · rcases hk.why with e | e | e
        · exact .inl e
        · exact .inr (.inl (.inl e))
        · exact .inr (.inr e)
  · constructor
    · rintro ⟨x, hx, rfl⟩
      simpa using (List.mem_filter.1 hx).2
    · intro h1
      have h2 := ha t
      have h3 := hd t
      have h4 := hr t
      have h5 := hr2 t
      have h6 : atS K t = 1 := by unfold mx at h2; split at h2 <;> omega
      obtain ⟨x, hx, e⟩ := (h.mem t).2 h6
      exact ⟨x, List.mem_filter.2 ⟨hx, by simp [e, h1]⟩, e⟩
theorem mem_putI {x y : It} {X : List It} : y ∈ putI x X ↔ y = x ∨ (y ∈ X ∧ y.f0 ≠ x.f0) := by
  unfold putI
  rw [List.mem_cons, List.mem_filter]
  simp
theorem putI_apart {x : It} {X : List It} (h : X.Pairwise (fun x y => x.f0 ≠ y.f0)) : (putI x X).Pairwise (fun x y => x.f0 ≠ y.f0) := by
  unfold putI
  refine List.pairwise_cons.2 ⟨fun y hy e => ?_, h.filter _⟩
  have := (List.mem_filter.1 hy).2
  simp [e] at this
variable {KS : Int → Int → Prop} {KI : It → Prop} {K K1 l : List Sp} {X : List It} {y : It} in
/-- A new item. -/
theorem SI.new (h : SI KS KI K X) (hy : ItOK y) (h0 : atS K y.f0 = 0) (hz : Zips (fun t => mx (atS K t) (atS [⟨y.f0, y.f0, 1⟩] t)) K1) :
    SI KS (fun z => KI z ∨ z = y) K1 (putI y X) := by
  have ho : rightB 0 0 [(⟨y.f0, y.f0, 1⟩ : Sp)] = true := by
    rw [rightB_cons]
    have h1 := hy.lo
    have h2 := hy.hi
    exact ⟨⟨⟨by simp, by simp, h1, Int.le_refl _, h2⟩, by simp only; omega, fun e => by have := e.2; simp at this⟩, rfl⟩
  have ha := at_join h.right ho hz
  have h1 : ∀ t, atS [(⟨y.f0, y.f0, 1⟩ : Sp)] t = if t = y.f0 then 1 else 0 := fun t => by
    rw [at_one]
    by_cases e : t = y.f0
    · rw [if_pos e, if_pos (by simp only; omega)]
    · rw [if_neg e, if_neg (by simp only; omega)]
  have hr2 := fun t => at_range (l := K) t h.right
  have hs : atS K1 y.f0 = 1 := by rw [ha, h1, if_pos rfl, h0]; rfl
  have hn : ∀ t, t ≠ y.f0 → atS K1 t = atS K t := fun t e => by rw [ha, h1, if_neg e]; have := hr2 t; unfold mx; split <;> omega
  have hno : ∀ z, KI z → z.f0 ≠ y.f0 := fun z hz e => by
    have := (h.know y.f0 hy.lo hy.hi).it z hz e
    omega
  refine ⟨h.ks, hz.1, fun t t1 t2 => ?_, putI_apart h.apart, fun t => ?_, fun x hx => ?_, fun x hx i => ?_, fun x hx => ?_⟩
  · by_cases e : t = y.f0
    · subst e
      rw [hs]
      have hk := h.know y.f0 t1 t2
      exact ⟨by omega, fun j hj => by have := hk.sp j hj; omega, fun _ _ _ => Int.le_refl _, .inr (.inr ⟨rfl, y, .inr rfl, rfl⟩)⟩
    · rw [hn t e]
      have hk := h.know t t1 t2
      refine ⟨hk.nn, hk.sp, fun z hz ez => ?_, ?_⟩
      · rcases hz with hz | rfl
        · exact hk.it z hz ez
        · exact absurd ez.symm e
      · rcases hk.why with e1 | e1 | ⟨e1, z, z1, z2⟩
        · exact .inl e1
        · exact .inr (.inl e1)
        · exact .inr (.inr ⟨e1, z, .inl z1, z2⟩)
  · constructor
    · rintro ⟨x, hx, rfl⟩
      rcases mem_putI.1 hx with rfl | ⟨hx, e⟩
      · exact hs
      · rw [hn _ e]; exact (h.mem _).1 ⟨x, hx, rfl⟩
    · intro e1
      by_cases e : t = y.f0
      · exact ⟨y, mem_putI.2 (.inl rfl), e.symm⟩
      · rw [hn t e] at e1
        obtain ⟨x, hx, ex⟩ := (h.mem t).2 e1
        exact ⟨x, mem_putI.2 (.inr ⟨hx, by rw [ex]; exact e⟩), ex⟩
  · rcases mem_putI.1 hx with rfl | ⟨hx, e⟩
    · exact ⟨hy.f0, hy.f1⟩
    · exact h.num x hx
  · rcases mem_putI.1 hx with rfl | ⟨hx, e⟩
    · exact ⟨fun hb => ⟨x, .inr rfl, rfl, hb⟩, fun ⟨z, hz, e1, e2⟩ => by
        rcases hz with hz | rfl
        · exact absurd e1 (hno z hz)
        · exact e2⟩
    · rw [h.for_ x hx i]
      exact ⟨fun ⟨z, z1, z2, z3⟩ => ⟨z, .inl z1, z2, z3⟩, fun ⟨z, z1, z2, z3⟩ => by
        rcases z1 with z1 | rfl
        · exact ⟨z, z1, z2, z3⟩
        · exact absurd z2.symm e⟩
  · rcases mem_putI.1 hx with rfl | ⟨hx, e⟩
    · exact hy.body
    · exact h.body x hx
theorem apart_one : ∀ {X : List It}, X.Pairwise (fun x y => x.f0 ≠ y.f0) → ∀ {a b : It}, a ∈ X → b ∈ X → a.f0 = b.f0 → a = b := fun h _ _ ha hb e => apart_inj h ha hb e
theorem getI_of {X : List It} (hp : X.Pairwise (fun x y => x.f0 ≠ y.f0)) {x : It} (hx : x ∈ X) : getI X x.f0 = some x := by
  unfold getI
  cases hf : X.find? (fun z => z.f0 == x.f0) with
  | none => have := List.find?_eq_none.1 hf x hx; simp at this
  | some z =>
    have h1 := List.mem_of_find?_eq_some hf
    have h2 := List.find?_some hf
    rw [apart_one hp h1 hx (by simpa using h2)]
theorem or_u32 {a b : Int} (h1 : 0 ≤ a) (h2 : a < 4294967296) (h3 : 0 ≤ b) (h4 : b < 4294967296) : orI a b = ((a.toNat ||| b.toNat : Nat) : Int) ∧ orI a b < 4294967296 := by
  have e : orI a b = ((a.toNat ||| b.toNat : Nat) : Int) := u32_or a b h1 h2 h3 h4
  refine ⟨e, ?_⟩
  rw [e]
  have := Nat.or_lt_two_pow (n := 32) (x := a.toNat) (y := b.toNat) (by omega) (by omega)
  omega
variable {KS : Int → Int → Prop} {KI : It → Prop} {K K1 l : List Sp} {X : List It} {y z : It} in
/-- An item of a tick that has one. -/
theorem SI.known (h : SI KS KI K X) (hy : ItOK y) (h1 : atS K y.f0 = 1) (hz : z ∈ X) (hzt : z.f0 = y.f0) :
    SI KS (fun z => KI z ∨ z = y) K (putI ⟨y.f0, orI z.f1 y.f1, z.f2⟩ X) := by
  obtain ⟨n1, n2⟩ := h.num z hz
  obtain ⟨o1, o2⟩ := or_u32 n1 n2 hy.f0 hy.f1
  refine ⟨h.ks, h.right, fun t t1 t2 => ?_, putI_apart h.apart, fun t => ?_, fun x hx => ?_, fun x hx i => ?_, fun x hx => ?_⟩
  · have hk := h.know t t1 t2
    refine ⟨hk.nn, hk.sp, fun z hz ez => ?_, ?_⟩
    · rcases hz with hz | rfl
      · exact hk.it z hz ez
      · subst ez; omega
    · rcases hk.why with e1 | e1 | ⟨e1, z, z1, z2⟩
      · exact .inl e1
      · exact .inr (.inl e1)
      · exact .inr (.inr ⟨e1, z, .inl z1, z2⟩)
  · constructor
    · rintro ⟨x, hx, rfl⟩
      rcases mem_putI.1 hx with rfl | ⟨hx, e⟩
      · exact h1
      · exact (h.mem _).1 ⟨x, hx, rfl⟩
    · intro e1
      by_cases e : t = y.f0
      · exact ⟨_, mem_putI.2 (.inl rfl), e.symm⟩
      · obtain ⟨x, hx, ex⟩ := (h.mem t).2 e1
        exact ⟨x, mem_putI.2 (.inr ⟨hx, by simp only; rw [ex]; exact e⟩), ex⟩
  · rcases mem_putI.1 hx with rfl | ⟨hx, e⟩
    · exact ⟨by simp only; omega, o2⟩
    · exact h.num x hx
  · rcases mem_putI.1 hx with rfl | ⟨hx, e⟩
    · simp only
      rw [o1, Int.toNat_natCast, Nat.testBit_or, Bool.or_eq_true, h.for_ z hz i, hzt]
      constructor
      · rintro (⟨u, u1, u2, u3⟩ | hb)
        · exact ⟨u, .inl u1, u2, u3⟩
        · exact ⟨y, .inr rfl, rfl, hb⟩
      · rintro ⟨u, u1 | rfl, u2, u3⟩
        · exact .inl ⟨u, u1, u2, u3⟩
        · exact .inr u3
    · rw [h.for_ x hx i]
      exact ⟨fun ⟨z, z1, z2, z3⟩ => ⟨z, .inl z1, z2, z3⟩, fun ⟨z, z1, z2, z3⟩ => by
        rcases z1 with z1 | rfl
        · exact ⟨z, z1, z2, z3⟩
        · exact absurd z2.symm e⟩
  · rcases mem_putI.1 hx with rfl | ⟨hx, e⟩
    · simp only; rw [h.body z hz, hzt]
    · exact h.body x hx
variable {KS : Int → Int → Prop} {KI : It → Prop} {K K1 l : List Sp} {X : List It} {y z : It} in
/-- An item of a tick that has none for good. -/
theorem SI.skip (h : SI KS KI K X) (h1 : 2 ≤ atS K y.f0) : SI KS (fun z => KI z ∨ z = y) K X := by
  refine ⟨h.ks, h.right, fun t t1 t2 => ?_, h.apart, h.mem, h.num, fun x hx i => ?_, h.body⟩
  · have hk := h.know t t1 t2
    refine ⟨hk.nn, hk.sp, fun z hz ez => ?_, ?_⟩
    · rcases hz with hz | rfl
      · exact hk.it z hz ez
      · subst ez; omega
    · rcases hk.why with e1 | e1 | ⟨e1, z, z1, z2⟩
      · exact .inl e1
      · exact .inr (.inl e1)
      · exact .inr (.inr ⟨e1, z, .inl z1, z2⟩)
  · rw [h.for_ x hx i]
    have h2 := (h.mem x.f0).1 ⟨x, hx, rfl⟩
    exact ⟨fun ⟨z, z1, z2, z3⟩ => ⟨z, .inl z1, z2, z3⟩, fun ⟨z, z1, z2, z3⟩ => by
      rcases z1 with z1 | rfl
      · exact ⟨z, z1, z2, z3⟩
      · rw [z2] at h1; omega⟩
/-- Ticks that are apart are no more than those among which they are. -/
theorem len_among : ∀ (X M : List It), X.Pairwise (fun x y => x.f0 ≠ y.f0) → (∀ x ∈ X, ∃ y ∈ M, y.f0 = x.f0) → X.length ≤ M.length
  | [], _, _, _ => Nat.zero_le _
  | x :: X, M, hp, h => by
    obtain ⟨h1, h2⟩ := List.pairwise_cons.1 hp
    obtain ⟨y, hy, e⟩ := h x List.mem_cons_self
    have ih := len_among X (M.filter (fun z => !(z.f0 == x.f0))) h2 (fun x' hx' => by
      obtain ⟨y', hy', e'⟩ := h x' (List.mem_cons_of_mem _ hx')
      exact ⟨y', List.mem_filter.2 ⟨hy', by have := h1 x' hx'; simp; omega⟩, e'⟩)
    have hl : (M.filter (fun z => !(z.f0 == x.f0))).length < M.length := List.length_filter_lt_length_iff_exists.2 ⟨y, hy, by simp [e]⟩
    rw [List.length_cons]; omega
theorem SI.bound {KS : Int → Int → Prop} {KI : It → Prop} {K : List Sp} {X M : List It} (h : SI KS KI K X) (hM : ∀ y, KI y → y ∈ M) : X.length ≤ M.length := by
  refine len_among X M h.apart (fun x hx => ?_)
  have h1 := (h.mem x.f0).1 ⟨x, hx, rfl⟩
  obtain ⟨t1, t2⟩ := at_in h.right (t := x.f0) (by omega)
  rcases (h.know x.f0 t1 t2).why with e | e | ⟨_, y, y1, y2⟩
  · omega
  · exact absurd h1 (h.ks _ _ e)
  · exact ⟨y, hM y y1, y2⟩
theorem SI.same {KS : Int → Int → Prop} {KI : It → Prop} {K K' : List Sp} {X X' : List It} (h : SI KS KI K X) (h' : SI KS KI K' X') : K = K' ∧ X.length = X'.length ∧ ∀ x ∈ X, getI X' x.f0 = some x := by
  have e : K = K' := canon h.right h'.right (fun t t1 t2 => (h.know t (by omega) t2).uniq (h'.know t (by omega) t2))
  subst e
  have sub : ∀ {X X' : List It}, SI KS KI K X → SI KS KI K X' → ∀ x ∈ X, ∃ y ∈ X', y.f0 = x.f0 := fun h h' x hx => (h'.mem x.f0).2 ((h.mem x.f0).1 ⟨x, hx, rfl⟩)
  refine ⟨rfl, Nat.le_antisymm (len_among _ _ h.apart (sub h h')) (len_among _ _ h'.apart (sub h' h)), fun x hx => ?_⟩
  obtain ⟨y, hy, e⟩ := sub h h' x hx
  have e1 : y.f1 = x.f1 := by
    have b1 := h.num x hx
    have b2 := h'.num y hy
    have : y.f1.toNat = x.f1.toNat := Nat.eq_of_testBit_eq (fun i => by
      rw [Bool.eq_iff_iff, h.for_ x hx i, h'.for_ y hy i, e])
    omega
  have e2 : y.f2 = x.f2 := by rw [h'.body y hy, h.body x hx, e]
  have e3 : y = x := by
    cases x; cases y
    simp only at e e1 e2
    subst e; subst e1; subst e2; rfl
  subst e3
  exact getI_of h'.apart hy
end Go.Proofs.Ytffefaiaifhokaa.PT
