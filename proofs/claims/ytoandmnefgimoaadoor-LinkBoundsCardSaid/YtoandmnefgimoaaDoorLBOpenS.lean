/-
  HOW AN ARGUMENT THAT CAN BE READ AS DATA READS AS A VALUE OF A KIND (the print's kinds), whatever its type: whole numbers, bools, slices, structs, nested; with its numbers in range, its bulk, and its slices no longer than the row's condition (reachBytes) allows.
-/
import Derived.Test.YtoandmnefgimoaaDoorRows
import Derived.Test.YtoandmnefgimoaaDoorLBWAll
import Derived.Deep.Slices
import Derived.ChangeArms
import Derived.Deep.Fields
import Derived.OpenShut
import Derived.WideShapes
namespace Go.Proofs.YtoandmnefgimoaaDoor.Open
open Go.RowKit Go.Proofs.YtoandmnefgimoaaDoorW.PrintWords Go.Deep
def Opens {α : Type} (P : Program) (t : TypeId) (d : Kd α) (G : α → Prop) (μ : α → Nat) : Prop :=
  ∀ ⦃H : Type⦄ ⦃enc : TypeId × Value → H⦄ ⦃w : World⦄ ⦃base : Nat⦄ ⦃spare : Nat → Bool⦄ ⦃held : Bool⦄ ⦃fuel : Nat⦄ ⦃cs : List Value⦄ ⦃x : DataW H × List MemPlace⦄,
    DataW.trod enc P w base spare held fuel t cs = some x → (∀ n ∈ x.1.weights P t, n ≤ reachBytes) → ∃ a : α, d.K w a cs ∧ G a ∧ μ a ≤ Rows.uptoBulk x.1
theorem opens_int {P : Program} {t : TypeId} {k : IntKind} (ht : P.underlying t = some (.int k)) : Opens P t (Kd.int k) (fun n => (Lit.int k n).wf = true) (fun _ => 1) := by
  intro H enc w base spare held fuel cs x h _
  obtain ⟨n, rfl, rfl, hw⟩ := DataW.trod_int ht h
  exact ⟨n, rfl, hw, by simp [Rows.uptoBulk]⟩
def sumOf {α : Type} (μ : α → Nat) : List α → Nat
  | [] => 0
  | a :: l => μ a + sumOf μ l
theorem sumOf_append {α : Type} (μ : α → Nat) (l m : List α) : sumOf μ (l ++ m) = sumOf μ l + sumOf μ m := by
  induction l with
  | nil => simp [sumOf]
  | cons a l ih => simp only [List.cons_append, sumOf, ih]; omega
theorem bulk_append {H : Type} (l r : List (DataW H)) : Rows.uptoBulkAll (l ++ r) = Rows.uptoBulkAll l + Rows.uptoBulkAll r := by
  induction l with
  | nil => simp [Rows.uptoBulkAll]
  | cons x l ih => simp only [List.cons_append, Rows.uptoBulkAll, ih]; omega
theorem list_of {α H : Type} (Q : Nat → α → Prop) (D : Nat → DataW H) (μ : α → Nat) : ∀ n : Nat, (∀ i, i < n → ∃ a, Q i a ∧ μ a ≤ Rows.uptoBulk (D i)) →
    ∃ l : List α, l.length = n ∧ (∀ i a, l[i]? = some a → Q i a) ∧ sumOf μ l ≤ Rows.uptoBulkAll ((List.range n).map D)
  | 0, _ => ⟨[], rfl, fun i a h => by simp at h, by simp [sumOf]⟩
  | n + 1, h => by
    obtain ⟨l, hl, hq, hm⟩ := list_of Q D μ n (fun i hi => h i (by omega))
    obtain ⟨a, ha, hb⟩ := h n (by omega)
    refine ⟨l ++ [a], by simp [hl], fun i b hi => ?_, ?_⟩
    · rcases Nat.lt_or_ge i l.length with h1 | h1
      · rw [List.getElem?_append_left h1] at hi
        exact hq i b hi
      · have h2 : i = l.length := by
          have := (List.getElem?_eq_some_iff.1 hi).1
          simp at this
          omega
        subst h2
        have : b = a := by simpa using hi.symm
        rw [this, hl]
        exact ha
    · rw [List.range_succ, List.map_append, bulk_append, sumOf_append]
      simp only [List.map_cons, List.map_nil, sumOf, Rows.uptoBulkAll]
      omega
theorem weightsAll_mem {H : Type} {P : Program} {e : TypeId} : ∀ {l : List (DataW H)} {d : DataW H}, d ∈ l → ∀ n ∈ d.weights P e, n ∈ DataW.weightsAll P e l
  | x :: l, d, h, n, hn => by
    simp only [DataW.weightsAll, List.mem_append]
    rcases List.mem_cons.1 h with rfl | h
    · exact Or.inl hn
    · exact Or.inr (weightsAll_mem h n hn)
theorem opens_slice {α : Type} {P : Program} {t e : TypeId} {d : Kd α} {G : α → Prop} {μ : α → Nat} {B : Nat} (ht : P.underlying t = some (.slice e)) (hc : P.cellsOf e = d.sz) (hB : P.bytesOf e = B) (he : Opens P e d G μ) :
    Opens P t (Kd.slice e d) (fun l => (l.length ≤ maxLen ∧ l.length * B ≤ 140737488351232) ∧ ∀ a ∈ l, G a) (fun l => sumOf μ l + 1) := by
  intro H enc w base spare held fuel cs x h hw
  rcases open_slice ht h with ⟨rfl, rfl⟩ | ⟨a, len, cap, m, n, D, Pl, rfl, hb, hl, hm, hmm, rfl, hi⟩
  · exact ⟨[], ⟨none, 0, rfl, by simp, by simp, by simp, fun h => by simp at h⟩, ⟨⟨by simp, by simp⟩, by simp⟩, by simp [Rows.uptoBulk, sumOf]⟩
  · have hlm : len ≤ m := by rw [hmm]; split <;> omega
    obtain ⟨l, h1, h2, h3⟩ := list_of (fun i b => (∃ c : List Value, c.length = d.sz ∧ d.K w b c ∧ ∀ j u, c[j]? = some u → w.cell? (a.add (i * d.sz + j)) = some u) ∧ G b) D μ len (fun i hlt => by
      obtain ⟨cs', hcs, htr⟩ := hi i (by omega)
      obtain ⟨b, hk, hg, hmu⟩ := he htr (fun q hq => hw q (by
        simp only [DataW.weights, ht, List.mem_cons, List.mem_append]
        exact Or.inr (Or.inl (weightsAll_mem (List.mem_map.2 ⟨i, List.mem_range.2 hlt, rfl⟩) q hq))))
      obtain ⟨_, hcl, hat⟩ := World.cells?_some hcs
      refine ⟨b, ⟨⟨cs', by rw [hcl, hc], hk, fun j u hj => ?_⟩, hg⟩, hmu⟩
      have hjl : j < P.cellsOf e := by
        have := (List.getElem?_eq_some_iff.1 hj).1
        rw [hcl] at this
        exact this
      rw [← hc, ← Go.Deep.add_add, hat j hjl, hj])
    subst h1
    refine ⟨l, ⟨some a, cap, rfl, hl, rfl, by simp only [maxLen] at hm; omega, fun _ => ⟨a, rfl, fun j p hp => (h2 j p hp).1⟩⟩, ⟨⟨by omega, ?_⟩, fun b hb2 => ?_⟩, ?_⟩
    · have h4 := hw _ (by
        simp only [DataW.weights, ht]
        exact List.mem_cons_self ..)
      rw [hB, List.length_map, List.length_range] at h4
      exact Nat.le_trans (Nat.mul_le_mul_right B (Nat.le_add_right _ _)) h4
    · obtain ⟨j, hj⟩ := List.getElem?_of_mem hb2
      exact (h2 j b hj).2
    · show sumOf μ l + 1 ≤ Rows.uptoBulkAll _ + Rows.uptoBulkAll _ + 1
      omega
def OpensF {α : Type} (P : Program) (fs : List Field) (off : Nat) (d : Kd α) (G : α → Prop) (μ : α → Nat) : Prop :=
  ∀ ⦃H : Type⦄ ⦃enc : TypeId × Value → H⦄ ⦃w : World⦄ ⦃base : Nat⦄ ⦃spare : Nat → Bool⦄ ⦃held : Bool⦄ ⦃fuel : Nat⦄ ⦃cs : List Value⦄ ⦃xs : List (DataW H × List MemPlace)⦄,
    xs.length = fs.length → cs.length = off + d.sz → (∀ (i : Nat) (f : Field), fs[i]? = some f → DataW.trod enc P w base spare held fuel f.type ((cs.drop f.offset).take (P.cellsOf f.type)) = xs[i]?) →
    (∀ n ∈ DataW.weightsEach P (fs.map (·.type)) (xs.map (·.1)), n ≤ reachBytes) → ∃ a : α, d.K w a (cs.drop off) ∧ G a ∧ μ a ≤ Rows.uptoBulkAll (xs.map (·.1))
theorem opensF_one {α : Type} {P : Program} {f : Field} {off : Nat} {d : Kd α} {G : α → Prop} {μ : α → Nat} (ho : f.offset = off) (hc : P.cellsOf f.type = d.sz) (he : Opens P f.type d G μ) : OpensF P [f] off d G μ := by
  intro H enc w base spare held fuel cs xs hx hl h hw
  match xs, hx with
  | [x], _ =>
    have h0 := h 0 f rfl
    rw [ho, hc] at h0
    obtain ⟨a, hk, hg, hm⟩ := he h0 (fun n hn => hw n (by simp only [List.map_cons, List.map_nil, DataW.weightsEach, List.mem_append]; exact Or.inl hn))
    rw [List.take_of_length_le (by rw [List.length_drop]; omega)] at hk
    exact ⟨a, hk, hg, by simpa [Rows.uptoBulkAll] using hm⟩
theorem opensF_cons {α β : Type} {P : Program} {f : Field} {fs : List Field} {off : Nat} {d : Kd α} {d' : Kd β} {G : α → Prop} {G' : β → Prop} {μ : α → Nat} {μ' : β → Nat} (ho : f.offset = off) (hc : P.cellsOf f.type = d.sz) (he : Opens P f.type d G μ)
    (hr : OpensF P fs (off + d.sz) d' G' μ') : OpensF P (f :: fs) off (Kd.pair d d') (fun a => G a.1 ∧ G' a.2) (fun a => μ a.1 + μ' a.2) := by
  intro H enc w base spare held fuel cs xs hx hl h hw
  match xs, hx with
  | x :: xs, hx =>
    have hsz : (Kd.pair d d').sz = d.sz + d'.sz := rfl
    have h0 := h 0 f rfl
    rw [ho, hc] at h0
    obtain ⟨a, hk, hg, hm⟩ := he h0 (fun n hn => hw n (by simp only [List.map_cons, DataW.weightsEach, List.mem_append]; exact Or.inl hn))
    obtain ⟨b, hk', hg', hm'⟩ := hr (cs := cs) (xs := xs) (by simpa using hx) (by omega) (fun i g hi => by have := h (i + 1) g (by simpa using hi); simpa using this) (fun n hn => hw n (by simp only [List.map_cons, DataW.weightsEach, List.mem_append]; exact Or.inr hn))
    refine ⟨(a, b), ⟨(cs.drop off).take d.sz, cs.drop (off + d.sz), ?_, hk, hk'⟩, ⟨hg, hg'⟩, ?_⟩
    · rw [← List.drop_drop, List.take_append_drop]
    · simp only [List.map_cons, Rows.uptoBulkAll]
      omega
theorem opens_struct {α β : Type} {P : Program} {t : TypeId} {fs : Array Field} {d : Kd α} {G : α → Prop} {μ : α → Nat} (ht : P.underlying t = some (.struct fs)) (hc : P.cellsOf t = d.sz) (hf : OpensF P fs.toList 0 d G μ)
    (f : β → α) (g : α → β) (hfg : ∀ a, f (g a) = a) : Opens P t (Kd.iso d f) (fun b => G (f b)) (fun b => μ (f b) + 1) := by
  intro H enc w base spare held fuel cs x h hw
  obtain ⟨xs, n, _, rfl, hl, hxl, hx⟩ := DataW.trod_struct ht h
  obtain ⟨a, hk, hg, hm⟩ := hf (xs := xs) (by simpa using hxl) (by rw [hl, hc]; omega) (fun i fd hi => hx i fd (by simpa using hi)) (fun n hn => hw n (by simpa only [DataW.weights, ht] using hn))
  refine ⟨g a, ?_, by show G (f (g a)); rw [hfg]; exact hg, ?_⟩
  · show d.K w (f (g a)) cs
    rw [hfg]
    exact hk
  · show μ (f (g a)) + 1 ≤ Rows.uptoBulkAll _ + 1
    rw [hfg]
    omega
end Go.Proofs.YtoandmnefgimoaaDoor.Open
