/-
  HOW AN ARGUMENT THAT CAN BE READ AS DATA READS AS A VALUE OF A KIND (the print's kinds), whatever its type: whole numbers, bools, slices, structs, nested; with its numbers in range, and its bulk.
-/
import Derived.Test.YtpeacoppclmmlaaRows
import Derived.Test.YtpeacoppclmmlaaPOWAll
import Derived.Deep.Slices
import Derived.ChangeArms
import Derived.Deep.Fields
import Derived.OpenShut
import Derived.WideShapes
namespace Go.Proofs.Ytpeacoppclmmlaa.Open
open Go.RowKit Go.Proofs.YtpeacoppclmmlaaW.PrintWords Go.Deep

/-- Read as data of type t, cells are a value of the kind d that is G; its measure is at most the datum's bulk. -/
def Opens {α : Type} (P : Program) (t : TypeId) (d : Kd α) (G : α → Prop) (μ : α → Nat) : Prop :=
  ∀ ⦃H : Type⦄ ⦃enc : TypeId × Value → H⦄ ⦃w : World⦄ ⦃base : Nat⦄ ⦃spare : Nat → Bool⦄ ⦃held : Bool⦄ ⦃fuel : Nat⦄ ⦃cs : List Value⦄ ⦃x : DataW H × List MemPlace⦄,
    DataW.trod enc P w base spare held fuel t cs = some x → ∃ a : α, d.K w a cs ∧ G a ∧ μ a ≤ Rows.uptoBulk x.1

theorem opens_int {P : Program} {t : TypeId} {k : IntKind} (ht : P.underlying t = some (.int k)) : Opens P t (Kd.int k) (fun n => (Lit.int k n).wf = true) (fun _ => 1) := by
  intro H enc w base spare held fuel cs x h
  obtain ⟨n, rfl, rfl, hw⟩ := DataW.trod_int ht h
  exact ⟨n, rfl, hw, by simp [Rows.uptoBulk]⟩
def sumOf {α : Type} (μ : α → Nat) : List α → Nat
  | [] => 0
  | a :: l => μ a + sumOf μ l
theorem sumOf_append {α : Type} (μ : α → Nat) (l m : List α) : sumOf μ (l ++ m) = sumOf μ l + sumOf μ m := by
  induction l with
  | nil => simp [sumOf]
  | cons a l ih => simp only [List.cons_append, sumOf, ih]; omega
theorem bulk_append {H : Type} (l r : List (DataW H)) : Rows.uptoBulkAll (l ++ r) = Rows.uptoBulkAll l + Rows.uptoBulkAll r := by
  induction l with
  | nil => simp [Rows.uptoBulkAll]
  | cons x l ih => simp only [List.cons_append, Rows.uptoBulkAll, ih]; omega

/-- one value a place: a list of them -/
theorem list_of {α H : Type} (Q : Nat → α → Prop) (D : Nat → DataW H) (μ : α → Nat) : ∀ n : Nat, (∀ i, i < n → ∃ a, Q i a ∧ μ a ≤ Rows.uptoBulk (D i)) →
    ∃ l : List α, l.length = n ∧ (∀ i a, l[i]? = some a → Q i a) ∧ sumOf μ l ≤ Rows.uptoBulkAll ((List.range n).map D)
  | 0, _ => ⟨[], rfl, fun i a h => by simp at h, by simp [sumOf]⟩
  | n + 1, h => by
    obtain ⟨l, hl, hq, hm⟩ := list_of Q D μ n (fun i hi => h i (by omega))
    obtain ⟨a, ha, hb⟩ := h n (by omega)
    refine ⟨l ++ [a], by simp [hl], fun i b hi => ?_, ?_⟩
    · rcases Nat.lt_or_ge i l.length with h1 | h1
      · rw [List.getElem?_append_left h1] at hi
        exact hq i b hi
      · have h2 : i = l.length := by
          have := (List.getElem?_eq_some_iff.1 hi).1
          simp at this
          omega
        subst h2
        have : b = a := by simpa using hi.symm
        rw [this, hl]
        exact ha
    · rw [List.range_succ, List.map_append, bulk_append, sumOf_append]
      simp only [List.map_cons, List.map_nil, sumOf, Rows.uptoBulkAll]
      omega

theorem opens_slice {α : Type} {P : Program} {t e : TypeId} {d : Kd α} {G : α → Prop} {μ : α → Nat} (ht : P.underlying t = some (.slice e)) (hc : P.cellsOf e = d.sz) (he : Opens P e d G μ) :
    Opens P t (Kd.slice e d) (fun l => l.length ≤ maxLen ∧ ∀ a ∈ l, G a) (fun l => sumOf μ l + 1) := by
  intro H enc w base spare held fuel cs x h
  rcases open_slice ht h with ⟨rfl, rfl⟩ | ⟨a, len, cap, m, n, D, Pl, rfl, hb, hl, hm, hmm, rfl, hi⟩
  · exact ⟨[], ⟨none, 0, rfl, by simp, by simp, by simp, fun h => by simp at h⟩, ⟨by simp, by simp⟩, by simp [Rows.uptoBulk, sumOf]⟩
  · have hlm : len ≤ m := by rw [hmm]; split <;> omega
    obtain ⟨l, h1, h2, h3⟩ := list_of (fun i b => (∃ c : List Value, c.length = d.sz ∧ d.K w b c ∧ ∀ j u, c[j]? = some u → w.cell? (a.add (i * d.sz + j)) = some u) ∧ G b) D μ len (fun i hlt => by
      obtain ⟨cs', hcs, htr⟩ := hi i (by omega)
      obtain ⟨b, hk, hg, hmu⟩ := he htr
      obtain ⟨_, hcl, hat⟩ := World.cells?_some hcs
      refine ⟨b, ⟨⟨cs', by rw [hcl, hc], hk, fun j u hj => ?_⟩, hg⟩, hmu⟩
      have hjl : j < P.cellsOf e := by
        have := (List.getElem?_eq_some_iff.1 hj).1
        rw [hcl] at this
        exact this
      rw [← hc, ← Go.Deep.add_add, hat j hjl, hj])
    subst h1
    refine ⟨l, ⟨some a, cap, rfl, hl, rfl, by simp only [maxLen] at hm; omega, fun _ => ⟨a, rfl, fun j p hp => (h2 j p hp).1⟩⟩, ⟨by omega, fun b hb2 => ?_⟩, ?_⟩
    · obtain ⟨j, hj⟩ := List.getElem?_of_mem hb2
      exact (h2 j b hj).2
    · show sumOf μ l + 1 ≤ Rows.uptoBulkAll _ + Rows.uptoBulkAll _ + 1
      omega

/-! ### structs: field by field, the fields' kinds in line -/
end Go.Proofs.Ytpeacoppclmmlaa.Open
