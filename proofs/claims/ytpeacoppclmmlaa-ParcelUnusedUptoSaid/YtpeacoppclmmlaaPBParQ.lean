/-
  PLAIN LAW: parcel.Put and the reference's Put: a parcel's bytes.
-/
import Derived.Test.YtpeacoppclmmlaaPBParC
import Derived.Test.YtpeacoppclmmlaaPBParP
import Derived.Test.YtpeacoppclmmlaaPBPPx6
import Derived.Test.YtpeacoppclmmlaaPBPPx10
import Derived.Test.YtpeacoppclmmlaaPBPPx11
set_option linter.unusedSimpArgs false
set_option linter.unusedVariables false
namespace Go.Proofs.Ytpeacoppclmmlaa.PP
open Go.RowKit Go.Proofs.YtpeacoppclmmlaaW.PrintWords Go.Proofs.YtpeacoppclmmlaaW.PrintMore
open Oct (uint uintN)

/-- A number's bytes, as it stands in 64 bits. -/
def numB (n : Int) : List Int := uint (n % 18446744073709551616)
theorem numB_length (n : Int) : (numB n).length ≤ 10 := (uint_length _).1
def itemB (x : It) : List Int := numB x.f0 ++ numB (wrap64 x.f1) ++ numB (x.f2.length : Int) ++ x.f2
def itemsB : List It → List Int
  | [] => []
  | x :: l => itemB x ++ itemsB l
def tailB (kd : Int) (sp : List Sp) (it : List It) : List Int := if kd = 1 then (putR sp).1 ++ numB (it.length : Int) ++ itemsB it else []
def putB (kd pub sub n fr to_ : Int) (sp : List Sp) (it : List It) : List Int :=
  [kd % 256] ++ numB pub ++ (if 3 ≤ kd ∧ kd ≤ 6 then numB sub ++ numB n else []) ++ (if kd = 1 ∨ kd = 2 ∨ kd = 3 ∨ kd = 5 then numB fr else []) ++ (if kd = 1 ∨ kd = 2 then numB to_ else []) ++ tailB kd sp it
def putP (kd pub sub n fr to_ : Int) (sp : List Sp) (it : List It) : List Int × Int :=
  if chk kd pub sub n fr to_ sp it = 0 then (putB kd pub sub n fr to_ sp it, 0) else ([], chk kd pub sub n fr to_ sp it)
theorem Num_ev (out : List Int) (n : Int) (h : out.length < 140737488355000) : Ev (fun k => parcel_Put.num k out n) (out ++ numB n) := by
  unfold parcel_Put.num
  refine Ev.bind (Oct.Uint_ev _ (by omega) (by omega)).1 ?_
  have := numB_length n
  unfold numB at this
  exact Ev.congr (fun k => if_pos (by omega)) (Ev.now _)
/-! ### the items -/
def small (it : List It) : Prop := ∀ x ∈ it, x.f2.length ≤ 400
theorem Items2_ev : ∀ (it : List It) (out : List Int), small it → out.length + 430 * it.length < 140737488354000 → Ev (fun k => parcel_Put.items k out it) (out ++ itemsB it)
  | [], out, _, _ => by
    simp only [parcel_Put.items, itemsB, List.append_nil]
    exact Ev.now _
  | x :: l, out, hs, ho => by
    have hx : x.f2.length ≤ 400 := hs x (List.mem_cons_self ..)
    have h1 := numB_length x.f0
    have h2 := numB_length (wrap64 x.f1)
    have h3 := numB_length (x.f2.length : Int)
    rw [List.length_cons] at ho
    simp only [parcel_Put.items]
    refine Ev.bind (Num_ev _ _ (by omega)) (Ev.bind (Num_ev _ _ (by rw [List.length_append]; omega)) (Ev.bind (Num_ev _ _ (by rw [List.length_append, List.length_append]; omega)) ?_))
    have e : out ++ itemsB (x :: l) = (out ++ numB x.f0 ++ numB (wrap64 x.f1) ++ numB (x.f2.length : Int) ++ x.f2) ++ itemsB l := by simp [itemsB, itemB]
    rw [e]
    refine Ev.congr (fun k => if_pos (by simp only [List.length_append]; omega)) (Items2_ev l _ (fun y hy => hs y (List.mem_cons_of_mem _ hy)) (by simp only [List.length_append]; omega))
/-! ### what Check says -/
theorem itemsE_small {sp : List Sp} {to_ : Int} : ∀ {it : List It} {a : Int}, itemsE sp to_ a it = 0 → small it
  | [], _, _ => fun _ h => by cases h
  | x :: l, a, h => by
    simp only [itemsE] at h
    by_cases h1 : x.f0 ≤ a ∨ x.f0 > to_ ∨ atS sp x.f0 ≠ 0
    · rw [if_pos h1] at h; exact absurd h (by decide)
    rw [if_neg h1] at h
    by_cases h2 : (x.f2.length : Int) > 400
    · rw [if_pos h2] at h; exact absurd h (by decide)
    rw [if_neg h2] at h
    intro y hy
    rcases List.mem_cons.1 hy with rfl | hy
    · omega
    · exact itemsE_small h y hy
theorem chk_zero {kd pub sub n fr to_ : Int} {sp : List Sp} {it : List It} (h : chk kd pub sub n fr to_ sp it = 0) : 1 ≤ kd ∧ kd ≤ 6 ∧ numsOK kd pub sub n fr to_ ∧ (kd = 1 → sp.length ≤ 32 ∧ it.length ≤ 8 ∧ rightB 0 0 sp = true ∧ (∀ s ∈ sp, spanOK fr to_ s) ∧ itemsE sp to_ (fr - 1) it = 0) := by
  unfold chk at h
  by_cases h1 : kd < 1 ∨ kd > 6
  · rw [if_pos h1] at h; exact absurd h (by decide)
  rw [if_neg h1] at h
  by_cases h2 : ¬ numsOK kd pub sub n fr to_
  · rw [if_pos h2] at h; exact absurd h (by decide)
  rw [if_neg h2] at h
  refine ⟨by omega, by omega, Classical.byContradiction h2, fun hk => ?_⟩
  rw [if_neg (by omega)] at h
  by_cases h3 : (sp.length : Int) > 32 ∨ (it.length : Int) > 8
  · rw [if_pos h3] at h; exact absurd h (by decide)
  rw [if_neg h3] at h
  by_cases h4 : ¬ (rightB 0 0 sp = true)
  · rw [if_pos h4] at h; exact absurd h (by decide)
  rw [if_neg h4] at h
  by_cases h5 : ¬ (∀ s ∈ sp, spanOK fr to_ s)
  · rw [if_pos h5] at h; exact absurd h (by decide)
  rw [if_neg h5] at h
  exact ⟨by omega, by omega, Classical.byContradiction h4, Classical.byContradiction h5, h⟩
theorem putR_length {sp : List Sp} (h : sp.length ≤ 32) : (putR sp).1.length ≤ 700 := by
  unfold putR
  split
  · split
    · simp
    · have := (uint_length (sp.length : Int)).1
      have := putL_length sp 0
      simp only [List.length_append]
      omega
  · simp
/-! ### Put -/
theorem Tail_ev {kd pub sub n fr to_ : Int} {sp : List Sp} {it : List It} (h : chk kd pub sub n fr to_ sp it = 0) (o : List Int) (ho : o.length ≤ 100) :
    Ev (fun k => if kd = 1 then (span_Put.f k sp).bind fun s => if o.length + s.1.length < 140737488355328 then (parcel_Put.num k (o ++ s.1) (it.length : Int)).bind fun o2 => (parcel_Put.items k o2 it).bind fun o3 => some (o3, (0 : Int)) else none else some (o, 0)) (o ++ tailB kd sp it, 0) := by
  unfold tailB
  by_cases hk : kd = 1
  · obtain ⟨h1, h2, h3, h4, h5⟩ := (chk_zero h).2.2.2 hk
    have hp := putR_length h1
    have hn := numB_length (it.length : Int)
    refine Ev.congr (fun k => if_pos hk) ?_
    rw [if_pos hk]
    refine Ev.bind (Put_ev sp (by omega)).1 (Ev.congr (fun k => if_pos (by omega)) ?_)
    have e : o ++ ((putR sp).1 ++ numB (it.length : Int) ++ itemsB it) = (o ++ (putR sp).1 ++ numB (it.length : Int)) ++ itemsB it := by simp
    rw [e]
    exact Ev.bind (Num_ev _ _ (by rw [List.length_append]; omega)) (Ev.bind (Items2_ev it _ (itemsE_small h5) (by simp only [List.length_append]; omega)) (Ev.now _))
  · rw [if_neg hk, List.append_nil]
    exact Ev.congr (fun k => if_neg hk) (Ev.now _)
theorem Nums_ev : ∀ (ns o : List Int), o.length + 10 * ns.length ≤ 100 → Ev (fun k => parcel_Put.nums k o ns) (o ++ ns.flatMap numB)
  | [], o, _ => by
    simp only [parcel_Put.nums, List.flatMap_nil, List.append_nil]
    exact Ev.now _
  | n :: ns, o, h => by
    have := numB_length n
    rw [List.length_cons] at h
    simp only [parcel_Put.nums, List.flatMap_cons]
    rw [← List.append_assoc]
    exact Ev.bind (Num_ev _ _ (by omega)) (Nums_ev ns _ (by rw [List.length_append]; omega))
theorem PPut_ev (kd pub sub n fr to_ : Int) (sp : List Sp) (it : List It) : Ev (fun k => parcel_Put.f k kd pub sub n fr to_ sp it) (putP kd pub sub n fr to_ sp it) := by
  unfold putP parcel_Put.f
  refine Ev.bind (Check_ev kd pub sub n fr to_ sp it) ?_
  by_cases h : chk kd pub sub n fr to_ sp it = 0
  case neg =>
    rw [if_neg h]
    exact Ev.congr (fun k => if_neg h) (Ev.now _)
  rw [if_pos h]
  obtain ⟨h1, h2, h3, h4⟩ := chk_zero h
  refine Ev.congr (fun k => (if_pos h).trans (if_pos ⟨h1, h2⟩)) ?_
  have e : putB kd pub sub n fr to_ sp it = ([kd % 256] ++ ((flds kd).map (fld6 kd pub sub n fr to_)).flatMap numB) ++ tailB kd sp it := by
    unfold putB
    congr 1
    rcases (show kd = 1 ∨ kd = 2 ∨ kd = 3 ∨ kd = 4 ∨ kd = 5 ∨ kd = 6 by omega) with rfl | rfl | rfl | rfl | rfl | rfl <;> simp [flds, fld6]
  rw [e]
  have hl : (flds kd).length ≤ 4 := flds_len kd
  refine Ev.bind (Nums_ev _ _ (by rw [List.length_map, List.length_singleton]; omega)) (Tail_ev h _ ?_)
  have : ∀ l : List Int, (l.flatMap numB).length ≤ 10 * l.length := fun l => by
    induction l with
    | nil => simp
    | cons x l ih => have := numB_length x; simp only [List.flatMap_cons, List.length_append, List.length_cons]; omega
  have := this ((flds kd).map (fld6 kd pub sub n fr to_))
  rw [List.length_map] at this
  rw [List.length_append, List.length_singleton]
  omega
end Go.Proofs.Ytpeacoppclmmlaa.PP
