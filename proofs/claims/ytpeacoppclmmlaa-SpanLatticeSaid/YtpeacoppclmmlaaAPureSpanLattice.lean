/-
  PLAIN LAW: SpanLattice.
-/
import Derived.Test.YtpeacoppclmmlaaASpanE
import Derived.Test.YtpeacoppclmmlaaAPSQSpanLattice
set_option linter.unusedSimpArgs false
set_option linter.unusedVariables false
namespace Go.Proofs.Ytpeacoppclmmlaa.Pure
open Go.RowKit Go.Proofs.YtpeacoppclmmlaaW.PrintWords Go.Proofs.YtpeacoppclmmlaaW.PrintLast Go.Proofs.YtpeacoppclmmlaaW.PrintMore Go.Proofs.Ytpeacoppclmmlaa.Open Go.Proofs.Ytpeacoppclmmlaa.PS
theorem SpanLattice : grapevinelaw08_SpanLattice.PureQ := by
  intro a b c ha hb hc
  have la := len_of ha
  have lb := len_of hb
  have lc := len_of hc
  refine Ev.rounds (g := fun k => grapevinelaw08_SpanLattice.f k a b c) ?_
  have big : Ev (fun k => grapevinelaw08_SpanLattice.j0 k a b c true) true := by
    apply Ev.succ
    simp only [grapevinelaw08_SpanLattice.j0, if_true]
    exact Ev.bind live_ev (Ev.now _)
  refine Ev.bind (Right_ev a la) ?_
  by_cases ra : rightB 0 0 a = true
  case neg => simp only [if_neg ra]; exact big
  simp only [if_pos ra]
  refine Ev.bind (Right_ev b lb) ?_
  by_cases rb : rightB 0 0 b = true
  case neg => simp only [if_neg rb]; exact big
  simp only [if_pos rb]
  refine Ev.bind (Right_ev c lc) ?_
  by_cases rc : rightB 0 0 c = true
  case neg => rw [show (!rightB 0 0 c) = true from by simp [rc]]; exact big
  rw [rc]
  apply Ev.succ
  simp only [grapevinelaw08_SpanLattice.j0, Bool.not_true, if_neg (show ¬ false = true by simp)]
  have open_ : ∀ {x y : List Sp} {r : List Sp × Int}, rightB 0 0 x = true → rightB 0 0 y = true → Joined x y r → r.2 = 0 ∧ Zips (fun t => mx (atS x t) (atS y t)) r.1 := by
    intro x y r hx hy h
    rcases h with ⟨_, _, h3, h4⟩ | ⟨h1, _⟩
    · exact ⟨h3, h4⟩
    · exact absurd ⟨hx, hy⟩ h1
  have lenz : ∀ {F : Int → Int} {r : List Sp}, Zips F r → r.length ≤ 9223372036854775807 := fun h => by have := length_right h.1 (Int.le_refl 0); omega
  obtain ⟨ab, ab1, ab2⟩ := Join_ev a b la lb
  obtain ⟨ab0, abz⟩ := open_ ra rb ab2
  obtain ⟨ba, ba1, ba2⟩ := Join_ev b a lb la
  obtain ⟨ba0, baz⟩ := open_ rb ra ba2
  obtain ⟨l, l1, l2⟩ := Join_ev ab.1 c (lenz abz) lc
  obtain ⟨l0, lz⟩ := open_ abz.1 rc l2
  obtain ⟨bc, bc1, bc2⟩ := Join_ev b c lb lc
  obtain ⟨bc0, bcz⟩ := open_ rb rc bc2
  obtain ⟨r, r1, r2⟩ := Join_ev a bc.1 la (lenz bcz)
  obtain ⟨r0, rz⟩ := open_ ra bcz.1 r2
  obtain ⟨aa, aa1, aa2⟩ := Join_ev a a la la
  obtain ⟨aa0, aaz⟩ := open_ ra ra aa2
  have e1 : ab.1 = ba.1 := zips_eq abz baz (fun t _ _ => by simp only [mx]; omega)
  have e2 : l.1 = r.1 := zips_eq lz rz (fun t t1 t2 => by
    show mx (atS ab.1 t) (atS c t) = mx (atS a t) (atS bc.1 t)
    rw [abz.2 t t1 t2, bcz.2 t t1 t2]; simp only [mx]; omega)
  have e3 : aa.1 = a := zips_eq aaz (zips_self ra) (fun t _ _ => by simp only [mx]; omega)
  refine Ev.bind ab1 (Ev.bind ba1 (Ev.bind l1 (Ev.bind bc1 (Ev.bind r1 (Ev.bind aa1 (Ev.bind live_ev ?_))))))
  simp only [if_true, if_pos r0, if_pos aa0]
  rw [← e1, ← e2, e3]
  refine Ev.bind (Same_self ab.1 (lenz abz)) ?_
  simp only [if_true]
  refine Ev.bind (Same_self l.1 (lenz lz)) ?_
  simp only [if_true]
  exact Ev.bind (Same_self a la) (Ev.now _)
end Go.Proofs.Ytpeacoppclmmlaa.Pure
