import Derived.Test.YtoandmnefgimoaaDoorLPPLx0
import Derived.Test.YtoandmnefgimoaaDoorLPPLx2
namespace Go.Proofs.YtoandmnefgimoaaDoor.PL
open Go.RowKit Go.Proofs.YtoandmnefgimoaaDoorW.PrintWords Go.Proofs.YtoandmnefgimoaaDoorW.PrintLast Go.Proofs.YtoandmnefgimoaaDoorW.PrintMore
set_option linter.unusedVariables false
set_option linter.unusedSimpArgs false
def link_Link_Alive.f : Option Int := some 0
def aliveB (L : LK) (now : Int) : Bool := decide (0 ≤ L.heard) && (decide (now ≤ 64) || decide (now - 64 ≤ L.heard))
set_option maxHeartbeats 4000000 in
theorem alive_calls (g : Nat) (L : LK) (ok : Nat → Prop) (now : Int) (w : World) (hL : LKat w ok g L) (h0 : -4611686018427387904 ≤ now) (h1 : now ≤ 4611686018427387904) :
 Calls Tryd.prog 18 #[.pointer (some ⟨g, 0, none⟩), .int .i64 now] w fun e w' => e = .returned (.bool (aliveB L now)) ∧ w = w' := by
 have hu := Tryd.underlying71
 obtain ⟨v, hv⟩ := hL
 have hz := (kc_ hv.1 6).trans rfl
 have HV := am_ hv
 clear hv
 have hw : wrap64 (now - 64) = now - 64 := by unfold wrap64; omega
 by_cases c1 : 0 ≤ L.heard
 case neg =>
  have hr : aliveB L now = false := by unfold aliveB; rw [decide_eq_false c1]; rfl
  rw [hr]
  have d1 := decide_eq_false c1
  clear c1 hr
  go_enter Tryd.func18, Tryd.ntmps18
  go_wp2
  go_ret
  exact ⟨rfl, rfl⟩
 by_cases c2 : now ≤ 64
 case pos =>
  have hr : aliveB L now = true := by unfold aliveB; rw [decide_eq_true c1, decide_eq_true c2]; rfl
  rw [hr]
  have d1 := decide_eq_true c1
  have d2 := decide_eq_true c2
  clear c1 c2 hr
  go_enter Tryd.func18, Tryd.ntmps18
  go_wp2
  go_ret
  exact ⟨rfl, rfl⟩
 have hr : aliveB L now = decide (now - 64 ≤ L.heard) := by unfold aliveB; rw [decide_eq_true c1, decide_eq_false c2]; rfl
 rw [hr]
 have d1 := decide_eq_true c1
 have d2 := decide_eq_false c2
 clear hr
 go_enter Tryd.func18, Tryd.ntmps18
 go_wp2
 go_ret
 exact ⟨rfl, rfl⟩
end Go.Proofs.YtoandmnefgimoaaDoor.PL
