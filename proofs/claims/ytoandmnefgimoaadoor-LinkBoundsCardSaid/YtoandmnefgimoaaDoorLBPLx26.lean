import Derived.Test.YtoandmnefgimoaaDoorLBPLx0
import Derived.Test.YtoandmnefgimoaaDoorLBPLx2
namespace Go.Proofs.YtoandmnefgimoaaDoor.PL
open Go.RowKit Go.Proofs.YtoandmnefgimoaaDoorW.PrintWords Go.Proofs.YtoandmnefgimoaaDoorW.PrintLast Go.Proofs.YtoandmnefgimoaaDoorW.PrintMore
set_option linter.unusedVariables false
set_option linter.unusedSimpArgs false
theorem waits_calls (g : Nat) (L : LK) (ok : Nat → Prop) (w : World) (hL : LKat w ok g L) :
 Calls Tryd.prog 15 #[.pointer (some ⟨g, 0, none⟩)] w fun e w' => e = .returned (.int .i64 (L.ws.length : Int)) ∧ w = w' := by
 have hu := Tryd.underlying71
 obtain ⟨v, hv⟩ := hL
 obtain ⟨A, c, rfl, hc⟩ := hv.slice
 have hz := (kc_ hv.1 4).trans rfl
 clear hc
 have HV := am_ hv
 clear hv
 go_enter Tryd.func15, Tryd.ntmps15
 go_wp2
 go_ret
 exact ⟨rfl, rfl⟩
end Go.Proofs.YtoandmnefgimoaaDoor.PL
