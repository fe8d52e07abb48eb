import Derived.Test.YtoandmnefgimoaaDoorLBPLx0
import Derived.Test.YtoandmnefgimoaaDoorLBPLx2
import Derived.Test.YtoandmnefgimoaaDoorLBPLx8
namespace Go.Proofs.YtoandmnefgimoaaDoor.PL
open Go.RowKit Go.Proofs.YtoandmnefgimoaaDoorW.PrintWords Go.Proofs.YtoandmnefgimoaaDoorW.PrintLast Go.Proofs.YtoandmnefgimoaaDoorW.PrintMore
set_option linter.unusedVariables false
set_option linter.unusedSimpArgs false
set_option maxHeartbeats 4000000 in
theorem link_Link_Probe.calls (B g : Nat) (L : LK) (ok : Nat → Prop) (w : World) (hL : LKat w ok g L) (hlen : L.ws.length < 1000) (hB : ∀ k, ok k → B ≤ k) (hBw : B ≤ w.heap.size) :
 Calls Tryd.prog 16 #[.pointer (some ⟨g, 0, none⟩)] w fun e w' => e = .returned (.int .i64 (putE L)) ∧ LKat w' (fun k => ok k ∨ w.heap.size ≤ k) g (putL L 2 []) ∧ Kept w w' ok ∧ Below B w w' := by
 have HL := am_ hL
 have HN := am_ hlen
 have HBB := am_ hB
 have HBW := am_ hBw
 clear hL hlen hB hBw
 go_enter Tryd.func16, Tryd.ntmps16
 go_wp2_with (((with_reducible refine gd_ (N := 6) rfl ?_); (try (refine gate_guard (by rfl) ?_; dsimp only)); refine gL (some 6) Tryd.func22 #[.pointer (some ⟨g, 0, none⟩), .int .u8 2, .slice none ([] : List Int).length 0] ?_; refine (link_Link_put.calls B g L ok (fun _ => False) 2 none 0 [] _ HL.out (Kd.R_nil _ _ _ _ _) (fun _ h_ => h_.elim) HN.out HBB.out HBW.out).mono ?_; rintro e w1 ⟨rfl, h1, h2, h3⟩; refine ⟨_, rfl, ?_⟩; have H1 := am_ h1; have H2 := am_ h2; have H3 := am_ h3; clear h1 h2 h3))
 go_ret
 exact ⟨rfl, H1.out.mono (fun k hk => by rcases hk with hk | hk | hk; exact Or.inl hk; exact hk.elim; exact Or.inr hk), H2.out, H3.out⟩
end Go.Proofs.YtoandmnefgimoaaDoor.PL
