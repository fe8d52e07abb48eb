/- LinkProbes: for every input the Go function returns true; its arguments read as before. The row, out of the pure statement and the printed contract (printed by grow.py). -/
import Derived.Test.YtoandmnefgimoaaDoorRows
import Derived.Test.YtoandmnefgimoaaDoorFacts
import Derived.Test.YtoandmnefgimoaaDoorLPPLx36
import Derived.Test.YtoandmnefgimoaaDoorLPWAll
import Derived.Deep.Slices
import Derived.ChangeArms
import Derived.Deep.Fields
import Derived.OpenShut
import Derived.WideShapes
import Derived.Test.YtoandmnefgimoaaDoorLPPLx0
import Derived.Test.YtoandmnefgimoaaDoorLPPLQLinkProbes
import Derived.Test.YtoandmnefgimoaaDoorLPPureLinkProbes
import Derived.WalkKit
import Derived.ProofKit
import Derived.ShutString
import Derived.ChangeOld
import Derived.Below
import Derived.SizedLaws
import Derived.Deep.DeepHandedRow
import Derived.Lib.LaidTab
import Derived.Test.YtoandmnefgimoaaDoorCards
import Derived.Test.YtoandmnefgimoaaDoorTie
import Derived.ChangeSlices
namespace Go.Proofs.YtoandmnefgimoaaDoor.linkProbes
open Go.ChangeShapes Go.WideShapes Go.ChangeAt Go.RowKit Go.Deep
open Go.ChangeMaps (open_string shut_string)
open Go.Proofs.YtoandmnefgimoaaDoorW.PrintWords Go.Proofs.YtoandmnefgimoaaDoor.PL
set_option linter.unusedVariables false
theorem own : ownKnob Tryd.prog.godebug = none := by kernel_rfl
theorem laidOut : laidOutB Tryd.prog = true := by kernel_rfl
theorem gTab : Tryd.prog.globalNamed "grapevine/seal.half" = some 0 := by kernel_rfl
theorem gTabType : (Tryd.prog.globals[0]?).map (·.type) = some 124 := by kernel_rfl
theorem cellsT : Tryd.prog.cellsOf 124 = 16 := by kernel_rfl
theorem cellsE : Tryd.prog.cellsOf 62 = 1 := by kernel_rfl
theorem table {W : World} (h : laidMetH Tryd.prog Rows.linkProbesRow.laid W) : Lib.TabIs Tryd.prog W "grapevine/seal.half" .u32 [0, 274646895, 549293790, 820201905, 1098587580, 1361435347, 1640403810, 1905808397, 2197175160, 2460548119, 2722870694, 2987750089, 3280807620, 3553878443, 3811616794, 4084100981] := Lib.tabIs_of_head (rest := []) gTab gTabType Tryd.underlying124 Tryd.underlying62 cellsE cellsT h
theorem tabW {W : World} (h : laidMetH Tryd.prog Rows.linkProbesRow.laid W) : TabW W := tabW_of_cells (fun i hi => (table h).cell gTab i hi)
set_option maxRecDepth 100000 in
theorem contract (H : Type) (enc : TypeId × Value → H) (W : World) (base : Nat) (args : Array Value) (ds gs : List (DataW H)) (before : List MemPlace)
    (hval : ∀ (j : Nat) t v, Tryd.f5.params[j]? = some t → args[j]? = some v → Value.okWide Tryd.prog W .any base t v)
    (hW : DataW.Whole enc Tryd.prog Tryd.f5.params.toList Rows.linkProbesSpec.vars false W args.toList ds gs before) (hsz0 : (DataW.weightsEach Tryd.prog (Tryd.f5.params.toList ++ Rows.linkProbesSpec.plain.varTypes Tryd.prog) (ds ++ gs)).all (· ≤ reachBytes) = true) (hL : laidMetH Tryd.prog Rows.linkProbesRow.laid W) :
    Calls Tryd.prog 5 args W fun e W' => ∃ v, e = .returned v ∧ Rows.linkProbesSpec.post enc Tryd.prog Tryd.f5 false true false false W args v W' := by
  have hW' := hW
  obtain ⟨p, q, hA0, hV, rfl, hfz, hnd⟩ := hW
  have hA : DataW.TrodAll enc Tryd.prog W 0 (fun _ => true) true Tryd.f5.params.toList args.toList ds p := hA0
  have hsz : (DataW.weightsEach Tryd.prog (Tryd.f5.params.toList ++ Rows.linkProbesSpec.plain.varTypes Tryd.prog) (ds ++ gs)).all (· ≤ reachBytes) = true := hsz0
  rw [Tryd.params5] at hA hval hsz
  obtain ⟨v0, vs0, d0, ds0, p0, q0, hargs, rfl, rfl, h0, r0⟩ := trodAll_cons hA
  obtain ⟨v1, vs1, d1, ds1, p1, q1, rfl, rfl, rfl, h1, r1⟩ := trodAll_cons r0
  obtain ⟨v2, vs2, d2, ds2, p2, q2, rfl, rfl, rfl, h2, r2⟩ := trodAll_cons r1
  obtain ⟨rfl, rfl, rfl⟩ := trodAll_nil r2
  obtain rfl : args = #[v0, v1, v2] := by cases args; simp_all
  obtain ⟨rfl, rfl⟩ := trodVars_none hV
  have k0 := h0
  have lt0 : ∀ x ∈ p0, x.block < W.heap.size := by obtain ⟨m, hm⟩ := k0; exact DataW.trod_lt m _ _ _ hm
  obtain ⟨x0, rfl, rfl, rfl, hG0⟩ := open_int Tryd.underlying61 (hval 0 61 v0 rfl rfl) h0
  have k1 := h1
  have lt1 : ∀ x ∈ p1, x.block < W.heap.size := by obtain ⟨m, hm⟩ := k1; exact DataW.trod_lt m _ _ _ hm
  obtain ⟨x1, rfl, rfl, rfl, hG1⟩ := open_int Tryd.underlying61 (hval 1 61 v1 rfl rfl) h1
  have k2 := h2
  have lt2 : ∀ x ∈ p2, x.block < W.heap.size := by obtain ⟨m, hm⟩ := k2; exact DataW.trod_lt m _ _ _ hm
  obtain ⟨x2, rfl, rfl, rfl, hG2⟩ := open_int Tryd.underlying62 (hval 2 62 v2 rfl rfl) h2
  clear hA0 hsz hsz0
  simp only [List.append_nil] at hW'
  obtain ⟨k, h⟩ := Pure.LinkProbes x0 x1 x2 hG0 hG1 hG2
  have r0_ : 0 ≤ x0 ∧ x0 ≤ 65535 := by simpa [Lit.wf, IntKind.bits, IntKind.min, IntKind.max, IntKind.signed] using hG0
  have r1_ : 0 ≤ x1 ∧ x1 ≤ 65535 := by simpa [Lit.wf, IntKind.bits, IntKind.min, IntKind.max, IntKind.signed] using hG1
  have r2_ : 0 ≤ x2 ∧ x2 ≤ 4294967295 := by simpa [Lit.wf, IntKind.bits, IntKind.min, IntKind.max, IntKind.signed] using hG2
  refine (grapevinelaw14_LinkProbes.calls k x0 x1 x2 true W r0_.1 (by omega) r1_.1 (by omega) r2_.1 (by omega) (tabW hL) h).mono fun e W' ⟨he, bel0⟩ => ?_
  have bel : Below W.heap.size W W' := bel0
  subst he
  exact ⟨_, rfl, _, _, _, [], _, [], hW', trodAll_mk1 (shut_bool Tryd.underlying4 _), (trodAll_cons_mk (Below.trod laidOut (by kernel_rfl) (of_decide_eq_true (by kernel_rfl)) k0 bel lt0) (trodAll_cons_mk (Below.trod laidOut (by kernel_rfl) (of_decide_eq_true (by kernel_rfl)) k1 bel lt1) (trodAll_cons_mk (Below.trod laidOut (by kernel_rfl) (of_decide_eq_true (by kernel_rfl)) k2 bel lt2) trodAll_mk0))), rfl, bel.frame _, fun h => by cases h⟩
noncomputable def laidWorld (os : Os) : World :=
  { World.holding Tryd.prog os ⟨#[], #[], []⟩ with heap := (World.holding Tryd.prog os ⟨#[], #[], []⟩).heap.modify 0 fun
      | .cells _ t frozen => .cells #[.int .u32 0, .int .u32 274646895, .int .u32 549293790, .int .u32 820201905, .int .u32 1098587580, .int .u32 1361435347, .int .u32 1640403810, .int .u32 1905808397, .int .u32 2197175160, .int .u32 2460548119, .int .u32 2722870694, .int .u32 2987750089, .int .u32 3280807620, .int .u32 3553878443, .int .u32 3811616794, .int .u32 4084100981] t frozen
      | o => o }
theorem laid_met (os : Os) : laidMet Tryd.prog Rows.linkProbesRow.laid ((laidWorld os).forCall (fun _ _ => 0) ⟨#[], #[.int .u16 0, .int .u16 0, .int .u32 0], []⟩).memory :=
  laidMet_of_run' 8 (by kernel_rfl) (by kernel_rfl)
theorem reads (os : Os) {H : Type} (enc : TypeId × Value → H) : ∃ places, DataW.whole enc Tryd.prog ((laidWorld os).forCall (fun _ _ => 0) ⟨#[], #[.int .u16 0, .int .u16 0, .int .u32 0], []⟩).memory Tryd.f5.params.toList Rows.linkProbesSpec.vars false (#[.int .u16 0, .int .u16 0, .int .u32 0] : Array Value).toList 8 = some ([.lit (.int .u16 0), .lit (.int .u16 0), .lit (.int .u32 0)], [], places) :=
  ⟨[], by kernel_rfl⟩
set_option maxRecDepth 100000 in
theorem lifted (os : Os) (started : os.Started) (H : Type) (enc : TypeId × Value → H) (F : Stop.Interp) :
    ReturnsInHanded {} Tryd.checked os 5 .any ((OpenSpec.ofChange Rows.linkProbesSpec).preRow enc Tryd.prog Tryd.f5 Rows.linkProbesRow.domain false Rows.linkProbesRow.laid) (((OpenSpec.ofChange Rows.linkProbesSpec).at F).post enc Tryd.prog Tryd.f5 false true false false) := by
  obtain ⟨places, hx⟩ := reads os enc
  refine returnsInHanded_of_row (C := Tryd.checked) (s := (OpenSpec.ofChange Rows.linkProbesSpec)) own started (by kernel_rfl) Tryd.func5
    (witness_row_at (enc := enc) (C := Tryd.checked) false (laidWorld os) #[.int .u16 0, .int .u16 0, .int .u32 0] rfl (by kernel_rfl) (by kernel_rfl) (by kernel_rfl)
      (OpenSpec.preRow_of_cond 8 hx (by kernel_rfl) (fun k hk => by cases hk) (by kernel_rfl) (laid_met os))) ?_
  intro W base args ds gs before hval hW _ hcond hszz hL _ _
  exact contract H enc W base args ds gs before hval hW hszz hL
set_option maxRecDepth 100000 in
theorem c10 : (Rows.linkProbesRow.inPlace == Tryd.pinned.checked.prog.inPlace 5) = true := by kernel_rfl
set_option maxRecDepth 100000 in
theorem c11 : (Rows.linkProbesRow.unfollowed == Tryd.pinned.checked.prog.unfollowed 5) = true := by kernel_rfl
set_option maxRecDepth 100000 in
theorem c12 : (Rows.linkProbesRow.recurses == Tryd.pinned.checked.prog.recurses 5) = true := by kernel_rfl
set_option maxRecDepth 100000 in
theorem c13 : (Rows.linkProbesRow.named == Tryd.pinned.checked.prog.varsNamed 5) = true := by kernel_rfl
set_option maxRecDepth 100000 in
theorem closed : joinedFacts Tryd.pinned.checked.prog 5 Tryd.f5 Rows.linkProbesSpec Rows.linkProbesRow = true :=
  Facts.joined (by kernel_rfl) Facts.f01 Facts.f02 (by kernel_rfl) (by kernel_rfl) (by kernel_rfl) Facts.f03 (by kernel_rfl) Facts.f04 c10 c11 c12 c13 (by kernel_rfl) (by kernel_rfl) (by kernel_rfl) (by kernel_rfl) (by kernel_rfl) (by kernel_rfl) (by kernel_rfl) (by kernel_rfl) (by kernel_rfl) Facts.f09 (by kernel_rfl) Facts.f05 Facts.f06 Facts.f07 Facts.f08 (by kernel_rfl)
theorem over : Rows.linkProbesRow.holds Tryd.pinned (OpenSpec.ofChange Rows.linkProbesSpec) :=
  OpenClaim.holds_of_cond 5 Tryd.f5 rfl rfl rfl rfl rfl rfl rfl ⟨rfl, rfl, rfl, rfl, rfl⟩ rfl rfl rfl rfl rfl (by kernel_rfl) Tryd.func5 closed
    (of_decide_eq_true (by kernel_rfl)) (by unfold Func.isWrapper; first | (rw [if_pos (by decide +kernel)]; kernel_rfl) | (rw [if_neg (by decide +kernel)]; exact ⟨rfl, rfl⟩))
    (fun os started H enc _ F => by rw [OpenClaim.pre_eq_preRow]; exact lifted os started H enc F)
theorem plain (f : FuncId) (fn : Func) (hf : Tryd.pinned.checked.prog.funcNamed "grapevine/grapevinelaw14.LinkProbes" = some f) (hfn : Tryd.pinned.checked.prog.funcs[f]? = some fn) :
    false = Tryd.pinned.checked.prog.looks [] ∧ ∀ (j : Nat) t, fn.params[j]? = some t → Tryd.pinned.checked.prog.wantsStandIn t = false := by
  obtain rfl : f = 5 := Option.some.inj ((show Tryd.prog.funcNamed "grapevine/grapevinelaw14.LinkProbes" = some 5 by kernel_rfl).symm.trans hf) |>.symm
  obtain rfl : fn = Tryd.f5 := (Option.some.inj (Tryd.func5.symm.trans hfn)).symm
  refine ⟨by kernel_rfl, fun j t ht => ?_⟩
  have hm := Array.mem_of_getElem? ht
  rw [Tryd.params5] at hm
  have hall : ∀ t' ∈ [61, 61, 62], Tryd.prog.wantsStandIn t' = false := by
    intro t' ht'
    simp only [List.mem_cons, List.not_mem_nil, or_false] at ht'
    rcases ht' with rfl | rfl | rfl <;> kernel_rfl
  exact hall t (by simpa using hm)
theorem proved : Rows.LinkProbesCardSaid :=
  Claim7.holds_tied_plain_at .later [] _ _ _ _ over (fun _ h => by cases h) (by kernel_rfl) (fun _ h => by cases h) linkProbes_row_tie rfl ⟨rfl, rfl⟩ (by kernel_rfl) rfl plain (by kernel_rfl)
end Go.Proofs.YtoandmnefgimoaaDoor.linkProbes
namespace Go.Proofs.YtoandmnefgimoaaDoor
theorem linkProbes_holds : Rows.LinkProbesCardSaid := linkProbes.proved
end Go.Proofs.YtoandmnefgimoaaDoor
