/- ParcelBack: for every input the Go function returns true; its arguments read as before. The row, out of the pure statement and the printed contract (printed by grow.py). -/
import Derived.Test.YtpeacoppclmmlaaRows
import Derived.Test.YtpeacoppclmmlaaFacts
import Derived.Test.YtpeacoppclmmlaaPB2PPx26
import Derived.Test.YtpeacoppclmmlaaPB2PPOpens
import Derived.Test.YtpeacoppclmmlaaPB2PPQParcelBack
import Derived.Test.YtpeacoppclmmlaaPB2PureParcelBack
import Derived.WalkKit
import Derived.ProofKit
import Derived.OpenShut
import Derived.ShutString
import Derived.ChangeOld
import Derived.Below
import Derived.SizedLaws
namespace Go.Proofs.Ytpeacoppclmmlaa.parcelBack
open Go.ChangeShapes Go.WideShapes Go.ChangeAt Go.RowKit Go.Deep
open Go.ChangeMaps (open_string shut_string)
open Go.Proofs.YtpeacoppclmmlaaW.PrintWords Go.Proofs.Ytpeacoppclmmlaa.Open Go.Proofs.Ytpeacoppclmmlaa.PP
set_option linter.unusedVariables false
theorem own : ownKnob Try.prog.godebug = none := by kernel_rfl
theorem laidOut : laidOutB Try.prog = true := by kernel_rfl
set_option maxRecDepth 100000 in
theorem contract (H : Type) (enc : TypeId × Value → H) (W : World) (base : Nat) (args : Array Value) (ds gs : List (DataW H)) (before : List MemPlace)
    (hval : ∀ (j : Nat) t v, Try.f21.params[j]? = some t → args[j]? = some v → Value.okWide Try.prog W .any base t v)
    (hW : DataW.Whole enc Try.prog Try.f21.params.toList Rows.parcelBackSpec.vars false W args.toList ds gs before) :
    Calls Try.prog 21 args W fun e W' => ∃ v, e = .returned v ∧ Rows.parcelBackSpec.post enc Try.prog Try.f21 false true false false W args v W' := by
  have hW' := hW
  obtain ⟨p, q, hA0, hV, rfl, hfz, hnd⟩ := hW
  have hA : DataW.TrodAll enc Try.prog W 0 (fun _ => true) true Try.f21.params.toList args.toList ds p := hA0
  rw [Try.params21] at hA hval
  obtain ⟨v0, vs0, d0, ds0, p0, q0, hargs, rfl, rfl, h0, r0⟩ := trodAll_cons hA
  obtain ⟨rfl, rfl, rfl⟩ := trodAll_nil r0
  obtain rfl : args = #[v0] := by cases args; simp_all
  obtain ⟨rfl, rfl⟩ := trodVars_none hV
  have k0 := h0
  have lt0 : ∀ x ∈ p0, x.block < W.heap.size := by obtain ⟨m, hm⟩ := k0; exact DataW.trod_lt m _ _ _ hm
  obtain ⟨⟨cs0⟩, rfl, hz0⟩ := okWide_struct Try.underlying51 (hval 0 51 v0 rfl rfl)
  obtain ⟨fuel0, hf0⟩ := h0
  obtain ⟨x0, hK0, hG0, hM0⟩ := opens51 hf0
  obtain ⟨A0_6, c0_6, A0_7, c0_7, rfl, hl0_6, hr0_6, hl0_7, hr0_7⟩ := k51_open (show k51.K W x0 cs0 from hK0)
  clear hA0
  simp only [List.append_nil] at hW'
  obtain ⟨k, h⟩ := Pure.ParcelBack x0 hG0
  refine (grapevinelaw13_ParcelBack.calls k x0.f0 x0.f1 x0.f2 x0.f3 x0.f4 x0.f5 _ _ x0.f6 _ _ x0.f7 true W hr0_6 hl0_6 hr0_7 hl0_7 h).mono fun e W' ⟨he, bel0⟩ => ?_
  have bel : Below W.heap.size W W' := bel0
  subst he
  exact ⟨_, rfl, _, _, _, [], _, [], hW', trodAll_mk1 (shut_bool Try.underlying4 _), (trodAll_cons_mk (Below.trod laidOut (by kernel_rfl) (of_decide_eq_true (by kernel_rfl)) k0 bel lt0) trodAll_mk0), rfl, bel.frame _, fun h => by cases h⟩
set_option maxRecDepth 100000 in
theorem lifted (os : Os) (started : os.Started) (H : Type) (enc : TypeId × Value → H) :
    ReturnsInHanded {} Try.checked os 21 .any (Rows.parcelBackSpec.pre6 enc Try.prog Try.f21 Rows.parcelBackRow.domain false) (Rows.parcelBackSpec.post enc Try.prog Try.f21 false true false false) := by
  refine returnsInHanded_of_change_sized (C := Try.checked) own started (by kernel_rfl) Try.func21
    (ChangeSpec.witness6 (enc := enc) (C := Try.checked) false ⟨#[], #[.agg #[.int .i64 0, .int .i64 0, .int .i64 0, .int .i64 0, .int .i64 0, .int .i64 0, .slice none 0 0, .slice none 0 0]], []⟩ 8 (by kernel_rfl) (by kernel_rfl) (by kernel_rfl) (by kernel_rfl)) ?_
  intro W base args ds gs before hval hW hcnd hsz0 _
  exact contract H enc W base args ds gs before hval hW
set_option maxRecDepth 100000 in
theorem c10 : (Rows.parcelBackRow.inPlace == Try.pinned.checked.prog.inPlace 21) = true := by kernel_rfl
set_option maxRecDepth 100000 in
theorem c11 : (Rows.parcelBackRow.unfollowed == Try.pinned.checked.prog.unfollowed 21) = true := by kernel_rfl
set_option maxRecDepth 100000 in
theorem c12 : (Rows.parcelBackRow.recurses == Try.pinned.checked.prog.recurses 21) = true := by kernel_rfl
set_option maxRecDepth 100000 in
theorem c13 : (Rows.parcelBackRow.named == Try.pinned.checked.prog.varsNamed 21) = true := by kernel_rfl
set_option maxRecDepth 100000 in
theorem closed : joinedFacts Try.pinned.checked.prog 21 Try.f21 Rows.parcelBackSpec Rows.parcelBackRow = true :=
  Facts.joined (by kernel_rfl) Facts.f01 Facts.f02 (by kernel_rfl) (by kernel_rfl) (by kernel_rfl) Facts.f03 (by kernel_rfl) Facts.f04 c10 c11 c12 c13 (by kernel_rfl) (by kernel_rfl) (by kernel_rfl) (by kernel_rfl) (by kernel_rfl) (by kernel_rfl) (by kernel_rfl) (by kernel_rfl) (by kernel_rfl) Facts.f09 (by kernel_rfl) Facts.f05 Facts.f06 Facts.f07 Facts.f08 (by kernel_rfl)
theorem over : Rows.parcelBackRow.holds Try.pinned (OpenSpec.ofChange Rows.parcelBackSpec) :=
  OpenClaim.holds_of_wide 21 Try.f21 rfl rfl rfl rfl rfl rfl rfl ⟨rfl, rfl, rfl, rfl, rfl⟩ rfl rfl rfl rfl rfl (by kernel_rfl) Try.func21 closed
    (of_decide_eq_true (by kernel_rfl)) (by unfold Func.isWrapper; first | (rw [if_pos (by decide +kernel)]; kernel_rfl) | (rw [if_neg (by decide +kernel)]; exact ⟨rfl, rfl⟩))
    (fun os started H enc _ => lifted os started H enc)
theorem proved : Rows.ParcelBackSaid := over
end Go.Proofs.Ytpeacoppclmmlaa.parcelBack
namespace Go.Proofs.Ytpeacoppclmmlaa
theorem parcelBack_holds : Rows.ParcelBackSaid := parcelBack.proved
end Go.Proofs.Ytpeacoppclmmlaa
