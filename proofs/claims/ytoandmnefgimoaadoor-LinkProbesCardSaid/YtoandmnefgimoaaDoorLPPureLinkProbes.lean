/-
  PLAIN LAW: LinkProbes.
-/
import Derived.Test.YtoandmnefgimoaaDoorLPPLQLinkProbes
import Derived.Test.YtoandmnefgimoaaDoorLPLnkA
import Derived.Test.YtoandmnefgimoaaDoorLPPLx25
set_option linter.unusedVariables false
set_option linter.unusedSimpArgs false
namespace Go.Proofs.YtoandmnefgimoaaDoor.Pure
open Go.RowKit Go.Proofs.YtoandmnefgimoaaDoorW.PrintWords Go.Proofs.YtoandmnefgimoaaDoorW.PrintLast Go.Proofs.YtoandmnefgimoaaDoorW.PrintMore Go.Proofs.YtoandmnefgimoaaDoor.PL Go.Proofs.YtoandmnefgimoaaDoor.Crc
theorem pullF_mono (own other made kd : Int) (body : List Int) : ∀ k, LeO (link_Link_Pull.F k own other made kd body) (link_Link_Pull.F (k + 1) own other made kd body) := fun k => by
  unfold link_Link_Pull.F
  exact LeO.bind (parcel_Put.nums_mono _ _ _) (fun _ => LeO.ite (LeO.bind (seal_Seal.mono _ _ _) (fun _ => LeO.refl _)) (LeO.refl _))
theorem live_mono : ∀ k, LeO (grapevinelaw14_live.f k) (grapevinelaw14_live.f (k + 1)) := fun k => by
  unfold grapevinelaw14_live.f
  exact LeO.bind (parcel_Put.mono _ _ _ _ _ _ _ _ _) (fun _ => LeO.ite (LeO.bind (pullF_mono _ _ _ _ _ _) (fun _ => LeO.bind (grapevineref14_Frame.mono _ _ _ _ _ _) (fun _ => LeO.refl _))) (LeO.refl _))
theorem live_true' : grapevinelaw14_live.f 200 = some true := by kernel_rfl
theorem bits0 : Go.bits .and .u64 (IntKind.u64.wrap (0 * 2 ^ ((1 : Int) - 0).toNat)) 1 = 0 := by decide +kernel
theorem fresh1 (own other queue made heard : Int) (ws : List S79) : ∃ T : Int, link_Link_fresh.F ⟨own, other, queue, made, 0, heard, 0, ws⟩ 1 = (true, ⟨own, other, queue, made, 1, heard, T, ws⟩) := by
  refine ⟨Go.bits .or .u64 (IntKind.u64.wrap (0 * 2 ^ ((1 : Int) - 0).toNat)) 1, ?_⟩
  unfold link_Link_fresh.F
  rw [if_pos (by show (1 : Int) > 0; decide), if_pos (by show (1 : Int) - 0 < 64; decide), if_neg (by show ¬ Go.bits .and .u64 (IntKind.u64.wrap (0 * 2 ^ ((1 : Int) - 0).toNat)) 1 = 1; rw [bits0]; decide)]
theorem take1 {own o t K now queue made : Int} {ws : List S79} (hK : K = 2 ∨ K = 3) (ho : 1 ≤ o) (ht : t = 0 ∨ t = own) (hn : 0 ≤ now) (hw : (ws.length : Int) < queue) :
    ∃ T : Int, link_Link_Take.F ⟨own, 0, queue, made, 0, -1, 0, ws⟩ now 0 (some ⟨K, o, t, 1, 0, 0, 0, 0, 0, 0, [], []⟩) = some (false, 0, ⟨own, o, queue, made, 1, now, T, if K = 2 then ws ++ [⟨3, []⟩] else ws⟩) := by
  obtain ⟨T, hT⟩ := fresh1 own o queue made (-1) ws
  refine ⟨T, ?_⟩
  unfold link_Link_Take.F
  rw [if_pos rfl]
  show some (link_Link_Take.G _ _ _) = _
  unfold link_Link_Take.G
  rw [if_neg (by show ¬ o < 0; omega), if_pos (by show o > 0; omega)]
  unfold link_Link_Take.G2
  rw [if_neg (by show ¬ (t ≠ 0 ∧ t ≠ own); omega)]
  show some ((fun q : Bool × LK => if q.1 = false then (false, (7 : Int), q.2) else _) (link_Link_fresh.F ⟨own, o, queue, made, 0, -1, 0, ws⟩ 1)) = _
  rw [hT]
  dsimp only
  rw [if_neg (by decide), if_pos (show (-1 : Int) < now by omega)]
  rcases hK with rfl | rfl
  · rw [if_pos rfl, if_pos rfl]
    unfold putL
    rw [if_neg (by show ¬ (ws.length : Int) ≥ queue; omega)]
    rfl
  · rw [if_neg (by decide), if_neg (by decide)]
    rfl
theorem bindc {α β : Type} {o : Option α} {a : α} {F : Nat → α → Option β} {r : β} (h : o = some a) (hF : Ev (fun k => F k a) r) : Ev (fun k => o.bind (F k)) r := by subst h; exact hF
theorem evifp {β : Type} {c : Prop} [Decidable c] {A B : Nat → Option β} {r : β} (h : c) (hA : Ev A r) : Ev (fun k => if c then A k else B k) r := by simpa only [if_pos h] using hA
theorem LinkProbes : grapevinelaw14_LinkProbes.PureQ := by
  unfold grapevinelaw14_LinkProbes.PureQ
  intro a b now ha hb hn
  have ha' : 0 ≤ a ∧ a < 65536 := by
    have h_ : 0 ≤ a ∧ a ≤ 65535 := by simpa [Lit.wf, IntKind.bits, IntKind.min, IntKind.max, IntKind.signed] using ha
    omega
  have hb' : 0 ≤ b ∧ b < 65536 := by
    have h_ : 0 ≤ b ∧ b ≤ 65535 := by simpa [Lit.wf, IntKind.bits, IntKind.min, IntKind.max, IntKind.signed] using hb
    omega
  obtain ⟨m, rfl, hm⟩ := u32_wf hn
  have hn' : 0 ≤ (m : Int) ∧ (m : Int) < 4294967296 := by omega
  generalize (m : Int) = now at hn'
  refine Ev.rounds (g := fun k => grapevinelaw14_LinkProbes.f k a b now) ?_
  unfold grapevinelaw14_LinkProbes.f
  refine Ev.bind (Lnk.pull_ev (o := 1 + a) (t := 0) (m := 0 + 1) (K := 2) (by omega) (by omega) (by omega) (by omega)) ?_
  refine Ev.bind (Lnk.open_ev (o := 1 + a) (t := 0) (m := 0 + 1) (K := 2) (by omega) (by omega) (by omega) (by omega)) ?_
  obtain ⟨T1, h1⟩ := take1 (own := 1 + b) (o := 1 + a) (t := 0) (K := 2) (now := now) (queue := 2) (made := 0) (ws := []) (Or.inl rfl) (by omega) (Or.inl rfl) hn'.1 (by decide)
  refine bindc h1 ?_
  refine evifp (c := okR _ = true ∧ _ ∧ _) ⟨(by show (decide ((1 : Int) ≤ 0 + 1) && decide ((0 + 1 : Int) ≤ 1099511627776)) = true; decide), rfl, rfl⟩ ?_
  refine bindc (a := (3, [], [])) rfl ?_
  dsimp only
  refine Ev.bind (Lnk.pull_ev (o := 1 + b) (t := 1 + a) (m := 0 + 1) (K := 3) (by omega) (by omega) (by omega) (by omega)) ?_
  refine Ev.bind (Lnk.open_ev (o := 1 + b) (t := 1 + a) (m := 0 + 1) (K := 3) (by omega) (by omega) (by omega) (by omega)) ?_
  obtain ⟨T2, h2⟩ := take1 (own := 1 + a) (o := 1 + b) (t := 1 + a) (K := 3) (now := now) (queue := 2) (made := 0 + 1) (ws := []) (Or.inr rfl) (by omega) (Or.inr rfl) hn'.1 (by decide)
  refine bindc h2 ?_
  refine evifp (c := okR _ = true ∧ _ ∧ _ ∧ _ ∧ _) ⟨(by show (decide ((1 : Int) ≤ 0 + 1) && decide ((0 + 1 : Int) ≤ 1099511627776)) = true; decide), rfl, rfl, (by show (0 : Int) ≤ 0; decide), (by show (0 : Int) < 1099511627776; decide)⟩ ?_
  refine evifp (c := aliveB _ _ = true ∧ _ ∧ _ ∧ _ ∧ _) ⟨?_, ?_, ?_, rfl, rfl⟩ ?_
  · unfold aliveB; dsimp only; rw [decide_eq_true hn'.1, decide_eq_true (show now - 64 ≤ now by omega)]; simp
  · unfold aliveB; dsimp only; rw [decide_eq_true hn'.1, decide_eq_true (show now + 64 - 64 ≤ now by omega)]; simp
  · unfold aliveB; dsimp only; rw [decide_eq_false (show ¬ now + 64 + 1 ≤ 64 by omega), decide_eq_false (show ¬ now + 64 + 1 - 64 ≤ now by omega)]; simp
  refine Ev.bind (show Ev (fun k => grapevinelaw14_live.f k) true from ⟨200, fun k hk => at_rounds live_mono hk live_true'⟩) ?_
  exact evifp rfl (Ev.now _)
end Go.Proofs.YtoandmnefgimoaaDoor.Pure
