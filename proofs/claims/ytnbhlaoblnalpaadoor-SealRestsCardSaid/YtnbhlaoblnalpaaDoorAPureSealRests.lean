/-
  PLAIN LAW: SealRests.
-/
import Derived.Test.YtnbhlaoblnalpaaDoorASealA
import Derived.Test.YtnbhlaoblnalpaaDoorAPEQSealRests
set_option linter.unusedSimpArgs false
set_option linter.unusedVariables false
namespace Go.Proofs.YtnbhlaoblnalpaaDoor.Pure
open Go.RowKit Go.Proofs.YtnbhlaoblnalpaaDoorW.PrintWords Go.Proofs.YtnbhlaoblnalpaaDoorW.PrintLast Go.Proofs.YtnbhlaoblnalpaaDoorW.PrintMore Go.Proofs.YtnbhlaoblnalpaaDoor.Open Go.Proofs.YtnbhlaoblnalpaaDoor.PE Go.Proofs.YtnbhlaoblnalpaaDoor.Crc
theorem SealRests : grapevinelaw01_SealRests.PureQ := by
  intro b h hz
  have h1 := IsB_wf h.2
  have hm := more_lt (nats_bytes h1) (s := 0) (by decide)
  refine Ev.rounds (g := fun k => grapevinelaw01_SealRests.f k b) ?_
  unfold grapevinelaw01_SealRests.f
  simp only [Option.bind_some, List.nil_append, List.length_nil, Nat.zero_add]
  simp only [if_pos (show b.length < 140737488355328 by omega), Option.bind_some]
  refine Ev.bind (Sum_ev h1 h.1) ?_
  simp only [Four_eq hm, Option.bind_some, List.length_cons, List.length_nil, if_pos (show b.length + 4 < 140737488355328 by omega), Nat.zero_add, Nat.reduceAdd]
  refine Ev.bind live_ev ?_
  simp only [if_true]
  have hab : IsB (b ++ [((more 0 (nats b) % 256 : Nat) : Int), ((more 0 (nats b) / 256 % 256 : Nat) : Int), ((more 0 (nats b) / 65536 % 256 : Nat) : Int), ((more 0 (nats b) / 16777216 % 256 : Nat) : Int)]) := fun x hx => (List.mem_append.1 hx).elim (h1 x) (fun hx => by simp at hx; omega)
  refine Ev.bind (Sum_ev hab (by simp; omega)) ?_
  have e : nats (b ++ [((more 0 (nats b) % 256 : Nat) : Int), ((more 0 (nats b) / 256 % 256 : Nat) : Int), ((more 0 (nats b) / 65536 % 256 : Nat) : Int), ((more 0 (nats b) / 16777216 % 256 : Nat) : Int)]) = nats b ++ four (more 0 (nats b)) := by
    rw [nats_append]; simp only [nats, four, List.map_cons, List.map_nil, Int.toNat_natCast]
  rw [e, more_rest (nats_bytes h1)]
  exact Ev.now _
end Go.Proofs.YtnbhlaoblnalpaaDoor.Pure
