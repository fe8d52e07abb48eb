/-
  PLAIN LAW: a seal's bytes; what is opened of bytes; a seal among bytes is opened as it was; cut short it is none; changed it is told.
-/
import Derived.Test.YtnbhlaoblnalpaaDoorFSealA
set_option linter.unusedSimpArgs false
set_option linter.unusedVariables false
namespace Go.Proofs.YtnbhlaoblnalpaaDoor.PE
open Go.RowKit Go.Proofs.YtnbhlaoblnalpaaDoorW.PrintWords Go.Proofs.YtnbhlaoblnalpaaDoorW.PrintMore Go.Proofs.YtnbhlaoblnalpaaDoor.Crc

def fourI (n : Nat) : List Int := [((n % 256 : Nat) : Int), ((n / 256 % 256 : Nat) : Int), ((n / 65536 % 256 : Nat) : Int), ((n / 16777216 % 256 : Nat) : Int)]
theorem nats_fourI (n : Nat) : nats (fourI n) = four n := by simp only [nats, fourI, four, List.map_cons, List.map_nil, Int.toNat_natCast]
theorem fourI_length (n : Nat) : (fourI n).length = 4 := rfl
theorem fourI_b (n : Nat) : IsB (fourI n) := by
  intro x hx
  simp only [fourI, List.mem_cons, List.not_mem_nil, or_false] at hx
  omega
theorem IsB_append {l m : List Int} (hl : IsB l) (hm : IsB m) : IsB (l ++ m) := fun x hx => (List.mem_append.1 hx).elim (hl x) (hm x)
theorem IsB_cons {x : Int} {l : List Int} (h0 : 0 ≤ x) (h1 : x < 256) (hl : IsB l) : IsB (x :: l) := fun y hy => (List.mem_cons.1 hy).elim (fun e => by rw [e]; exact ⟨h0, h1⟩) (hl y)
theorem IsB_take {l : List Int} (hl : IsB l) (n : Nat) : IsB (l.take n) := fun x hx => hl x (List.mem_of_mem_take hx)
theorem IsB_drop {l : List Int} (hl : IsB l) (n : Nat) : IsB (l.drop n) := fun x hx => hl x (List.mem_of_mem_drop hx)
theorem IsB_nil : IsB [] := fun x hx => by simp at hx
theorem nats_inj {l m : List Int} (hl : IsB l) (hm : IsB m) (h : nats l = nats m) : l = m := by
  induction l generalizing m with
  | nil => cases m with
    | nil => rfl
    | cons y m => simp [nats] at h
  | cons x l ih =>
    cases m with
    | nil => simp [nats] at h
    | cons y m =>
      simp only [nats_cons, List.cons.injEq] at h
      have h1 := hl x (by simp)
      have h2 := hm y (by simp)
      rw [ih (fun z hz => hl z (by simp [hz])) (fun z hz => hm z (by simp [hz])) h.2, show x = y by omega]
def crc (l : List Int) : Nat := more 0 (nats l)
def bodyS (kind : Int) (b : List Int) : List Int := kind :: ((b.length % 256 : Nat) : Int) :: ((b.length / 256 % 256 : Nat) : Int) :: b
def sealdS (kind : Int) (b : List Int) : List Int := 167 :: (bodyS kind b ++ fourI (crc (bodyS kind b)))
def sealR (kind : Int) (b : List Int) : List Int × Int := if 4096 < b.length then ([], 6) else (sealdS kind b, 0)
theorem bodyS_length (kind : Int) (b : List Int) : (bodyS kind b).length = b.length + 3 := rfl
theorem sealdS_length (kind : Int) (b : List Int) : (sealdS kind b).length = b.length + 8 := by
  simp [sealdS, bodyS_length, fourI_length]
theorem bodyS_b {kind : Int} {b : List Int} (h0 : 0 ≤ kind) (h1 : kind < 256) (hb : IsB b) : IsB (bodyS kind b) := IsB_cons h0 h1 (IsB_cons (by omega) (by omega) (IsB_cons (by omega) (by omega) hb))
theorem sealdS_b {kind : Int} {b : List Int} (h0 : 0 ≤ kind) (h1 : kind < 256) (hb : IsB b) : IsB (sealdS kind b) := IsB_cons (by omega) (by omega) (IsB_append (bodyS_b h0 h1 hb) (fourI_b _))

/-- The seal at the beginning of bytes, which stand at a place: its parts, the place behind it, the error. -/
def openT (t : List Int) (a : Int) : (Int × Int × List Int) × Int × Int :=
  if t.length = 0 then ((0, 0, []), 0, 3) else
  if rd t 0 ≠ 167 then ((0, 0, []), 0, 4) else
  if t.length < 4 then ((0, 0, []), 0, 3) else
  if 4096 < rd t 2 + 256 * rd t 3 then ((0, 0, []), 0, 6) else
  if (t.length : Int) < rd t 2 + 256 * rd t 3 + 8 then ((0, 0, []), 0, 3) else
  if fourI (crc ((t.drop 1).take (rd t 2 + 256 * rd t 3 + 3).toNat)) = (t.drop (rd t 2 + 256 * rd t 3 + 4).toNat).take 4 then
    ((rd t 1, a, (t.drop 4).take (rd t 2 + 256 * rd t 3).toNat), a + (rd t 2 + 256 * rd t 3) + 8, 0)
  else ((0, 0, []), 0, 5)
def openR (l : List Int) (a : Int) : (Int × Int × List Int) × Int × Int :=
  if a < 0 ∨ (l.length : Int) < a then ((0, 0, []), 0, 2) else openT (l.drop a.toNat) a

theorem rd_cons0 (x : Int) (l : List Int) : rd (x :: l) 0 = x := rfl
theorem rd_cons1 (x y : Int) (l : List Int) : rd (x :: y :: l) 1 = y := rfl
theorem rd_cons2 (x y z : Int) (l : List Int) : rd (x :: y :: z :: l) 2 = z := rfl
theorem rd_cons3 (x y z u : Int) (l : List Int) : rd (x :: y :: z :: u :: l) 3 = u := rfl

theorem open_head {kind n0 n1 : Int} {b f behind : List Int} (a : Int) (h0 : n0 = ((b.length % 256 : Nat) : Int)) (h1 : n1 = ((b.length / 256 % 256 : Nat) : Int)) (hb : b.length ≤ 4096) (hf : f.length = 4) :
    openT (167 :: kind :: n0 :: n1 :: (b ++ f ++ behind)) a = if fourI (crc (kind :: n0 :: n1 :: b)) = f then ((kind, a, b), a + b.length + 8, 0) else ((0, 0, []), 0, 5) := by
  have hn : n0 + 256 * n1 = (b.length : Int) := by omega
  have hl : (167 :: kind :: n0 :: n1 :: (b ++ f ++ behind)).length = b.length + 8 + behind.length := by simp [hf]; omega
  unfold openT
  rw [rd_cons0, rd_cons1, rd_cons2, rd_cons3, hn]
  rw [if_neg (by omega), if_neg (by simp), if_neg (by omega), if_neg (by omega), if_neg (by omega)]
  rw [show ((b.length : Int) + 3).toNat = b.length + 3 by omega, show ((b.length : Int) + 4).toNat = b.length + 4 by omega, show ((b.length : Int)).toNat = b.length by omega]
  simp only [List.drop_succ_cons, List.drop_zero, List.take_succ_cons, List.append_assoc]
  rw [List.take_append_of_le_length (Nat.le_refl _), List.take_length, List.drop_append_of_le_length (Nat.le_refl _), List.drop_length, List.nil_append, List.take_append_of_le_length (by omega), List.take_of_length_le (by omega)]
theorem open_seald {kind : Int} {b : List Int} (behind : List Int) (a : Int) (hb : b.length ≤ 4096) : openT (sealdS kind b ++ behind) a = ((kind, a, b), a + b.length + 8, 0) := by
  have h := open_head (kind := kind) (b := b) (f := fourI (crc (bodyS kind b))) (behind := behind) a rfl rfl hb rfl
  have e : fourI (crc (kind :: ((b.length % 256 : Nat) : Int) :: ((b.length / 256 % 256 : Nat) : Int) :: b)) = fourI (crc (bodyS kind b)) := rfl
  rw [if_pos e] at h
  have e2 : sealdS kind b ++ behind = 167 :: kind :: ((b.length % 256 : Nat) : Int) :: ((b.length / 256 % 256 : Nat) : Int) :: (b ++ fourI (crc (bodyS kind b)) ++ behind) := rfl
  rw [e2]
  exact h
theorem open_around {kind : Int} {b : List Int} (ahead behind : List Int) (hb : b.length ≤ 4096) : openR (ahead ++ sealdS kind b ++ behind) (ahead.length : Int) = ((kind, (ahead.length : Int), b), (ahead.length : Int) + b.length + 8, 0) := by
  unfold openR
  rw [if_neg (by simp; omega), Int.toNat_natCast, List.append_assoc, List.drop_append_of_le_length (Nat.le_refl _), List.drop_length, List.nil_append]
  exact open_seald behind _ hb
/-- CHANGED BEHIND THE LENGTH: the bytes part in up to four, one behind the other. -/
theorem open_turned {kind : Int} {b p d d' q : List Int} (a : Int) (h0 : 0 ≤ kind) (h1 : kind < 256) (hb : IsB b) (hl : b.length ≤ 4096) (he : b ++ fourI (crc (bodyS kind b)) = p ++ d ++ q) (hd : IsB d') (hn : d.length = d'.length) (h4 : d.length ≤ 4) :
    (openT (167 :: kind :: ((b.length % 256 : Nat) : Int) :: ((b.length / 256 % 256 : Nat) : Int) :: (p ++ d' ++ q)) a).2.2 = if d = d' then 0 else 5 := by
  have hln : (p ++ d' ++ q).length = b.length + 4 := by
    have := congrArg List.length he
    simp only [List.length_append, fourI_length] at this ⊢
    omega
  have hbf : IsB (p ++ d ++ q) := he ▸ IsB_append hb (fourI_b _)
  have hp : IsB p := fun x hx => hbf x (by simp [hx])
  have hq : IsB q := fun x hx => hbf x (by simp [hx])
  have hdd : IsB d := fun x hx => hbf x (by simp [hx])
  obtain ⟨b', f', e', hb', hf'⟩ : ∃ b' f', p ++ d' ++ q = b' ++ f' ∧ b'.length = b.length ∧ f'.length = 4 :=
    ⟨(p ++ d' ++ q).take b.length, (p ++ d' ++ q).drop b.length, (List.take_append_drop _ _).symm, by rw [List.length_take]; omega, by rw [List.length_drop]; omega⟩
  have hall : IsB (b' ++ f') := e' ▸ IsB_append (IsB_append hp hd) hq
  have hb'b : IsB b' := fun x hx => hall x (by simp [hx])
  have hf'b : IsB f' := fun x hx => hall x (by simp [hx])
  have ho := open_head (kind := kind) (n0 := ((b.length % 256 : Nat) : Int)) (n1 := ((b.length / 256 % 256 : Nat) : Int)) (b := b') (f := f') (behind := []) a (by rw [hb']) (by rw [hb']) (by omega) hf'
  rw [List.append_nil, ← e'] at ho
  rw [ho]
  have hk : ((b'.length % 256 : Nat) : Int) = ((b.length % 256 : Nat) : Int) := by rw [hb']
  let hd3 : List Int := [kind, ((b.length % 256 : Nat) : Int), ((b.length / 256 % 256 : Nat) : Int)]
  have hd3b : IsB hd3 := IsB_cons h0 h1 (IsB_cons (by omega) (by omega) (IsB_cons (by omega) (by omega) IsB_nil))
  have key : ∀ {c g : List Int}, IsB c → IsB g → g.length = 4 → (fourI (crc (hd3 ++ c)) = g ↔ reg (inv 0) (nats (hd3 ++ c ++ g)) = rest) := by
    intro c g hc hg hg4
    rw [nats_append, reg_rest (nats_bytes (IsB_append hd3b hc)) (nats_bytes hg) (by simp [nats, hg4]) (inv_lt (by decide))]
    constructor
    · intro e
      rw [← e, nats_fourI]; rfl
    · intro e
      apply nats_inj (fourI_b _) hg
      rw [nats_fourI, e]; rfl
  have hr : reg (inv 0) (nats (hd3 ++ b ++ fourI (crc (bodyS kind b)))) = rest := (key hb (fourI_b _) rfl).1 rfl
  by_cases hdd' : d = d'
  · rw [if_pos hdd']
    subst hdd'
    have e2 : b ++ fourI (crc (bodyS kind b)) = b' ++ f' := he.trans e'
    obtain ⟨eb, ef⟩ := List.append_inj e2 hb'.symm
    rw [if_pos (by rw [← eb, ← ef]; rfl)]
  · rw [if_neg hdd', if_neg]
    intro hc
    apply hdd'
    have h2 : reg (inv 0) (nats (hd3 ++ b' ++ f')) = rest := (key hb'b hf'b hf').1 hc
    rw [← hr] at h2
    have e1 : nats (hd3 ++ b' ++ f') = nats (hd3 ++ p) ++ nats d' ++ nats q := by
      rw [List.append_assoc hd3 b' f', ← e']; simp [nats]
    have e3 : nats (hd3 ++ b ++ fourI (crc (bodyS kind b))) = nats (hd3 ++ p) ++ nats d ++ nats q := by
      rw [List.append_assoc hd3 b, he]; simp [nats]
    rw [e1, e3] at h2
    have h3 := reg_burst (nats_bytes (IsB_append hd3b hp)) (nats_bytes hd) (nats_bytes hdd) (nats_bytes hq) (by simp [nats, hn]) (by simp [nats]; omega) (inv_lt (by decide)) h2
    exact (nats_inj hd hdd h3).symm
end Go.Proofs.YtnbhlaoblnalpaaDoor.PE
