/-
  PLAIN LAW: a seal's bytes; what is opened of bytes; a seal among bytes is opened as it was; cut short it is none; changed it is told.
-/
import Derived.Test.YtoandmnefgimoaaDoorLPSealA
set_option linter.unusedSimpArgs false
set_option linter.unusedVariables false
namespace Go.Proofs.YtoandmnefgimoaaDoor.PL
open Go.RowKit Go.Proofs.YtoandmnefgimoaaDoorW.PrintWords Go.Proofs.YtoandmnefgimoaaDoorW.PrintMore Go.Proofs.YtoandmnefgimoaaDoor.Crc
def fourI (n : Nat) : List Int := [((n % 256 : Nat) : Int), ((n / 256 % 256 : Nat) : Int), ((n / 65536 % 256 : Nat) : Int), ((n / 16777216 % 256 : Nat) : Int)]
theorem fourI_length (n : Nat) : (fourI n).length = 4 := rfl
theorem fourI_b (n : Nat) : IsB (fourI n) := by
  intro x hx
  simp only [fourI, List.mem_cons, List.not_mem_nil, or_false] at hx
  omega
theorem IsB_append {l m : List Int} (hl : IsB l) (hm : IsB m) : IsB (l ++ m) := fun x hx => (List.mem_append.1 hx).elim (hl x) (hm x)
theorem IsB_cons {x : Int} {l : List Int} (h0 : 0 ≤ x) (h1 : x < 256) (hl : IsB l) : IsB (x :: l) := fun y hy => (List.mem_cons.1 hy).elim (fun e => by rw [e]; exact ⟨h0, h1⟩) (hl y)
theorem IsB_take {l : List Int} (hl : IsB l) (n : Nat) : IsB (l.take n) := fun x hx => hl x (List.mem_of_mem_take hx)
theorem IsB_drop {l : List Int} (hl : IsB l) (n : Nat) : IsB (l.drop n) := fun x hx => hl x (List.mem_of_mem_drop hx)
theorem IsB_nil : IsB [] := fun x hx => by simp at hx
def crc (l : List Int) : Nat := more 0 (nats l)
def bodyS (kind : Int) (b : List Int) : List Int := kind :: ((b.length % 256 : Nat) : Int) :: ((b.length / 256 % 256 : Nat) : Int) :: b
def sealdS (kind : Int) (b : List Int) : List Int := 167 :: (bodyS kind b ++ fourI (crc (bodyS kind b)))
def sealR (kind : Int) (b : List Int) : List Int × Int := if 4096 < b.length then ([], 6) else (sealdS kind b, 0)
theorem bodyS_length (kind : Int) (b : List Int) : (bodyS kind b).length = b.length + 3 := rfl
theorem sealdS_length (kind : Int) (b : List Int) : (sealdS kind b).length = b.length + 8 := by
  simp [sealdS, bodyS_length, fourI_length]
theorem bodyS_b {kind : Int} {b : List Int} (h0 : 0 ≤ kind) (h1 : kind < 256) (hb : IsB b) : IsB (bodyS kind b) := IsB_cons h0 h1 (IsB_cons (by omega) (by omega) (IsB_cons (by omega) (by omega) hb))
theorem sealdS_b {kind : Int} {b : List Int} (h0 : 0 ≤ kind) (h1 : kind < 256) (hb : IsB b) : IsB (sealdS kind b) := IsB_cons (by omega) (by omega) (IsB_append (bodyS_b h0 h1 hb) (fourI_b _))
def openT (t : List Int) (a : Int) : (Int × Int × List Int) × Int × Int :=
  if t.length = 0 then ((0, 0, []), 0, 3) else
  if rd t 0 ≠ 167 then ((0, 0, []), 0, 4) else
  if t.length < 4 then ((0, 0, []), 0, 3) else
  if 4096 < rd t 2 + 256 * rd t 3 then ((0, 0, []), 0, 6) else
  if (t.length : Int) < rd t 2 + 256 * rd t 3 + 8 then ((0, 0, []), 0, 3) else
  if fourI (crc ((t.drop 1).take (rd t 2 + 256 * rd t 3 + 3).toNat)) = (t.drop (rd t 2 + 256 * rd t 3 + 4).toNat).take 4 then
    ((rd t 1, a, (t.drop 4).take (rd t 2 + 256 * rd t 3).toNat), a + (rd t 2 + 256 * rd t 3) + 8, 0)
  else ((0, 0, []), 0, 5)
def openR (l : List Int) (a : Int) : (Int × Int × List Int) × Int × Int :=
  if a < 0 ∨ (l.length : Int) < a then ((0, 0, []), 0, 2) else openT (l.drop a.toNat) a
theorem rd_cons0 (x : Int) (l : List Int) : rd (x :: l) 0 = x := rfl
theorem rd_cons1 (x y : Int) (l : List Int) : rd (x :: y :: l) 1 = y := rfl
theorem rd_cons2 (x y z : Int) (l : List Int) : rd (x :: y :: z :: l) 2 = z := rfl
theorem rd_cons3 (x y z u : Int) (l : List Int) : rd (x :: y :: z :: u :: l) 3 = u := rfl
theorem open_head {kind n0 n1 : Int} {b f behind : List Int} (a : Int) (h0 : n0 = ((b.length % 256 : Nat) : Int)) (h1 : n1 = ((b.length / 256 % 256 : Nat) : Int)) (hb : b.length ≤ 4096) (hf : f.length = 4) :
    openT (167 :: kind :: n0 :: n1 :: (b ++ f ++ behind)) a = if fourI (crc (kind :: n0 :: n1 :: b)) = f then ((kind, a, b), a + b.length + 8, 0) else ((0, 0, []), 0, 5) := by
  have hn : n0 + 256 * n1 = (b.length : Int) := by omega
  have hl : (167 :: kind :: n0 :: n1 :: (b ++ f ++ behind)).length = b.length + 8 + behind.length := by simp [hf]; omega
  unfold openT
  rw [rd_cons0, rd_cons1, rd_cons2, rd_cons3, hn]
  rw [if_neg (by omega), if_neg (by simp), if_neg (by omega), if_neg (by omega), if_neg (by omega)]
  rw [show ((b.length : Int) + 3).toNat = b.length + 3 by omega, show ((b.length : Int) + 4).toNat = b.length + 4 by omega, show ((b.length : Int)).toNat = b.length by omega]
  simp only [List.drop_succ_cons, List.drop_zero, List.take_succ_cons, List.append_assoc]
  rw [List.take_append_of_le_length (Nat.le_refl _), List.take_length, List.drop_append_of_le_length (Nat.le_refl _), List.drop_length, List.nil_append, List.take_append_of_le_length (by omega), List.take_of_length_le (by omega)]
theorem open_seald {kind : Int} {b : List Int} (behind : List Int) (a : Int) (hb : b.length ≤ 4096) : openT (sealdS kind b ++ behind) a = ((kind, a, b), a + b.length + 8, 0) := by
  have h := open_head (kind := kind) (b := b) (f := fourI (crc (bodyS kind b))) (behind := behind) a rfl rfl hb rfl
  have e : fourI (crc (kind :: ((b.length % 256 : Nat) : Int) :: ((b.length / 256 % 256 : Nat) : Int) :: b)) = fourI (crc (bodyS kind b)) := rfl
  rw [if_pos e] at h
  have e2 : sealdS kind b ++ behind = 167 :: kind :: ((b.length % 256 : Nat) : Int) :: ((b.length / 256 % 256 : Nat) : Int) :: (b ++ fourI (crc (bodyS kind b)) ++ behind) := rfl
  rw [e2]
  exact h
theorem open_around {kind : Int} {b : List Int} (ahead behind : List Int) (hb : b.length ≤ 4096) : openR (ahead ++ sealdS kind b ++ behind) (ahead.length : Int) = ((kind, (ahead.length : Int), b), (ahead.length : Int) + b.length + 8, 0) := by
  unfold openR
  rw [if_neg (by simp; omega), Int.toNat_natCast, List.append_assoc, List.drop_append_of_le_length (Nat.le_refl _), List.drop_length, List.nil_append]
  exact open_seald behind _ hb
end Go.Proofs.YtoandmnefgimoaaDoor.PL
