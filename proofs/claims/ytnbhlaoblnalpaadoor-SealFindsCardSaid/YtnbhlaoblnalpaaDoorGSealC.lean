/-
  PLAIN LAW: what seal.Seal and seal.Open, and the reference's, tell.
-/
import Derived.Lib.Bytes
import Derived.Test.YtnbhlaoblnalpaaDoorGSealB
import Derived.Test.YtnbhlaoblnalpaaDoorGPEx2
import Derived.Test.YtnbhlaoblnalpaaDoorGPEx4
import Derived.Test.YtnbhlaoblnalpaaDoorGPEx3
set_option linter.unusedSimpArgs false
set_option linter.unusedVariables false
namespace Go.Proofs.YtnbhlaoblnalpaaDoor.PE
open Go.RowKit Go.Proofs.YtnbhlaoblnalpaaDoorW.PrintWords Go.Proofs.YtnbhlaoblnalpaaDoorW.PrintMore Go.Proofs.YtnbhlaoblnalpaaDoor.Crc

theorem four_int (n : Nat) : ([(n : Int) % 256, (n : Int) / 256 % 256, (n : Int) / 65536 % 256, (n : Int) / 16777216 % 256] : List Int) = fourI n := by
  simp only [fourI, List.cons.injEq, and_true]
  omega
theorem Seal_ev {kind : Int} {b : List Int} (h0 : 0 ≤ kind) (h1 : kind < 256) (hb : IsB b) : Ev (fun k => seal_Seal.f k kind b) (sealR kind b) := by
  unfold seal_Seal.f sealR
  by_cases h : 4096 < b.length
  · simp only [if_pos h, if_pos (show (b.length : Int) > 4096 by omega)]
    exact Ev.now _
  · simp only [if_neg h, if_neg (show ¬ (b.length : Int) > 4096 by omega)]
    have e1 : (kind :: ((b.length : Int) % 256) :: ((b.length : Int) / 256 % 256) :: b) = bodyS kind b := by
      simp only [bodyS, List.cons.injEq, and_true, true_and]; omega
    rw [e1]
    refine Ev.bind (Sum_ev (bodyS_b h0 h1 hb) (by rw [bodyS_length]; omega)) ?_
    rw [four_int]
    exact Ev.now _
/-! ### opening -/
def flat (x : (Int × Int × List Int) × Int × Int) : Int × Int × List Int × Int × Int := (x.1.1, x.1.2.1, x.1.2.2, x.2.1, x.2.2)
theorem wrapi_ok {x : Int} (h : -9223372036854775808 ≤ x) (h' : x ≤ 9223372036854775807) : IntKind.i64.wrap x = x := by
  simp only [IntKind.wrap, IntKind.bits, IntKind.signed]
  simp
  omega
theorem or_bytes {a b : Nat} (ha : a < 256) (hb : b < 256) : Go.bits .or .i64 (a : Int) ((b * 256 : Nat) : Int) = ((a + 256 * b : Nat) : Int) := by
  have e1 : a ||| b * 256 = a + 256 * b := by
    have := Nat.two_pow_add_eq_or_of_lt (i := 8) (b := a) (by omega) b
    rw [Nat.or_comm, Nat.mul_comm b 256, ← show 2 ^ 8 * b + a = 256 * b ||| a from this]
    omega
  have e : (BitVec.ofInt 64 (a : Int) ||| BitVec.ofInt 64 ((b * 256 : Nat) : Int)).toNat = a + 256 * b := by
    rw [BitVec.toNat_or, BitVec.ofInt_natCast, BitVec.ofInt_natCast, BitVec.toNat_ofNat, BitVec.toNat_ofNat, Nat.mod_eq_of_lt (by omega), Nat.mod_eq_of_lt (by omega), e1]
  show IntKind.i64.wrap (((BitVec.ofInt 64 (a : Int) ||| BitVec.ofInt 64 ((b * 256 : Nat) : Int)).toNat : Nat) : Int) = _
  rw [e, wrapi_ok (by omega) (by omega)]
theorem rd_b {l : List Int} (hl : IsB l) (i : Int) : 0 ≤ rd l i ∧ rd l i < 256 := by
  unfold rd
  rw [List.getD_eq_getElem?_getD]
  cases h : l[i.toNat]? with
  | none => simp
  | some x => exact hl x (List.mem_of_getElem? h)
theorem open_n {t : List Int} (ht : IsB t) : seal_Open.n t = rd t 2 + 256 * rd t 3 := by
  have h2 := rd_b ht 2
  have h3 := rd_b ht 3
  unfold seal_Open.n
  rw [wrap_ok (by omega) (by omega), wrap_ok (x := rd t 3) (by omega) (by omega), wrap_ok (by omega) (by omega)]
  obtain ⟨a, ea⟩ : ∃ a : Nat, rd t 2 = (a : Int) := ⟨(rd t 2).toNat, by omega⟩
  obtain ⟨b, eb⟩ : ∃ b : Nat, rd t 3 = (b : Int) := ⟨(rd t 3).toNat, by omega⟩
  have := or_bytes (a := a) (b := b) (by omega) (by omega)
  rw [ea, eb]
  rw [show ((b : Int) * 256) = ((b * 256 : Nat) : Int) by omega, this]
  omega
theorem take4 {t : List Int} {i : Int} (h0 : 0 ≤ i) (h : i + 4 ≤ t.length) : (t.drop i.toNat).take 4 = [rd t i, rd t (i + 1), rd t (i + 2), rd t (i + 3)] := by
  rw [rd_drop h0 (by omega), rd_drop (i := i + 1) (by omega) (by omega), rd_drop (i := i + 1 + 1) (by omega) (by omega), rd_drop (i := i + 1 + 1 + 1) (by omega) (by omega)]
  simp only [List.take_succ_cons, List.take_zero]
  rw [show i + 1 + 1 = i + 2 by omega, show i + 2 + 1 = i + 3 by omega]
theorem four_iff {s : Nat} {a b c d : Int} : fourI s = [a, b, c, d] ↔ a = (s : Int) % 256 ∧ b = (s : Int) / 256 % 256 ∧ c = (s : Int) / 65536 % 256 ∧ d = (s : Int) / 16777216 % 256 := by
  rw [← four_int]
  simp only [List.cons.injEq, and_true]
  constructor
  · rintro ⟨rfl, rfl, rfl, rfl⟩; simp
  · rintro ⟨rfl, rfl, rfl, rfl⟩; simp

theorem Open_ev {l : List Int} {a : Int} (hl : IsB l) (hn : l.length ≤ 4611686018427387904) : Ev (fun k => seal_Open.f k l a) (flat (openR l a)) := by
  unfold seal_Open.f openR
  by_cases h1 : a < 0
  · simp only [if_pos h1, if_pos (show a < 0 ∨ (l.length : Int) < a from .inl h1)]
    exact Ev.now _
  by_cases h2 : a > (l.length : Int)
  · simp only [if_neg h1, if_pos h2, if_pos (show a < 0 ∨ (l.length : Int) < a from .inr h2)]
    exact Ev.now _
  simp only [if_neg h1, if_neg h2, if_neg (show ¬ (a < 0 ∨ (l.length : Int) < a) by omega)]
  obtain ⟨t, ht⟩ : ∃ t, t = l.drop a.toNat := ⟨_, rfl⟩
  have hb : IsB t := ht ▸ IsB_drop hl _
  have htl : t.length = l.length - a.toNat := by rw [ht, List.length_drop]
  simp only [← ht, open_n hb]
  unfold openT
  by_cases h3 : t.length = 0
  · simp only [if_pos h3, if_pos (show ((t.length : Nat) : Int) = 0 by omega)]
    exact Ev.now _
  by_cases h4 : rd t 0 = 167
  case neg =>
    simp only [if_neg h3, if_neg (show ¬ ((t.length : Nat) : Int) = 0 by omega), if_neg h4, if_pos (show rd t 0 ≠ 167 from h4)]
    exact Ev.now _
  simp only [if_neg h3, if_neg (show ¬ ((t.length : Nat) : Int) = 0 by omega), if_pos h4, if_neg (show ¬ rd t 0 ≠ 167 by simpa using h4)]
  by_cases h5 : t.length < 4
  · simp only [if_pos h5, if_pos (show ((t.length : Nat) : Int) < 4 by omega)]
    exact Ev.now _
  have b2 := rd_b hb 2
  have b3 := rd_b hb 3
  obtain ⟨n, hn'⟩ : ∃ n, n = rd t 2 + 256 * rd t 3 := ⟨_, rfl⟩
  have hn0 : 0 ≤ n := by omega
  simp only [if_neg h5, if_neg (show ¬ ((t.length : Nat) : Int) < 4 by omega), ← hn']
  by_cases h6 : 4096 < n
  · simp only [if_pos h6, if_pos (show n > 4096 from h6)]
    exact Ev.now _
  simp only [if_neg h6, if_neg (show ¬ n > 4096 from h6), if_pos hn0]
  by_cases h7 : (t.length : Int) < n + 8
  · simp only [if_pos h7]
    exact Ev.now _
  simp only [if_neg h7]
  unfold seal_Open.t
  have ey : (t.take (4 + n).toNat).drop 1 = (t.drop 1).take (n + 3).toNat := by
    rw [List.drop_take, show (4 + n).toNat - 1 = (n + 3).toNat by omega]
  have hyb : IsB ((t.drop 1).take (n + 3).toNat) := IsB_take (IsB_drop hb _) _
  have hyl : ((t.drop 1).take (n + 3).toNat).length ≤ 9223372036854775807 := by rw [List.length_take, List.length_drop]; omega
  rw [ey]
  refine Ev.bind (Sum_ev hyb hyl) ?_
  have e4 := take4 (t := t) (i := n + 4) (by omega) (by omega)
  rw [e4]
  have w1 : wrap64 (a + n) = a + n := wrap_ok (by omega) (by omega)
  have w2 : wrap64 (a + n + 8) = a + n + 8 := wrap_ok (by omega) (by omega)
  rw [w1, w2, show 4 + n = n + 4 by omega, show 5 + n = n + 4 + 1 by omega, show 6 + n = n + 4 + 2 by omega, show 7 + n = n + 4 + 3 by omega]
  generalize hs : (more 0 (nats ((t.drop 1).take (n + 3).toNat)) : Nat) = s
  have hcr : crc ((t.drop 1).take (n + 3).toNat) = s := hs
  rw [hcr]
  by_cases e : fourI s = [rd t (n + 4), rd t (n + 4 + 1), rd t (n + 4 + 2), rd t (n + 4 + 3)]
  · obtain ⟨p1, p2, p3, p4⟩ := four_iff.1 e
    simp only [if_pos e, if_pos p1, if_pos p2, if_pos p3, if_pos p4]
    exact Ev.now _
  · simp only [if_neg e]
    have hne := fun h => e (four_iff.2 h)
    by_cases p1 : rd t (n + 4) = (s : Int) % 256
    · by_cases p2 : rd t (n + 4 + 1) = (s : Int) / 256 % 256
      · by_cases p3 : rd t (n + 4 + 2) = (s : Int) / 65536 % 256
        · have p4 : ¬ rd t (n + 4 + 3) = (s : Int) / 16777216 % 256 := fun p4 => hne ⟨p1, p2, p3, p4⟩
          simp only [if_pos p1, if_pos p2, if_pos p3, if_neg p4]
          exact Ev.now _
        · simp only [if_pos p1, if_pos p2, if_neg p3]
          exact Ev.now _
      · simp only [if_pos p1, if_neg p2]
        exact Ev.now _
    · simp only [if_neg p1]
      exact Ev.now _

theorem str_inj {a b : List Int} (ha : IsB a) (hb : IsB b) (h : (strOfNums a).toList = (strOfNums b).toList) : a = b := by
  rw [Go.Lib.strOfNums_toList, Go.Lib.strOfNums_toList] at h
  have h2 : a.map (fun n => UInt8.ofNat n.toNat) = b.map (fun n => UInt8.ofNat n.toNat) := h
  clear h
  induction a generalizing b with
  | nil => cases b with
    | nil => rfl
    | cons y b => simp at h2
  | cons x a ih =>
    cases b with
    | nil => simp at h2
    | cons y b =>
      simp only [List.map_cons, List.cons.injEq] at h2
      have hx := ha x (by simp)
      have hy := hb y (by simp)
      have h3 := congrArg UInt8.toNat h2.1
      simp only [UInt8.toNat_ofNat'] at h3
      rw [ih (fun z hz => ha z (by simp [hz])) (fun z hz => hb z (by simp [hz])) h2.2, show x = y by omega]
theorem rd_dropd {l : List Int} {a i : Int} (h0 : 0 ≤ a) (hi : 0 ≤ i) : rd (l.drop a.toNat) i = rd l (a + i) := by
  unfold rd
  rw [List.getD_eq_getElem?_getD, List.getD_eq_getElem?_getD, List.getElem?_drop, show a.toNat + i.toNat = (a + i).toNat by omega]
theorem cut_cut {l : List Int} {a i j : Int} (h0 : 0 ≤ a) (hi : 0 ≤ i) (hj : i ≤ j) : (l.take (a + j).toNat).drop (a + i).toNat = ((l.drop a.toNat).drop i.toNat).take (j - i).toNat := by
  rw [List.drop_drop, List.drop_take, show a.toNat + i.toNat = (a + i).toNat by omega, show (a + j).toNat - (a + i).toNat = (j - i).toNat by omega]

theorem refOpen_ev {l : List Int} {a : Int} (hl : IsB l) (hn : l.length ≤ 140737488351232) : Ev (fun k => grapevineref01_Open.f k l a) (flat (openR l a)) := by
  unfold grapevineref01_Open.f openR
  by_cases h1 : a < 0
  · simp only [if_pos h1, if_pos (show a < 0 ∨ (l.length : Int) < a from .inl h1)]
    refine Ev.done (fun k => ?_)
    simp only [grapevineref01_Open.j0, if_true]
    rfl
  by_cases h2 : a > (l.length : Int)
  · simp only [if_neg h1, if_pos (show a < 0 ∨ (l.length : Int) < a from .inr h2), decide_eq_true h2]
    refine Ev.done (fun k => ?_)
    simp only [grapevineref01_Open.j0, if_true]
    rfl
  simp only [if_neg h1, decide_eq_false h2, if_neg (show ¬ (a < 0 ∨ (l.length : Int) < a) by omega)]
  apply Ev.succ
  simp only [grapevineref01_Open.j0, Bool.false_eq_true, if_false]
  obtain ⟨t, ht⟩ : ∃ t, t = l.drop a.toNat := ⟨_, rfl⟩
  have hb : IsB t := ht ▸ IsB_drop hl _
  have htl : t.length = l.length - a.toNat := by rw [ht, List.length_drop]
  have r0 : rd t 0 = rd l a := by rw [ht, rd_dropd (by omega) (by omega), Int.add_zero]
  have r1 : rd t 1 = rd l (a + 1) := by rw [ht, rd_dropd (by omega) (by omega)]
  have r2 : rd t 2 = rd l (a + 2) := by rw [ht, rd_dropd (by omega) (by omega)]
  have r3 : rd t 3 = rd l (a + 3) := by rw [ht, rd_dropd (by omega) (by omega)]
  have b2 := rd_b hl (a + 2)
  have b3 := rd_b hl (a + 3)
  obtain ⟨n, hn'⟩ : ∃ n, n = rd l (a + 2) + 256 * rd l (a + 3) := ⟨_, rfl⟩
  have hn0 : 0 ≤ n := by omega
  have hn1 : n ≤ 65535 := by omega
  have w1 : wrap64 ((l.length : Int) - a) = (l.length : Int) - a := wrap_ok (by omega) (by omega)
  have w2 : wrap64 (a + 1) = a + 1 := wrap_ok (by omega) (by omega)
  have w3 : wrap64 (a + 2) = a + 2 := wrap_ok (by omega) (by omega)
  have w4 : wrap64 (a + 3) = a + 3 := wrap_ok (by omega) (by omega)
  have w5 : wrap64 (a + 4) = a + 4 := wrap_ok (by omega) (by omega)
  have w6 : wrap64 (a + 8) = a + 8 := wrap_ok (by omega) (by omega)
  have w7 : wrap64 (rd l (a + 2)) = rd l (a + 2) := wrap_ok (by omega) (by omega)
  have w8 : wrap64 (rd l (a + 3)) = rd l (a + 3) := wrap_ok (by omega) (by omega)
  have w9 : wrap64 (256 * rd l (a + 3)) = 256 * rd l (a + 3) := wrap_ok (by omega) (by omega)
  have w10 : wrap64 (rd l (a + 2) + 256 * rd l (a + 3)) = n := by rw [← hn']; exact wrap_ok (by omega) (by omega)
  have w11 : wrap64 (n + 8) = n + 8 := wrap_ok (by omega) (by omega)
  have w12 : wrap64 (a + 4 + n) = a + (4 + n) := by rw [wrap_ok (by omega) (by omega)]; omega
  have w13 : wrap64 (a + 8 + n) = a + (8 + n) := by rw [wrap_ok (by omega) (by omega)]; omega
  have w14 : wrap64 (a + n) = a + n := wrap_ok (by omega) (by omega)
  have w15 : wrap64 (a + n + 8) = a + n + 8 := wrap_ok (by omega) (by omega)
  simp only [w1, w2, w3, w4, w5, w6, w7, w8, w9, w10, w11, w12, w13, w14, w15, ← ht]
  clear w1 w2 w3 w4 w5 w6 w7 w8 w9 w10 w11 w12 w13 w14 w15
  unfold openT
  simp only [r0, r1, r2, r3, ← hn']
  by_cases h3 : t.length = 0
  · simp only [if_pos h3, if_pos (show a = (l.length : Int) by omega)]
    exact Ev.now _
  simp only [if_neg h3, if_neg (show ¬ a = (l.length : Int) by omega), if_pos (show 0 ≤ a by omega), if_pos (show a < (l.length : Int) by omega)]
  by_cases h4 : rd l a = 167
  case neg =>
    simp only [if_neg h4, if_pos (show rd l a ≠ 167 from h4)]
    exact Ev.now _
  simp only [if_pos h4, if_neg (show ¬ rd l a ≠ 167 by simpa using h4)]
  by_cases h5 : t.length < 4
  · simp only [if_pos h5, if_pos (show (l.length : Int) - a < 4 by omega)]
    exact Ev.now _
  simp only [if_neg h5, if_neg (show ¬ (l.length : Int) - a < 4 by omega), if_pos (show 0 ≤ a + 2 by omega), if_pos (show a + 2 < (l.length : Int) by omega), if_pos (show 0 ≤ a + 3 by omega), if_pos (show a + 3 < (l.length : Int) by omega)]
  by_cases h6 : 4096 < n
  · simp only [if_pos h6, if_pos (show n > 4096 from h6)]
    exact Ev.now _
  simp only [if_neg h6, if_neg (show ¬ n > 4096 from h6)]
  by_cases h7 : (t.length : Int) < n + 8
  · simp only [if_pos h7, if_pos (show (l.length : Int) - a < n + 8 by omega)]
    exact Ev.now _
  simp only [if_neg h7, if_neg (show ¬ (l.length : Int) - a < n + 8 by omega), if_pos (show 0 ≤ a + 1 by omega), if_pos (show a + 1 ≤ a + (4 + n) by omega), if_pos (show a + (4 + n) ≤ (l.length : Int) by omega), if_pos (show 0 ≤ a + (4 + n) by omega), if_pos (show a + (4 + n) ≤ a + (8 + n) by omega), if_pos (show a + (8 + n) ≤ (l.length : Int) by omega), if_pos (show a + 1 < (l.length : Int) by omega), if_pos (show 0 ≤ a + 4 by omega), if_pos (show a + 4 ≤ a + (4 + n) by omega), Option.bind_some, List.nil_append, List.length_nil, Nat.zero_add]
  have ey : (l.take (a + (4 + n)).toNat).drop (a + 1).toNat = (t.drop 1).take (n + 3).toNat := by
    rw [cut_cut (by omega) (by omega) (by omega), ← ht, show (4 + n - 1 : Int) = n + 3 by omega]
    rfl
  have ez : (l.take (a + (8 + n)).toNat).drop (a + (4 + n)).toNat = (t.drop (n + 4).toNat).take 4 := by
    rw [cut_cut (by omega) (by omega) (by omega), ← ht, show (8 + n - (4 + n) : Int) = 4 by omega, show 4 + n = n + 4 by omega]
    rfl
  have ew : (l.take (a + (4 + n)).toNat).drop (a + 4).toNat = (t.drop 4).take n.toNat := by
    rw [cut_cut (by omega) (by omega) (by omega), ← ht, show (4 + n - 4 : Int) = n by omega]
    rfl
  rw [ey, ez, ew]
  have hyb : IsB ((t.drop 1).take (n + 3).toNat) := IsB_take (IsB_drop hb _) _
  have hyl : ((t.drop 1).take (n + 3).toNat).length ≤ 9223372036854775807 := by rw [List.length_take, List.length_drop]; omega
  have hwl : ((t.drop 4).take n.toNat).length < 140737488355328 := by rw [List.length_take, List.length_drop]; omega
  refine Ev.bind (refSum_ev hyb hyl) ?_
  have hc := crc_lt hyb
  have e4 : grapevineref01_Four.f ((more 0 (nats ((t.drop 1).take (n + 3).toNat)) : Nat) : Int) = some (fourI (crc ((t.drop 1).take (n + 3).toNat))) := Four_eq hc
  simp only [e4, Option.bind_some, if_pos hwl]
  have hzb : IsB ((t.drop (n + 4).toNat).take 4) := IsB_take (IsB_drop hb _) _
  by_cases e : fourI (crc ((t.drop 1).take (n + 3).toNat)) = (t.drop (n + 4).toNat).take 4
  · simp only [e, if_true]
    exact Ev.now _
  · simp only [if_neg e, if_neg (show ¬ (strOfNums (fourI (crc ((t.drop 1).take (n + 3).toNat)))).toList = (strOfNums ((t.drop (n + 4).toNat).take 4)).toList from fun h => e (str_inj (fourI_b _) hzb h))]
    exact Ev.now _
theorem lives_ev : Ev (fun k => grapevinelaw01_lives.f k) true := by
  unfold grapevinelaw01_lives.f
  have hb : IsB [97, 98] := by intro x hx; simp at hx; omega
  have e1 : sealR 5 [97, 98] = (sealdS 5 [97, 98], 0) := rfl
  have h1 := Seal_ev (kind := 5) (b := [97, 98]) (by omega) (by omega) hb
  rw [e1] at h1
  refine Ev.bind h1 ?_
  have hs := sealdS_b (kind := 5) (b := [97, 98]) (by omega) (by omega) hb
  have h2 := Open_ev (l := sealdS 5 [97, 98]) (a := 0) hs (by rw [sealdS_length]; decide)
  have h3 := open_around (kind := 5) (b := [97, 98]) [] [] (by decide)
  simp only [List.nil_append, List.append_nil, List.length_nil] at h3
  rw [show openR (sealdS 5 [97, 98]) 0 = ((5, 0, [97, 98]), 10, 0) from h3] at h2
  refine Ev.bind h2 ?_
  simp only [flat]
  exact Ev.now _
end Go.Proofs.YtnbhlaoblnalpaaDoor.PE
