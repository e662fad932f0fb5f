/- When bytes are those of a record, an entry, a cell; their sum. Plain laws; no condition beyond those of each statement. -/
import Derived.Test.YthjplefmfjkhfaaDoorCsRecs
set_option linter.all false
set_option linter.unusedVariables false
namespace Go.Cs
open Go

def lenE (n m : Nat) : Nat := if n < m then 6 else if n > m then 5 else 0
theorem lenE_lt {n m : Nat} (h : n < m) : lenE n m = 6 := if_pos h
theorem lenE_gt {n m : Nat} (h : m < n) : lenE n m = 5 := by unfold lenE; rw [if_neg (by omega), if_pos h]
theorem lenE_eq {n m : Nat} (h : n = m) : lenE n m = 0 := by unfold lenE; rw [if_neg (by omega), if_neg (by omega)]
/-- The sum of the t bytes behind the first. -/
def sumB (l : List UInt8) (t : Nat) : Nat := (((l.drop 1).take t).map UInt8.toNat).sum

theorem sumB_step {l : List UInt8} {t : Nat} (h : t + 1 < l.length) : sumB l (t + 1) = sumB l t + byt l (t + 1) := by
  have h1 : t < (l.drop 1).length := by simp; omega
  rw [sumB, List.take_succ_eq_append_getElem h1, List.map_append, List.sum_append, sumB]
  simp [byt, List.getD, h, Nat.add_comm]
theorem sum_le (l : List UInt8) : (l.map UInt8.toNat).sum ≤ 255 * l.length := by
  induction l with
  | nil => simp
  | cons a l ih => have := a.toNat_lt; simp only [List.map_cons, List.sum_cons, List.length_cons]; omega
theorem sumB_le (l : List UInt8) (t : Nat) : sumB l t ≤ 255 * t := by
  refine Nat.le_trans (sum_le _) ?_
  have : ((l.drop 1).take t).length ≤ t := by simp; omega
  omega
theorem sum_zero {l : List UInt8} (h : (l.map UInt8.toNat).sum = 0) : l = List.replicate l.length 0 := by
  induction l with
  | nil => rfl
  | cons a l ih =>
    simp only [List.map_cons, List.sum_cons] at h
    have ha : a = 0 := UInt8.toNat_inj.1 (by simp; omega)
    rw [List.length_cons, List.replicate_succ, ← ih (by omega), ha]
theorem zero_sum (n : Nat) : ((List.replicate n (0 : UInt8)).map UInt8.toNat).sum = 0 := by
  induction n with
  | zero => rfl
  | succ n ih => simp [List.replicate_succ]
theorem all_zero {l : List UInt8} {n : Nat} (hl : l.length = n + 1) (h0 : byt l 0 = 0) (hs : sumB l n = 0) : l = List.replicate (n + 1) 0 := by
  cases l with
  | nil => simp at hl
  | cons a r =>
    have hr : r.length = n := by simpa using hl
    simp only [sumB, List.drop_succ_cons, List.drop_zero] at hs
    rw [List.take_of_length_le (by omega)] at hs
    have := sum_zero hs
    have ha : a = 0 := UInt8.toNat_inj.1 (by simpa [byt] using h0)
    rw [List.replicate_succ, ← hr, ← this, ha]
theorem sumB_zero (n t : Nat) : sumB (List.replicate n 0) t = 0 := by
  rw [sumB, List.drop_replicate, List.take_replicate]; exact zero_sum _

theorem sing_byt {l : List UInt8} (h : 0 < l.length) : [UInt8.ofNat (byt l 0)] = l.take 1 := by
  cases l with
  | nil => simp at h
  | cons a r => simp [byt]
theorem be_getV' {l : List UInt8} {n : Nat} (h : l.length = n) : be (getV l n) n = l := be_getV (getE_eq h)
theorem nonB_of {l : List UInt8} (h : l.length = 12) : nonB (Non.of l) = l := by
  show be (getV (l.take 4) 4) 4 ++ be (getV (l.drop 4) 8) 8 = l
  rw [be_getV' (by simp; omega), be_getV' (by simp; omega), List.take_append_drop]
theorem recB_of {l : List UInt8} (h : l.length = 45) : recB (Rec.of l) = l := by
  show [UInt8.ofNat (byt l 0)] ++ nonB (Non.of ((l.drop 1).take 12)) ++ (Dig.of ((l.drop 13).take 32)).l = l
  rw [sing_byt (by omega), nonB_of (by simp; omega), Dig.of_l (by simp; omega), List.take_of_length_le (l := l.drop 13) (by simp; omega), List.append_assoc, show l.drop 13 = (l.drop 1).drop 12 by rw [List.drop_drop], List.take_append_drop, List.take_append_drop]
theorem entB_of {l : List UInt8} (h : l.length = 33) : entB (Ent.of l) = l := by
  show [UInt8.ofNat (byt l 0)] ++ (Dig.of ((l.drop 1).take 32)).l = l
  rw [sing_byt (by omega), Dig.of_l (by simp; omega), List.take_of_length_le (l := l.drop 1) (by simp; omega), List.take_append_drop]
theorem celB_of {l : List UInt8} (h : l.length = 48) : celB (Cel.of l) = l := by
  show (Dig.of (l.take 32)).l ++ be (getV ((l.drop 32).take 8) 8) 8 ++ be (getV ((l.drop 40).take 8) 8) 8 = l
  rw [Dig.of_l (by simp; omega), be_getV' (by simp; omega), be_getV' (by simp; omega), List.take_of_length_le (l := l.drop 40) (by simp; omega), List.append_assoc, show l.drop 40 = (l.drop 32).drop 8 by rw [List.drop_drop], List.take_append_drop, List.take_append_drop]

theorem chkR_eq (l : List UInt8) : chkR (Rec.of l) = if 2 < byt l 0 then 1 else if byt l 0 = 0 then (if (Rec.of l).eqb Rec.zero = true then 0 else 1) else 0 := rfl
theorem chkE_eq (l : List UInt8) : chkE (Ent.of l) = if 2 < byt l 0 then 1 else if byt l 0 = 0 then (if (Ent.of l).eqb Ent.zero = true then 0 else 1) else 0 := rfl
theorem chkR_big {l : List UInt8} (h : byt l 0 > 2) : chkR (Rec.of l) = 1 := by unfold chkR; exact if_pos h
theorem chkE_big {l : List UInt8} (h : byt l 0 > 2) : chkE (Ent.of l) = 1 := by unfold chkE; exact if_pos h
theorem chkR_st {l : List UInt8} (h : ¬ byt l 0 > 2) (h0 : ¬ byt l 0 = 0) : chkR (Rec.of l) = 0 := by rw [chkR_eq, if_neg (show ¬ 2 < byt l 0 from h), if_neg h0]
theorem chkE_st {l : List UInt8} (h : ¬ byt l 0 > 2) (h0 : ¬ byt l 0 = 0) : chkE (Ent.of l) = 0 := by rw [chkE_eq, if_neg (show ¬ 2 < byt l 0 from h), if_neg h0]
theorem chkR_pos {l : List UInt8} (hl : l.length = 45) (h0 : byt l 0 = 0) (hs : sumB l 44 > 0) : chkR (Rec.of l) = 1 := by
  rw [chkR_eq, if_neg (show ¬ 2 < byt l 0 by omega), if_pos h0, if_neg]
  intro he
  have := (Rec.eqb_iff _ _).1 he
  have h2 := recB_of hl
  rw [this] at h2
  rw [← h2, show recB Rec.zero = List.replicate 45 0 by decide, sumB_zero] at hs
  omega
theorem chkE_pos {l : List UInt8} (hl : l.length = 33) (h0 : byt l 0 = 0) (hs : sumB l 32 > 0) : chkE (Ent.of l) = 1 := by
  rw [chkE_eq, if_neg (show ¬ 2 < byt l 0 by omega), if_pos h0, if_neg]
  intro he
  have := (Ent.eqb_iff _ _).1 he
  have h2 := entB_of hl
  rw [this] at h2
  rw [← h2, show entB Ent.zero = List.replicate 33 0 by decide, sumB_zero] at hs
  omega
theorem chkR_zero {l : List UInt8} (hl : l.length = 45) (h0 : byt l 0 = 0) (hs : ¬ sumB l 44 > 0) : chkR (Rec.of l) = 0 := by
  rw [all_zero (n := 44) hl h0 (by omega)]; decide
theorem chkE_zero {l : List UInt8} (hl : l.length = 33) (h0 : byt l 0 = 0) (hs : ¬ sumB l 32 > 0) : chkE (Ent.of l) = 0 := by
  rw [all_zero (n := 32) hl h0 (by omega)]; decide
theorem u8s_set (l : List UInt8) (i n : Nat) (h : n < 256) : setFrom (u8s l) i [.int .u8 ((n : Nat) : Int)] = u8s (l.set i (UInt8.ofNat n)) := by
  simp [setFrom, u8s, List.map_set, Nat.mod_eq_of_lt h]

end Go.Cs
