/- Rotations, bits, the exclusive or, joining: plain lists and numbers. Lemmas only; no condition. -/
import Derived.Test.YthjplefmfjkhfaaDoorCsWords0
set_option linter.all false
set_option linter.unusedVariables false
namespace Go.Cs
open Go Go.RowKit

/-- A rotated number. -/
def rotl (v s : Nat) : Nat := v * 2 ^ s % 2 ^ 32 ||| v / 2 ^ (32 - s)
def rot (v : Nat) (n : Int) : Nat := rotl v (n % 32).toNat

theorem and31 (k : Int) : ((k % 18446744073709551616).toNat &&& 31) = (k % 32).toNat := by
  rw [show 31 = 2 ^ 5 - 1 from rfl, Nat.and_two_pow_sub_one_eq_mod]
  omega
theorem wrap_u64_int (k : Int) : IntKind.u64.wrap k = (((k % 18446744073709551616).toNat : Nat) : Int) := by
  simp [IntKind.wrap, IntKind.signed, IntKind.bits]
  omega
theorem tmod32 (n : Int) : -31 ≤ n.tmod 32 ∧ n.tmod 32 ≤ 31 ∧ (n.tmod 32) % 32 = n % 32 := by
  have h := Int.tmod_add_mul_tdiv n 32
  have h1 := Int.tmod_lt_of_pos n (b := 32) (by omega)
  have h2 : -32 < n.tmod 32 := Int.lt_tmod_of_pos n (by omega)
  omega

/-- The first m bits, the most significant one first. -/
def bitsTo (v m : Nat) : List Nat := (List.range m).map fun j => v / 2 ^ (31 - j) % 2
@[simp] theorem bitsTo_length (v m : Nat) : (bitsTo v m).length = m := by simp [bitsTo]
theorem bitsTo_succ (v m : Nat) : bitsTo v (m + 1) = bitsTo v m ++ [v / 2 ^ (31 - m) % 2] := by simp [bitsTo, List.range_succ]
def bnum (l : List Nat) : Nat := l.foldl (fun v b => 2 * v + b) 0
theorem bnum_snoc (l : List Nat) (b : Nat) : bnum (l ++ [b]) = 2 * bnum l + b := by simp [bnum]
theorem bnum_take {l : List Nat} {i : Nat} (h : i < l.length) : bnum (l.take (i + 1)) = 2 * bnum (l.take i) + gt l i := by
  rw [List.take_succ_eq_append_getElem h, bnum_snoc]
  simp [gt, List.getD, h]
theorem bnum_lt {l : List Nat} (h : ∀ i, gt l i < 2) : ∀ i, i ≤ l.length → bnum (l.take i) < 2 ^ i := by
  intro i
  induction i with
  | zero => intro _; simp [bnum]
  | succ i ih =>
    intro hi
    rw [bnum_take (by omega)]
    have h1 := ih (by omega)
    have h2 := h i
    rw [Nat.pow_succ]
    omega
theorem bnum_lt32 {l : List Nat} (h : ∀ i, gt l i < 2) (hl : l.length ≤ 32) {i : Nat} (hi : i < l.length) : 2 * bnum (l.take i) + gt l i < 2 ^ 32 := by
  have h1 := bnum_lt h (i + 1) (by omega)
  rw [bnum_take hi] at h1
  exact Nat.lt_of_lt_of_le h1 (Nat.pow_le_pow_right (by omega) (by omega))

theorem bitsTo_lt (v m i : Nat) : gt (bitsTo v m) i < 2 := by
  unfold gt bitsTo
  by_cases h : i < m
  · simp [List.getD, h]; omega
  · simp [List.getD, h]
theorem gt_mem {l : List Nat} (h : ∀ x ∈ l, x < 2) (i : Nat) : gt l i < 2 := by
  unfold gt
  by_cases hi : i < l.length
  · simp only [List.getD, List.getElem?_eq_getElem hi, Option.getD_some]; exact h _ (List.getElem_mem hi)
  · simp [List.getD, List.getElem?_eq_none (show l.length ≤ i by omega)]
theorem bitsTo_mem (v m : Nat) : ∀ x ∈ bitsTo v m, x < 2 := by
  intro x hx
  simp only [bitsTo, List.mem_map] at hx
  obtain ⟨j, _, rfl⟩ := hx
  omega
theorem rot_bits (v k : Nat) (r : Nat) : ∀ i, gt (([] ++ (((bitsTo v 32).drop k).take (32 - k))) ++ (((bitsTo v 32).drop 0).take (k - r))) i < 2 := by
  refine gt_mem ?_
  intro x hx
  simp only [List.nil_append, List.mem_append] at hx
  rcases hx with hx | hx <;> exact bitsTo_mem v 32 x (List.mem_of_mem_drop (List.mem_of_mem_take hx))

/-- Byte by byte. -/
def xorl (a b : List UInt8) : List UInt8 := List.zipWith (· ^^^ ·) a b
theorem xorl_length {a b : List UInt8} (h : b.length = a.length) : (xorl a b).length = a.length := by simp [xorl, h]
theorem xorl_get {a b : List UInt8} (h : b.length = a.length) {i : Nat} (hi : i < a.length) : (xorl a b)[i]? = some (UInt8.ofNat (byt a i ^^^ byt b i)) := by
  have h2 : i < b.length := by omega
  simp only [xorl]
  rw [List.getElem?_zipWith]
  simp [hi, h2, byt_eq]
theorem xor_lt256 (x y : Nat) (hx : x < 256) (hy : y < 256) : x ^^^ y < 256 := Nat.xor_lt_two_pow (n := 8) hx hy

theorem xor_bit (x y s : Nat) : (x ^^^ y) / 2 ^ s % 2 = (x / 2 ^ s + y / 2 ^ s) % 2 := by
  have h := Nat.testBit_xor x y s
  simp only [Nat.testBit_eq_decide_div_mod_eq] at h
  have h1 : (x ^^^ y) / 2 ^ s % 2 < 2 := Nat.mod_lt _ (by omega)
  by_cases hx : x / 2 ^ s % 2 = 1 <;> by_cases hy : y / 2 ^ s % 2 = 1 <;> simp [hx, hy] at h <;> omega

/-- The top t bits of the exclusive or of two bytes. -/
theorem xor_top (x y t : Nat) (ht : t < 8) : (x ^^^ y) / 2 ^ (8 - (t + 1)) = 2 * ((x ^^^ y) / 2 ^ (8 - t)) + (x / (128 / 2 ^ t) + y / (128 / 2 ^ t)) % 2 := by
  have h1 : 128 / 2 ^ t = 2 ^ (7 - t) := by
    rw [show 128 = 2 ^ 7 from rfl, Nat.pow_div (by omega) (by omega)]
  have h2 : 8 - (t + 1) = 7 - t := by omega
  have h3 : 8 - t = (7 - t) + 1 := by omega
  rw [h1, h2, h3, Nat.pow_succ, ← Nat.div_div_eq_div_mul, ← xor_bit]
  omega

/-- The bytes of all parts. -/
def sumLen (ls : List (List UInt8)) : Nat := (ls.map List.length).sum
theorem sumLen_take {ls : List (List UInt8)} {i : Nat} (h : i < ls.length) : sumLen (ls.take (i + 1)) = sumLen (ls.take i) + (ls.getD i []).length := by
  unfold sumLen
  rw [List.take_succ_eq_append_getElem h, List.map_append, List.sum_append]
  simp [List.getD, h]
theorem sumLen_flatten (ls : List (List UInt8)) : ls.flatten.length = sumLen ls := by simp [sumLen, List.length_flatten]
theorem sumLen_le (ls : List (List UInt8)) (i : Nat) : sumLen (ls.take i) ≤ sumLen ls := by
  have h2 : sumLen (ls.take i ++ ls.drop i) = sumLen (ls.take i) + sumLen (ls.drop i) := by
    unfold sumLen
    rw [List.map_append, List.sum_append]
  rw [List.take_append_drop] at h2
  omega
theorem flatten_take {ls : List (List UInt8)} {i : Nat} (h : i < ls.length) : (ls.take (i + 1)).flatten = (ls.take i).flatten ++ ls.getD i [] := by
  rw [List.take_succ_eq_append_getElem h, List.flatten_append]
  simp [List.getD, h]

/-- One part laid behind the others. -/
theorem join_step (pre p : List UInt8) (n at_ : Nat) (hat : at_ = pre.length) (hn : at_ + p.length ≤ n) :
    setFrom (u8s (pre ++ List.replicate (n - at_) 0)) at_ ((p.take p.length).map u8v) = u8s ((pre ++ p) ++ List.replicate (n - (at_ + p.length)) 0) := by
  subst hat
  rw [setFrom_eq _ _ _ (by simp; omega)]
  simp only [u8s_append, List.take_length, List.length_map]
  have h1 : (u8s pre ++ u8s (List.replicate (n - pre.length) 0)).take pre.length = u8s pre := by
    rw [List.take_append_of_le_length (by simp), List.take_of_length_le (by simp)]
  have h2 : (u8s pre ++ u8s (List.replicate (n - pre.length) 0)).drop (pre.length + p.length) = u8s (List.replicate (n - (pre.length + p.length)) 0) := by
    rw [List.drop_append, List.drop_eq_nil_of_le (by simp), List.nil_append, u8s_drop]
    simp
    rw [Nat.sub_sub]
  rw [h1, h2]
  simp [u8s, u8v, List.append_assoc]

theorem xorl_eq {a b : List UInt8} (h : b.length = a.length) : xorl a b = (List.range a.length).map fun j => UInt8.ofNat (byt a j ^^^ byt b j) := by
  apply List.ext_getElem?
  intro i
  by_cases hi : i < a.length
  · rw [xorl_get h hi]; simp [hi]
  · rw [List.getElem?_eq_none (by rw [xorl_length h]; omega), List.getElem?_eq_none (by simp; omega)]
theorem xorl_snoc {a b : List UInt8} {i : Nat} (h : b.length = a.length) (hi : i < a.length) : (xorl a b).take i ++ [UInt8.ofNat (byt a i ^^^ byt b i)] = (xorl a b).take (i + 1) := by
  have h1 := xorl_get h hi
  have h2 : i < (xorl a b).length := by rw [xorl_length h]; exact hi
  rw [List.take_succ_eq_append_getElem h2]
  rw [List.getElem?_eq_getElem h2] at h1
  simp only [Option.some.injEq] at h1
  rw [h1]
theorem xor_start (a b : List UInt8) (i : Nat) : (byt a i ^^^ byt b i) / 2 ^ (8 - 0) = 0 := by
  have := xor_lt256 (byt a i) (byt b i) (byt_lt _ _) (byt_lt _ _)
  omega
theorem pow_pos_lt {t : Nat} (h : 0 < 128 / 2 ^ t) : t < 8 := by
  by_cases h8 : t < 8
  · exact h8
  · have h1 : 2 ^ 8 ≤ 2 ^ t := Nat.pow_le_pow_right (by omega) (by omega)
    have h2 : 128 / 2 ^ t = 0 := Nat.div_eq_of_lt (by omega)
    omega
theorem pow_zero_eq {t : Nat} (ht : t ≤ 8) (h : ¬ 0 < 128 / 2 ^ t) : t = 8 := by
  by_cases h8 : t = 8
  · exact h8
  · exfalso
    apply h
    have h1 : 2 ^ t ≤ 2 ^ 7 := Nat.pow_le_pow_right (by omega) (by omega)
    exact Nat.div_pos (by omega) (Nat.two_pow_pos t)
theorem xor_top_lt (x y t : Nat) (hx : x < 256) (hy : y < 256) : (x ^^^ y) / 2 ^ (8 - t) < 256 :=
  Nat.lt_of_le_of_lt (Nat.div_le_self _ _) (xor_lt256 x y hx hy)
theorem u8s_sing {n : Nat} (h : n < 256) : [Value.int .u8 (n : Int)] = u8s [UInt8.ofNat n] := by
  simp [u8s]
  omega
end Go.Cs
