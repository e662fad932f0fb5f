/- The laws of numbers as bytes, of rotations, of the exclusive or: plain lists. Lemmas only; no condition. -/
import Derived.Test.YthjplefmfjkhfaaDoorCsWords1
set_option linter.all false
set_option linter.unusedVariables false
namespace Go.Cs
open Go Go.RowKit

theorem be_succ (v n : Nat) : be v (n + 1) = be (v / 256) n ++ [UInt8.ofNat v] := by
  unfold be
  rw [List.range_succ, List.map_append]
  congr 1
  · apply List.map_congr_left
    intro j hj
    simp only [List.mem_range] at hj
    rw [Nat.div_div_eq_div_mul, show n + 1 - 1 - j = (n - 1 - j) + 1 by omega, Nat.pow_succ, Nat.mul_comm]
  · simp
theorem numB_be : ∀ (n v : Nat), v < 256 ^ n → numB (be v n) = v := by
  intro n
  induction n with
  | zero => intro v h; simp at h; subst h; rfl
  | succ n ih =>
    intro v h
    rw [be_succ, numB_snoc, ih _ (by rw [Nat.pow_succ] at h; omega)]
    simp
    omega
theorem getV_be8 {v : Nat} (h : v < 2 ^ 64) : getV (be v 8) 8 = v := by
  rw [getV_eq (be_length v 8), numB_be 8 v (by simpa using h)]
theorem getV_be4 {v : Nat} (h : v < 2 ^ 32) : getV (be v 4) 4 = v := by
  rw [getV_eq (be_length v 4), numB_be 4 v (by simpa using h)]
theorem getE_be (v n : Nat) : getE (be v n) n = 0 := getE_eq (be_length v n)
theorem be_num : ∀ (l : List UInt8), be (numB l) l.length = l := by
  intro l
  have key : ∀ (n : Nat) (l : List UInt8), l.length = n → be (numB l) n = l := by
    intro n
    induction n with
    | zero => intro l h; rw [List.eq_nil_of_length_eq_zero h]; rfl
    | succ n ih =>
      intro l h
      have hne : l ≠ [] := by intro e; subst e; simp at h
      obtain ⟨m, c, rfl⟩ : ∃ m c, l = m ++ [c] := ⟨l.dropLast, l.getLast hne, (List.dropLast_concat_getLast hne).symm⟩
      rw [numB_snoc, be_succ]
      have hc := c.toNat_lt
      have h1 : (numB m * 256 + c.toNat) / 256 = numB m := by omega
      rw [h1, ih m (by simpa using h)]
      congr 2
      apply UInt8.toNat_inj.1
      simp
  exact key _ l rfl
theorem be_getV {l : List UInt8} {n : Nat} (h : getE l n = 0) : be (getV l n) n = l := by
  have h1 := getE_zero h
  rw [getV_eq h1, ← h1, be_num]
theorem be_inj {v w n : Nat} (hv : v < 256 ^ n) (hw : w < 256 ^ n) : (be v n = be w n) ↔ v = w := by
  constructor
  · intro h
    rw [← numB_be n v hv, ← numB_be n w hw, h]
  · rintro rfl; rfl
theorem bytesLess_snoc : ∀ (a b : List UInt8) (c d : UInt8), a.length = b.length → Op.bytesLess (a ++ [c]) (b ++ [d]) = (Op.bytesLess a b || (a == b && decide (c < d)))
  | [], [], c, d, _ => by simp [Op.bytesLess]
  | x :: a, y :: b, c, d, h => by
    have ih := bytesLess_snoc a b c d (by simpa using h)
    simp only [List.cons_append, Op.bytesLess, ih, List.cons_beq_cons]
    have key : ∀ p q r s t : Bool, (p || q && (r || s && t)) = (p || q && r || q && s && t) := by decide
    exact key _ _ _ _ _
theorem less_be : ∀ (n v w : Nat), v < 256 ^ n → w < 256 ^ n → Op.bytesLess (be v n) (be w n) = decide (v < w) := by
  intro n
  induction n with
  | zero => intro v w hv hw; simp at hv hw; subst hv; subst hw; rfl
  | succ n ih =>
    intro v w hv hw
    rw [Nat.pow_succ] at hv hw
    rw [be_succ, be_succ, bytesLess_snoc _ _ _ _ (by simp), ih _ _ (by omega) (by omega)]
    have hi := be_inj (v := v / 256) (w := w / 256) (n := n) (by omega) (by omega)
    have hb : (be (v / 256) n == be (w / 256) n) = decide (v / 256 = w / 256) := by
      rw [Bool.eq_iff_iff]; simp [hi]
    rw [hb]
    rw [Bool.eq_iff_iff]
    simp only [Bool.or_eq_true, decide_eq_true_eq, Bool.and_eq_true, UInt8.lt_iff_toNat_lt, UInt8.toNat_ofNat']
    omega
theorem be_append (a m : Nat) : ∀ (n b : Nat), b < 256 ^ n → be a m ++ be b n = be (a * 256 ^ n + b) (m + n) := by
  intro n
  induction n with
  | zero => intro b hb; simp at hb; subst hb; simp [be]
  | succ n ih =>
    intro b hb
    rw [Nat.pow_succ] at hb
    rw [be_succ, ← Nat.add_assoc, be_succ, ← List.append_assoc, ih _ (by omega)]
    have e : a * 256 ^ (n + 1) = a * 256 ^ n * 256 := by rw [Nat.pow_succ, ← Nat.mul_assoc]
    have h1 : (a * 256 ^ (n + 1) + b) / 256 = a * 256 ^ n + b / 256 := by omega
    rw [h1]
    congr 2
    apply UInt8.toNat_inj.1
    simp only [UInt8.toNat_ofNat']
    omega
theorem be_halves (v : Nat) : be (v / 2 ^ 32) 4 ++ be (v % 2 ^ 32) 4 = be v 8 := by
  rw [be_append _ _ 4 (v % 2 ^ 32) (by have := Nat.mod_lt v (show 2 ^ 32 > 0 by decide); omega)]
  congr 1
  omega

theorem rotl_lt {v k : Nat} (hv : v < 2 ^ 32) : rotl v k < 2 ^ 32 :=
  Nat.or_lt_two_pow (Nat.mod_lt _ (by decide)) (Nat.lt_of_le_of_lt (Nat.div_le_self _ _) hv)
theorem rot_lt {v : Nat} {n : Int} (hv : v < 2 ^ 32) : rot v n < 2 ^ 32 := rotl_lt hv
theorem testBit_rotl {v k i : Nat} (hv : v < 2 ^ 32) (hk : k < 32) : (rotl v k).testBit i = (decide (i < 32) && v.testBit ((i + 32 - k) % 32)) := by
  unfold rotl
  rw [Nat.testBit_or, Nat.testBit_mod_two_pow, Nat.testBit_mul_two_pow, Nat.testBit_div_two_pow]
  by_cases hi : i < 32
  · by_cases hki : k ≤ i
    · have h1 : v.testBit (i + (32 - k)) = false := Nat.testBit_lt_two_pow (Nat.lt_of_lt_of_le hv (Nat.pow_le_pow_right (by omega) (by omega)))
      have h2 : (i + 32 - k) % 32 = i - k := by omega
      simp [hi, hki, h1, h2]
    · have h2 : (i + 32 - k) % 32 = i + (32 - k) := by omega
      simp [hi, hki, h2]
  · have h1 : v.testBit (i + (32 - k)) = false := Nat.testBit_lt_two_pow (Nat.lt_of_lt_of_le hv (Nat.pow_le_pow_right (by omega) (by omega)))
    simp [hi, h1]
theorem testBit_rot {v i : Nat} {n : Int} (hv : v < 2 ^ 32) : (rot v n).testBit i = (decide (i < 32) && v.testBit ((i + 32 - (n % 32).toNat) % 32)) :=
  testBit_rotl hv (by omega)
theorem rot_rot {v : Nat} (m n : Int) (hv : v < 2 ^ 32) : rot (rot v m) n = rot v (m + n) := by
  apply Nat.eq_of_testBit_eq
  intro i
  rw [testBit_rot (rot_lt hv), testBit_rot hv, testBit_rot hv]
  by_cases hi : i < 32
  · have h1 : (i + 32 - (n % 32).toNat) % 32 < 32 := Nat.mod_lt _ (by decide)
    have h2 : ((i + 32 - (n % 32).toNat) % 32 + 32 - (m % 32).toNat) % 32 = (i + 32 - ((m + n) % 32).toNat) % 32 := by omega
    simp [hi, h1, h2]
  · simp [hi]
theorem rot_zero {v : Nat} {n : Int} (hn : n % 32 = 0) (hv : v < 2 ^ 32) : rot v n = v := by
  apply Nat.eq_of_testBit_eq
  intro i
  rw [testBit_rot hv]
  by_cases hi : i < 32
  · have h2 : (i + 32 - (n % 32).toNat) % 32 = i := by omega
    simp [hi, h2]
  · have h1 : v.testBit i = false := Nat.testBit_lt_two_pow (Nat.lt_of_lt_of_le hv (Nat.pow_le_pow_right (by omega) (by omega)))
    simp [hi, h1]

theorem bnum_append (a : List Nat) : ∀ (b : List Nat), bnum (a ++ b) = bnum a * 2 ^ b.length + bnum b := by
  intro b
  have h : ∀ (b : List Nat) (x : Nat), b.foldl (fun v c => 2 * v + c) x = x * 2 ^ b.length + bnum b := by
    intro b
    induction b with
    | nil => intro x; simp [bnum]
    | cons c b ih =>
      intro x
      have h1 := ih (2 * x + c)
      have h2 := ih (2 * 0 + c)
      have h3 : bnum (c :: b) = b.foldl (fun v c => 2 * v + c) (2 * 0 + c) := rfl
      rw [List.foldl_cons, h1, h3, h2, List.length_cons, Nat.pow_succ]
      rw [Nat.add_mul, Nat.mul_comm 2 x, Nat.mul_assoc, Nat.mul_comm 2 (2 ^ b.length)]
      simp [Nat.add_assoc]
  unfold bnum
  rw [List.foldl_append, h]
  rfl
theorem bnum_bitsTo (v : Nat) (hv : v < 2 ^ 32) : ∀ m, m ≤ 32 → bnum (bitsTo v m) = v / 2 ^ (32 - m) := by
  intro m
  induction m with
  | zero => intro _; rw [Nat.sub_zero, Nat.div_eq_of_lt hv]; rfl
  | succ m ih =>
    intro hm
    rw [bitsTo_succ, bnum_snoc, ih (by omega)]
    have h1 : 32 - m = (31 - m) + 1 := by omega
    have h2 : 32 - (m + 1) = 31 - m := by omega
    rw [h1, h2, Nat.pow_succ, ← Nat.div_div_eq_div_mul]
    omega
theorem bitsTo_take (v m k : Nat) (h : k ≤ m) : (bitsTo v m).take k = bitsTo v k := by
  unfold bitsTo
  rw [← List.map_take, List.take_range, Nat.min_eq_left h]
/-- The reference's rotation is the program's. -/
theorem rot_ref {v : Nat} {n : Int} (hv : v < 2 ^ 32) : bnum ((bitsTo v 32).drop (n % 32).toNat ++ (bitsTo v 32).take (n % 32).toNat) = rot v n := by
  generalize hk : (n % 32).toNat = k
  have hk32 : k < 32 := by omega
  have h1 := bnum_append ((bitsTo v 32).take k) ((bitsTo v 32).drop k)
  rw [List.take_append_drop, bnum_bitsTo v hv 32 (by omega), bitsTo_take _ _ _ (by omega), bnum_bitsTo v hv k (by omega), List.length_drop, bitsTo_length] at h1
  rw [bnum_append, bitsTo_take _ _ _ (by omega), bnum_bitsTo v hv k (by omega), bitsTo_length]
  simp only [Nat.sub_self, Nat.pow_zero, Nat.div_one] at h1
  unfold rot rotl
  rw [hk]
  have h2 : bnum ((bitsTo v 32).drop k) = v % 2 ^ (32 - k) := by
    have h3 := Nat.div_add_mod v (2 ^ (32 - k))
    rw [Nat.mul_comm] at h3
    omega
  have h4 : v * 2 ^ k % 2 ^ 32 = (v % 2 ^ (32 - k)) * 2 ^ k := by
    have : (2 : Nat) ^ 32 = 2 ^ (32 - k) * 2 ^ k := by rw [← Nat.pow_add]; congr 1; omega
    rw [this, Nat.mul_mod_mul_right]
  have h5 : v / 2 ^ (32 - k) < 2 ^ k := by
    rw [Nat.div_lt_iff_lt_mul (Nat.two_pow_pos _), ← Nat.pow_add]
    rw [show k + (32 - k) = 32 by omega]; exact hv
  rw [h2, h4, Nat.mul_comm _ (2 ^ k), Nat.two_pow_add_eq_or_of_lt h5]
theorem xorl_comm {a b : List UInt8} (h : b.length = a.length) : xorl b a = xorl a b := by
  rw [xorl_eq h, xorl_eq h.symm, h]
  apply List.map_congr_left
  intro j _
  rw [Nat.xor_comm]
theorem xorl_xorl {a b : List UInt8} (h : b.length = a.length) : xorl a (xorl a b) = b := by
  apply List.ext_getElem
  · rw [xorl_length (xorl_length h)]; exact h.symm
  · intro i h1 h2
    simp only [xorl, List.getElem_zipWith]
    rw [← UInt8.xor_assoc]
    simp
theorem xorl_append {a b c d : List UInt8} (h : b.length = a.length) : xorl (a ++ c) (b ++ d) = xorl a b ++ xorl c d := by
  unfold xorl
  rw [List.zipWith_append h.symm]
theorem xorl_self (a : List UInt8) : xorl a a = List.replicate a.length 0 := by
  apply List.ext_getElem
  · simp [xorl]
  · intro i h1 h2
    simp [xorl]
theorem tmod1000 (n : Int) : -999 ≤ n.tmod 1000 ∧ n.tmod 1000 ≤ 999 := by
  have h1 := Int.tmod_lt_of_pos n (b := 1000) (by omega)
  have h2 : -1000 < n.tmod 1000 := Int.lt_tmod_of_pos n (by omega)
  omega
theorem join_xor {x y c : List UInt8} {n : Nat} (h : y.length = x.length) (hn : n = c.length) : xorl [x, c].flatten [y, c].flatten = [xorl x y, List.replicate n 0].flatten := by
  subst hn
  simp only [List.flatten_cons, List.flatten_nil, List.append_nil]
  rw [xorl_append h, xorl_self]
end Go.Cs
