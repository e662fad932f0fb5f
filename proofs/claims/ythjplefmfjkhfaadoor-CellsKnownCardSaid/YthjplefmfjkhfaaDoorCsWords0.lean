/- Numbers as bytes, in plain lists. Lemmas only; no condition. -/
import Derived.Test.YthjplefmfjkhfaaDoorCsE
set_option linter.all false
set_option linter.unusedVariables false
namespace Go.Cs
open Go Go.RowKit

/-- A choice for each place: g where P says so, else 0. -/
def pick (sz : Nat) (P : Nat → Bool) (g : Nat → UInt8) : List UInt8 := (List.range sz).map fun j => if P j then g j else 0

@[simp] theorem pick_length (sz : Nat) (P : Nat → Bool) (g : Nat → UInt8) : (pick sz P g).length = sz := by simp [pick]

theorem pick_none (sz : Nat) (P : Nat → Bool) (g : Nat → UInt8) (h : ∀ j, j < sz → P j = false) : pick sz P g = List.replicate sz 0 := by
  apply List.ext_getElem
  · simp
  · intro j h1 h2
    simp at h1
    simp [pick, h j h1]

theorem pick_set (sz : Nat) (P Q : Nat → Bool) (g : Nat → UInt8) (i : Nat) (x : UInt8) (hi : i < sz) (hx : x = g i) (hq : ∀ j, j < sz → Q j = (P j || j == i)) : (u8s (pick sz P g)).set i (.int .u8 (x.toNat : Int)) = u8s (pick sz Q g) := by
  subst hx
  apply List.ext_getElem
  · simp
  · intro j h1 h2
    simp at h1
    rw [List.getElem_set]
    by_cases hij : i = j
    · subst hij; simp [u8s, pick, hq i hi]
    · have : (j == i) = false := by simp; omega
      simp [hij, u8s, pick, hq j h1, this]

theorem pick_all (sz : Nat) (P : Nat → Bool) (g : Nat → UInt8) (h : ∀ j, j < sz → P j = true) : pick sz P g = (List.range sz).map g := by
  apply List.ext_getElem
  · simp
  · intro j h1 h2
    simp at h1
    simp [pick, h j h1]

/-- The bytes of a number, the most significant one first. -/
def be (v sz : Nat) : List UInt8 := (List.range sz).map fun j => UInt8.ofNat (v / 256 ^ (sz - 1 - j))
@[simp] theorem be_length (v sz : Nat) : (be v sz).length = sz := by simp [be]

theorem u8s_zero (n : Nat) : List.replicate n (Value.int .u8 0) = u8s (List.replicate n 0) := by simp [u8s]
theorem two_pow_8 (i : Nat) : 2 ^ (8 * i) = 256 ^ i := by rw [Nat.pow_mul]

/-- The number with these bytes. -/
def numB (l : List UInt8) : Nat := l.foldl (fun v c => v * 256 + c.toNat) 0
theorem numB_snoc (l : List UInt8) (c : UInt8) : numB (l ++ [c]) = numB l * 256 + c.toNat := by simp [numB]
theorem numB_lt_aux : ∀ (l : List UInt8) (a : Nat), l.foldl (fun v c => v * 256 + c.toNat) a < (a + 1) * 256 ^ l.length := by
  intro l
  induction l with
  | nil => intro a; simp
  | cons c l ih =>
    intro a
    have h1 := ih (a * 256 + c.toNat)
    have h2 := c.toNat_lt
    have h3 : (a * 256 + c.toNat + 1) * 256 ^ l.length ≤ ((a + 1) * 256) * 256 ^ l.length := Nat.mul_le_mul_right _ (by omega)
    simp only [List.foldl_cons, List.length_cons, Nat.pow_succ]
    rw [Nat.mul_comm (256 ^ l.length) 256, ← Nat.mul_assoc]
    omega
theorem numB_lt (l : List UInt8) : numB l < 256 ^ l.length := by simpa [numB] using numB_lt_aux l 0
theorem numB_take {l : List UInt8} {i : Nat} (h : i < l.length) : numB (l.take (i + 1)) = numB (l.take i) * 256 + byt l i := by
  rw [List.take_succ_eq_append_getElem h, numB_snoc, byt_eq h]

theorem numB_take_lt {l : List UInt8} {i : Nat} (h : i < 8) : numB (l.take i) * 256 + 255 < 2 ^ 64 := by
  have h1 := numB_lt (l.take i)
  have h2 : (l.take i).length ≤ i := by simp; omega
  have h3 : 256 ^ (l.take i).length ≤ 256 ^ i := Nat.pow_le_pow_right (by omega) h2
  have h4 : 256 ^ i ≤ 256 ^ 7 := Nat.pow_le_pow_right (by omega) (by omega)
  omega
theorem or_byte (a b : Nat) (h : b < 256) : a * 256 ||| b = a * 256 + b := by
  have := Nat.two_pow_add_eq_or_of_lt (i := 8) (b := b) (by simpa using h) a
  rw [show (2 : Nat) ^ 8 = 256 from rfl, Nat.mul_comm 256 a] at this
  exact this.symm

theorem u8_mod (n : Nat) : UInt8.ofNat (n % 256) = UInt8.ofNat n := by
  apply UInt8.toNat_inj.1
  simp
/-- What Get hands back. -/
def getV (l : List UInt8) (sz : Nat) : Nat := if l.length = sz then numB l else 0
def getE (l : List UInt8) (sz : Nat) : Nat := if l.length < sz then 6 else if l.length > sz then 5 else 0
theorem getV_ne {l : List UInt8} {sz : Nat} (h : l.length ≠ sz) : getV l sz = 0 := by simp [getV, h]
theorem getV_eq {l : List UInt8} {sz : Nat} (h : l.length = sz) : getV l sz = numB l := by simp [getV, h]
theorem getE_short {l : List UInt8} {sz : Nat} (h : l.length < sz) : getE l sz = 6 := by simp [getE, h]
theorem getE_long {l : List UInt8} {sz : Nat} (h : l.length > sz) : getE l sz = 5 := by
  have : ¬ l.length < sz := by omega
  simp [getE, h, this]
theorem getE_eq {l : List UInt8} {sz : Nat} (h : l.length = sz) : getE l sz = 0 := by simp [getE, h]
theorem getE_zero {l : List UInt8} {sz : Nat} (h : getE l sz = 0) : l.length = sz := by
  unfold getE at h
  split at h
  · cases h
  · split at h
    · cases h
    · omega
theorem getV_lt (l : List UInt8) (sz : Nat) : getV l sz < 2 ^ (8 * sz) := by
  unfold getV
  split
  · rename_i h
    have := numB_lt l
    rw [h] at this
    rw [two_pow_8]; exact this
  · exact Nat.two_pow_pos _
end Go.Cs
