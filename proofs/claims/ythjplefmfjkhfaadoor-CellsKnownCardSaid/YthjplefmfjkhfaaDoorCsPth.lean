/- Paths, and reversing a list in place: plain lemmas. No condition but those of each lemma. -/
import Derived.Test.YthjplefmfjkhfaaDoorCsShp
set_option linter.all false
set_option linter.unusedVariables false
namespace Go.Cs
open Go

/-- The places from the group of a block up, the first k of them. -/
def pup (i k : Nat) : List (Nat × Nat) := (List.range k).map fun l => (l, idx i l)
def pathL (n i : Nat) : List (Nat × Nat) := (pup i (hgt n + 1)).reverse
def qs (i : Nat) : Nat → Nat
  | 0 => i
  | k + 1 => qs i k / 4
theorem idx_qs (i : Nat) : ∀ l, idx i l = qs i l / 4
  | 0 => rfl
  | l + 1 => by rw [idx, idx_qs i l]; rfl
theorem qs_le (i : Nat) : ∀ k, qs i k ≤ i
  | 0 => Nat.le_refl _
  | k + 1 => by have := qs_le i k; rw [qs]; omega
theorem idx_le (i l : Nat) : idx i l ≤ i := by rw [idx_qs]; have := qs_le i l; omega
theorem pup_length (i k : Nat) : (pup i k).length = k := by simp [pup]
theorem pup_succ (i k : Nat) : pup i (k + 1) = pup i k ++ [(k, idx i k)] := by simp [pup, List.range_succ]
theorem pathL_length (n i : Nat) : (pathL n i).length = hgt n + 1 := by simp [pathL, pup_length]
theorem pathL_get {n i k : Nat} (h : k ≤ hgt n) : (pathL n i).getD k (0, 0) = (hgt n - k, idx i (hgt n - k)) := by
  have h1 : k < (pathL n i).length := by rw [pathL_length]; omega
  rw [List.getD_eq_getElem?_getD, List.getElem?_eq_getElem h1, Option.getD_some]
  simp only [pathL, List.getElem_reverse, pup_length]
  simp [pup, show hgt n + 1 - 1 - k = hgt n - k by omega]

theorem lv12 {i : Nat} (h : i < 6) : 1 ≤ gt [1, 4, 5, 16, 17, 4096] i ∧ gt [1, 4, 5, 16, 17, 4096] i ≤ 4096 ∧ hgt (gt [1, 4, 5, 16, 17, 4096] i) = gt [0, 0, 1, 1, 2, 5] i := by
  have : i = 0 ∨ i = 1 ∨ i = 2 ∨ i = 3 ∨ i = 4 ∨ i = 5 := by omega
  rcases this with rfl | rfl | rfl | rfl | rfl | rfl <;> decide

theorem idx_range (i l : Nat) : idx i l * wid l ≤ i ∧ i < (idx i l + 1) * wid l := by
  rw [idx_eq]
  have h := Nat.div_add_mod i (wid l)
  have h2 := Nat.mod_lt i (wid_pos l)
  rw [Nat.mul_comm] at h
  rw [Nat.add_mul, Nat.one_mul]
  omega
theorem plaV_len (p : Nat × Nat) : (plaV p).length = 2 := rfl
theorem plaV_one (p : Nat × Nat) : ∀ u ∈ plaV p, u.oneCell' = true := by intro u hu; simp [plaV] at hu; rcases hu with rfl | rfl <;> rfl
theorem flatMap_set {α : Type} {f : α → List Value} {sz : Nat} (hf : ∀ x, (f x).length = sz) (x : α) : ∀ (l : List α) (i : Nat), i < l.length → setFrom (l.flatMap f) (0 + i * sz) (f x) = (l.set i x).flatMap f := by
  intro l i h
  rw [Nat.zero_add]
  rw [setFrom_eq _ _ _ (by rw [hf, flatMap_len hf]; have := Nat.mul_le_mul_right sz (show i + 1 ≤ l.length from h); rw [Nat.add_mul, Nat.one_mul] at this; exact this), flatMap_take hf, hf,
    show i * sz + sz = (i + 1) * sz by rw [Nat.add_mul, Nat.one_mul], flatMap_drop hf, List.set_eq_take_append_cons_drop, if_pos h]
  simp

/-- The first k pairs from the outside swapped. -/
def rv (l : List (Nat × Nat)) (k : Nat) : List (Nat × Nat) := (List.range l.length).map fun p => if p < k ∨ l.length ≤ p + k then l.getD (l.length - 1 - p) (0, 0) else l.getD p (0, 0)
theorem rv_length (l : List (Nat × Nat)) (k : Nat) : (rv l k).length = l.length := by simp [rv]
theorem rv_get (l : List (Nat × Nat)) (k : Nat) {p : Nat} (h : p < l.length) : (rv l k)[p]? = some (if p < k ∨ l.length ≤ p + k then l.getD (l.length - 1 - p) (0, 0) else l.getD p (0, 0)) := by simp [rv, h]
theorem rv_zero (l : List (Nat × Nat)) : rv l 0 = l := by
  apply List.ext_getElem?
  intro p
  rcases Nat.lt_or_ge p l.length with h | h
  · rw [rv_get l 0 h, if_neg (by omega)]; simp [List.getD, h]
  · rw [List.getElem?_eq_none (by rw [rv_length]; exact h), List.getElem?_eq_none h]
theorem rv_all (l : List (Nat × Nat)) {k : Nat} (hk : l.length ≤ 2 * k + 1) : rv l k = l.reverse := by
  apply List.ext_getElem?
  intro p
  rcases Nat.lt_or_ge p l.length with h | h
  · rw [rv_get l k h, List.getElem?_reverse h]
    split
    · simp [List.getD, show l.length - 1 - p < l.length by omega]
    · have : l.length - 1 - p = p := by omega
      rw [this]; simp [List.getD, h]
  · rw [List.getElem?_eq_none (by rw [rv_length]; exact h), List.getElem?_eq_none (by simpa using h)]
theorem rv_step (l : List (Nat × Nat)) {k : Nat} (hk : 2 * k + 1 < l.length) : ((rv l k).set k ((rv l k).getD (l.length - 1 - k) (0, 0))).set (l.length - 1 - k) ((rv l k).getD k (0, 0)) = rv l (k + 1) := by
  apply List.ext_getElem?
  intro p
  have e1 : (rv l k).getD (l.length - 1 - k) (0, 0) = l.getD (l.length - 1 - k) (0, 0) := by
    rw [List.getD_eq_getElem?_getD, rv_get l k (by omega), if_neg (by omega)]; rfl
  have e2 : (rv l k).getD k (0, 0) = l.getD k (0, 0) := by
    rw [List.getD_eq_getElem?_getD, rv_get l k (by omega), if_neg (by omega)]; rfl
  rw [e1, e2]
  rcases Nat.lt_or_ge p l.length with h | h
  · rw [rv_get l (k + 1) h, List.getElem?_set, List.getElem?_set]
    simp only [List.length_set, rv_length]
    by_cases h1 : l.length - 1 - k = p
    · rw [if_pos h1, if_pos (by omega), if_pos (by omega), show l.length - 1 - p = k by omega]
    · rw [if_neg h1]
      by_cases h2 : k = p
      · rw [if_pos h2, if_pos (by omega), if_pos (by omega)]; subst h2; rfl
      · rw [if_neg h2, rv_get l k h]
        by_cases h3 : p < k ∨ l.length ≤ p + k
        · rw [if_pos h3, if_pos (by omega)]
        · rw [if_neg h3, if_neg (by omega)]
  · rw [List.getElem?_eq_none (by simp [rv_length]; exact h), List.getElem?_eq_none (by rw [rv_length]; exact h)]
theorem made_length (z : Value) (m : Nat) : (madeCells z.cells m).toList.length = m := by simp [madeCells]
/-- An append that has room. -/
theorem app_mid {α : Type} {f : α → List Value} {sz : Nat} (hf : ∀ x, (f x).length = sz) {l : List α} {k : Nat} (hl : l.length = k) {r : List Value} (x : α) (hr : sz ≤ r.length) : setFrom (l.flatMap f ++ r) (k * sz) (f x) = (l ++ [x]).flatMap f ++ r.drop sz := by
  have h := setFrom_mid (l.flatMap f) r (f x) (by rw [hf]; exact hr)
  rw [flatMap_len hf, hl, hf] at h
  rw [h]; simp
end Go.Cs
