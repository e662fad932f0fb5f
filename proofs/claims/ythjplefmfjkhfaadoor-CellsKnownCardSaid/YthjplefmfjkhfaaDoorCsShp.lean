/- The shape of a tree over n blocks, in plain numbers: counts, height, sectors. No program in sight; no condition but those of each lemma. -/
import Derived.Test.YthjplefmfjkhfaaDoorCsG
import Derived.Test.YthjplefmfjkhfaaDoorCsR
set_option linter.all false
set_option linter.unusedVariables false
namespace Go.Cs

def up4 (c : Nat) : Nat := (c + 3) / 4
/-- What is below the places of a level. -/
def und (n : Nat) : Nat → Nat
  | 0 => n
  | l + 1 => up4 (und n l)
/-- The number of places of a level. -/
def cnt (n l : Nat) : Nat := up4 (und n l)
/-- The level of the root. -/
def hgt (n : Nat) : Nat := if n ≤ 4 then 0 else if n ≤ 16 then 1 else if n ≤ 64 then 2 else if n ≤ 256 then 3 else if n ≤ 1024 then 4 else 5
/-- The first sector of a level. -/
def bas (n : Nat) : Nat → Nat
  | 0 => 2 * n
  | l + 1 => bas n l + 2 * cnt n l
/-- The number of places below a level. -/
def num (n : Nat) : Nat → Nat
  | 0 => 0
  | l + 1 => num n l + cnt n l
def tot (n : Nat) : Nat := num n (hgt n + 1)
def cts (n : Nat) : List Nat := (List.range (hgt n + 1)).map (cnt n)
/-- The parts of a place. -/
def prt (n l j : Nat) : Nat := min 4 (und n l - 4 * j)
/-- The place of a level above a block. -/
def idx (i : Nat) : Nat → Nat
  | 0 => i / 4
  | l + 1 => idx i l / 4
/-- How many blocks are below a place. -/
def wid : Nat → Nat
  | 0 => 4
  | l + 1 => wid l * 4

theorem und_succ (n l : Nat) : und n (l + 1) = cnt n l := rfl
theorem cnt_succ (n l : Nat) : cnt n (l + 1) = up4 (cnt n l) := rfl
theorem cnt_zero (n : Nat) : cnt n 0 = up4 n := rfl
theorem hgt_le (n : Nat) : hgt n ≤ 5 := by unfold hgt; repeat' split <;> first | omega | skip
theorem und_le (n l : Nat) : und n (l + 1) ≤ und n l := by rw [und]; unfold up4; omega
theorem und_pos {n : Nat} (h : 1 ≤ n) : ∀ l, 1 ≤ und n l
  | 0 => h
  | l + 1 => by have := und_pos h l; rw [und]; unfold up4; omega
theorem cnt_pos {n : Nat} (h : 1 ≤ n) (l : Nat) : 1 ≤ cnt n l := und_pos h (l + 1)
theorem und_n (n : Nat) : ∀ l, und n l ≤ n
  | 0 => Nat.le_refl _
  | l + 1 => Nat.le_trans (und_le n l) (und_n n l)
theorem cnt_n (n l : Nat) : cnt n l ≤ n := und_n n (l + 1)

theorem cnt_hgt {n : Nat} (h1 : 1 ≤ n) (h : n ≤ 4096) : cnt n (hgt n) = 1 := by
  unfold hgt
  repeat' split
  all_goals simp only [cnt, und, up4]; omega
theorem cnt_more {n l : Nat} (hl : l < hgt n) : 2 ≤ cnt n l := by
  have h5 := hgt_le n
  have : l = 0 ∨ l = 1 ∨ l = 2 ∨ l = 3 ∨ l = 4 := by omega
  unfold hgt at hl
  rcases this with rfl | rfl | rfl | rfl | rfl <;> simp only [cnt, und, up4] <;> (repeat' split at hl) <;> omega
theorem cnt_one_iff {n l : Nat} (h1 : 1 ≤ n) (h : n ≤ 4096) (hl : l ≤ hgt n) : cnt n l = 1 ↔ l = hgt n := by
  constructor
  · intro e
    rcases Nat.lt_or_ge l (hgt n) with h2 | h2
    · have := cnt_more h2; omega
    · omega
  · rintro rfl; exact cnt_hgt h1 h
theorem bas_le (n : Nat) {l m : Nat} (h : l ≤ m) : bas n l ≤ bas n m := by
  induction m with
  | zero => have : l = 0 := by omega
            subst this; exact Nat.le_refl _
  | succ m ih =>
    rcases Nat.lt_or_ge m l with h2 | h2
    · have : l = m + 1 := by omega
      subst this; exact Nat.le_refl _
    · exact Nat.le_trans (ih h2) (by rw [bas]; omega)
theorem bas_lt {n : Nat} (h1 : 1 ≤ n) (l : Nat) : bas n l < bas n (l + 1) := by have := cnt_pos h1 l; rw [bas]; omega
theorem bas_ge (n l : Nat) : 2 * n ≤ bas n l := bas_le n (Nat.zero_le l)
theorem bas_max (n : Nat) : ∀ l, bas n l ≤ 2 * n + 2 * n * l
  | 0 => by simp [bas]
  | l + 1 => by have := bas_max n l; have := cnt_n n l; rw [bas, Nat.mul_add]; omega
theorem bas_small {n l : Nat} (h : n ≤ 4096) (hl : l ≤ 6) : bas n l ≤ 57344 := by
  have h1 := bas_max n l
  have h2 : 2 * n * l ≤ 2 * n * 6 := Nat.mul_le_mul_left _ hl
  omega
theorem num_le (n : Nat) {l m : Nat} (h : l ≤ m) : num n l ≤ num n m := by
  induction m with
  | zero => have : l = 0 := by omega
            subst this; exact Nat.le_refl _
  | succ m ih =>
    rcases Nat.lt_or_ge m l with h2 | h2
    · have : l = m + 1 := by omega
      subst this; exact Nat.le_refl _
    · exact Nat.le_trans (ih h2) (by rw [num]; omega)
theorem num_max (n : Nat) : ∀ l, num n l ≤ n * l
  | 0 => by simp [num]
  | l + 1 => by have := num_max n l; have := cnt_n n l; rw [num, Nat.mul_add]; omega
theorem num_small {n l : Nat} (h : n ≤ 4096) (hl : l ≤ 6) : num n l ≤ 24576 := by
  have h1 := num_max n l
  have h2 : n * l ≤ n * 6 := Nat.mul_le_mul_left _ hl
  omega
theorem bas_num (n : Nat) : ∀ l, bas n l = 2 * n + 2 * num n l
  | 0 => by simp [bas, num]
  | l + 1 => by rw [bas, num, bas_num n l]; omega

theorem cts_length (n : Nat) : (cts n).length = hgt n + 1 := by simp [cts]
theorem cts_get {n l : Nat} (h : l ≤ hgt n) : (cts n).getD l 0 = cnt n l := by
  have : l < hgt n + 1 := by omega
  simp [cts, List.getD, this]
theorem cts_take_succ {n l : Nat} (h : l ≤ hgt n) : (cts n).take (l + 1) = (cts n).take l ++ [cnt n l] := by
  have h2 : l < (cts n).length := by rw [cts_length]; omega
  rw [List.take_succ_eq_append_getElem h2]
  simp [cts]

theorem gt_cts {n l : Nat} (h : l ≤ hgt n) : gt (cts n) l = cnt n l := cts_get h
theorem gt_cts_pred {n l : Nat} (h0 : l ≠ 0) (h : l ≤ hgt n + 1) : gt (cts n) (l - 1) = und n l := by
  obtain ⟨k, rfl⟩ : ∃ k, l = k + 1 := ⟨l - 1, by omega⟩
  rw [Nat.add_sub_cancel, gt_cts (by omega), und_succ]
theorem gt_cts_take {n l i : Nat} (h : l ≤ hgt n + 1) (hi : i < l) : gt (((cts n).drop 0).take (l - 0)) i = cnt n i := by
  have h1 : i < hgt n + 1 := by omega
  simp [gt, cts, List.getD, hi, h1]

theorem cts_app {n k : Nat} (hk : k ≤ hgt n) : setFrom (((cts n).take k).map (nv .i64) ++ List.replicate (6 - k) (vI 0)) (k * 1) [vI (cnt n k)] = ((cts n).take (k + 1)).map (nv .i64) ++ List.replicate (6 - (k + 1)) (vI 0) := by
  have h5 := hgt_le n
  have hl : (((cts n).take k).map (nv .i64)).length = k := by simp [cts_length]; omega
  have h := setFrom_mid (((cts n).take k).map (nv .i64)) (List.replicate (6 - k) (vI 0)) [vI (cnt n k)] (by simp; omega)
  rw [hl] at h
  rw [Nat.mul_one, h, cts_take_succ hk, List.map_append, List.drop_replicate]
  simp [nv, show 6 - k - 1 = 6 - (k + 1) by omega]

theorem und_pred {n l : Nat} (h : 0 < l) : und n l = cnt n (l - 1) := by
  obtain ⟨k, rfl⟩ : ∃ k, l = k + 1 := ⟨l - 1, by omega⟩
  rfl
/-- A number of blocks. -/
def nof (k : Nat) : Nat := 1 + k % 4096
theorem nof_pos (k : Nat) : 1 ≤ nof k := by unfold nof; omega
theorem nof_le (k : Nat) : nof k ≤ 4096 := by unfold nof; omega

theorem prt_le (n l j : Nat) : prt n l j ≤ 4 := Nat.min_le_left _ _
theorem lt_cnt {n l j : Nat} : j < cnt n l ↔ 4 * j < und n l := by unfold cnt up4; omega
theorem prt_pos {n l j : Nat} (h : j < cnt n l) : 1 ≤ prt n l j := by have := lt_cnt.1 h; unfold prt; omega
theorem lt_prt {n l j w : Nat} (hw : w < 4) : w < prt n l j ↔ 4 * j + w < und n l := by unfold prt; omega
theorem prt_last {n l j : Nat} (h : j < cnt n l) (h4 : prt n l j < 4) : j = cnt n l - 1 := by
  unfold prt at h4; unfold cnt up4 at *; omega
theorem prt_sum {n l : Nat} (h : 1 ≤ n) : 4 * (cnt n l - 1) + prt n l (cnt n l - 1) = und n l := by
  have := und_pos h l
  unfold prt cnt up4; omega

theorem idx_lt {n i : Nat} (h : i < n) : ∀ l, idx i l < cnt n l
  | 0 => by rw [idx, cnt_zero]; unfold up4; omega
  | l + 1 => by have := idx_lt h l; rw [idx, cnt_succ]; unfold up4; omega
theorem wid_pos : ∀ l, 0 < wid l
  | 0 => by decide
  | l + 1 => by have := wid_pos l; rw [wid]; omega
theorem idx_eq (i : Nat) : ∀ l, idx i l = i / wid l
  | 0 => rfl
  | l + 1 => by rw [idx, idx_eq i l, wid, Nat.div_div_eq_div_mul]
theorem wid_le : ∀ {l : Nat}, l ≤ 5 → wid l ≤ 4096 := by
  intro l h
  have : l = 0 ∨ l = 1 ∨ l = 2 ∨ l = 3 ∨ l = 4 ∨ l = 5 := by omega
  rcases this with rfl | rfl | rfl | rfl | rfl | rfl <;> decide
theorem cnt_wid (n : Nat) : ∀ (l j : Nat), j < cnt n l ↔ j * wid l < n
  | 0, j => by rw [cnt_zero, wid]; unfold up4; omega
  | l + 1, j => by
    rw [cnt_succ, wid, show j * (wid l * 4) = (4 * j) * wid l by rw [Nat.mul_comm (wid l) 4, ← Nat.mul_assoc, Nat.mul_comm j 4], ← cnt_wid n l (4 * j)]
    unfold up4; omega
theorem root_all {n : Nat} (h1 : 1 ≤ n) (h : n ≤ 4096) : n ≤ wid (hgt n) := by
  have h2 := (cnt_wid n (hgt n) 1)
  have h3 := cnt_hgt h1 h
  rw [h3, Nat.one_mul] at h2
  rcases Nat.lt_or_ge (wid (hgt n)) n with h4 | h4
  · exact absurd (h2.2 h4) (by omega)
  · exact h4

/-- The level of a sector of a node. -/
def lev (n s : Nat) : Nat := if s < bas n 1 then 0 else if s < bas n 2 then 1 else if s < bas n 3 then 2 else if s < bas n 4 then 3 else if s < bas n 5 then 4 else 5
theorem lev_spec {n s : Nat} (h : n ≤ 4096) (h0 : 2 * n ≤ s) (hs : s < bas n (hgt n + 1)) : lev n s ≤ hgt n ∧ bas n (lev n s) ≤ s ∧ s < bas n (lev n s + 1) := by
  have h5 := hgt_le n
  have hb : ∀ l, hgt n + 1 ≤ l → s < bas n l := fun l hl => Nat.lt_of_lt_of_le hs (bas_le n hl)
  have hn : ∀ l, ¬ s < bas n l → l ≤ hgt n := fun l hl => by
    rcases Nat.lt_or_ge (hgt n) l with h6 | h6
    · exact absurd (hb l h6) hl
    · exact h6
  unfold lev
  have e0 : bas n 0 = 2 * n := rfl
  have e6 := hb 6 (by omega)
  have n1 := hn 1; have n2 := hn 2; have n3 := hn 3; have n4 := hn 4; have n5 := hn 5
  repeat' split
  all_goals (refine ⟨?_, ?_, ?_⟩ <;> first | omega | (have := n1 (by omega); have := n2 (by omega); have := n3 (by omega); have := n4 (by omega); have := n5 (by omega); omega) | (have := n1 (by omega); have := n2 (by omega); have := n3 (by omega); have := n4 (by omega); omega) | (have := n1 (by omega); have := n2 (by omega); have := n3 (by omega); omega) | (have := n1 (by omega); have := n2 (by omega); omega) | (have := n1 (by omega); omega))
theorem lev_unique {n s l : Nat} (h : n ≤ 4096) (hl : l ≤ hgt n) (h1 : bas n l ≤ s) (h2 : s < bas n (l + 1)) : lev n s = l := by
  have h5 := hgt_le n
  have hs : s < bas n (hgt n + 1) := Nat.lt_of_lt_of_le h2 (bas_le n (by omega))
  obtain ⟨g1, g2, g3⟩ := lev_spec h (Nat.le_trans (bas_ge n l) h1) hs
  rcases Nat.lt_trichotomy (lev n s) l with h6 | h6 | h6
  · have := bas_le n (show lev n s + 1 ≤ l from h6); omega
  · exact h6
  · have := bas_le n (show l + 1 ≤ lev n s from h6); omega
end Go.Cs
