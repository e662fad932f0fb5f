/- Logs of trusted cells as plain lists: the first fault, the commits, sound logs. For any program; no condition beyond those of each statement. -/
import Derived.Test.YthjplefmfjkhfaaDoorCsCel
set_option linter.all false
set_option linter.unusedVariables false
namespace Go.Cs
open Go Go.RowKit

/-- The cell at i. -/
abbrev cel (l : List Cel) (i : Nat) : Cel := l.getD i Cel.zero
/-- How cell k + 1 follows the one before. -/
def fk (l : List Cel) (k : Nat) : Nat := fol (cel l k) (cel l (k + 1))
theorem fol_le (a b : Cel) : fol a b ≤ 2 := by unfold fol; (repeat' split) <;> omega
theorem fk_le (l : List Cel) (k : Nat) : fk l k ≤ 2 := fol_le _ _
/-- No fault among the first k steps. -/
def noF (l : List Cel) (k : Nat) : Prop := ∀ i, i < k → fk l i ≠ 0
theorem noF_zero (l : List Cel) : noF l 0 := fun i h => absurd h (Nat.not_lt_zero _)
theorem noF_succ {l : List Cel} {k : Nat} (h : noF l k) (hk : fk l k ≠ 0) : noF l (k + 1) := fun i hi => by
  rcases Nat.lt_succ_iff_lt_or_eq.1 hi with h1 | rfl
  · exact h i h1
  · exact hk
/-- The first cell that does not follow, 0 if there is none. -/
def flt (l : List Cel) : Nat := match (List.range (l.length - 1)).find? (fun k => fk l k == 0) with | some k => k + 1 | none => 0
theorem flt_stop {l : List Cel} {k : Nat} (hk : k + 1 < l.length) (h : noF l k) (h0 : fk l k = 0) : flt l = k + 1 := by
  unfold flt
  have : (List.range (l.length - 1)).find? (fun k => fk l k == 0) = some k := by
    rw [List.find?_range_eq_some]
    refine ⟨by simp [h0], by simp; omega, fun i hi => ?_⟩
    simpa using h i hi
  rw [this]
theorem flt_none {l : List Cel} (h : noF l (l.length - 1)) : flt l = 0 := by
  unfold flt
  have : (List.range (l.length - 1)).find? (fun k => fk l k == 0) = none := by
    rw [List.find?_eq_none]
    intro i hi
    simpa using h i (List.mem_range.1 hi)
  rw [this]
theorem flt_cases (l : List Cel) : (flt l = 0 ∧ noF l (l.length - 1)) ∨ ∃ k, k + 1 < l.length ∧ noF l k ∧ fk l k = 0 ∧ flt l = k + 1 := by
  unfold flt
  cases h : (List.range (l.length - 1)).find? (fun k => fk l k == 0) with
  | none =>
    refine .inl ⟨rfl, fun i hi => ?_⟩
    rw [List.find?_eq_none] at h
    simpa using h i (List.mem_range.2 hi)
  | some k =>
    rw [List.find?_range_eq_some] at h
    obtain ⟨h1, h2, h3⟩ := h
    simp only [List.mem_range] at h2
    exact .inr ⟨k, by omega, fun i hi => by simpa using h3 i hi, by simpa using h1, rfl⟩
theorem flt_lt (l : List Cel) : flt l = 0 ∨ flt l < l.length := by
  rcases flt_cases l with ⟨h, _⟩ | ⟨k, h1, _, _, h2⟩
  · exact .inl h
  · exact .inr (by omega)
theorem flt_zero_iff {l : List Cel} : flt l = 0 ↔ noF l (l.length - 1) := by
  rcases flt_cases l with ⟨h, h2⟩ | ⟨k, h1, _, h0, h2⟩
  · exact ⟨fun _ => h2, fun _ => h⟩
  · exact ⟨fun h => by omega, fun h => absurd h0 (h k (by omega))⟩
theorem fk_take {l : List Cel} {a b k : Nat} (hk : a + k + 1 ≤ b) (hb : b + 1 ≤ l.length) : fk ((l.drop a).take (b + 1 - a)) k = fk l (a + k) := by
  have e1 : cel ((l.drop a).take (b + 1 - a)) k = cel l (a + k) := by
    simp only [cel, List.getD, List.getElem?_take, List.getElem?_drop]
    rw [if_pos (by omega)]
  have e2 : cel ((l.drop a).take (b + 1 - a)) (k + 1) = cel l (a + k + 1) := by
    simp only [cel, List.getD, List.getElem?_take, List.getElem?_drop]
    rw [if_pos (by omega), Nat.add_assoc]
  unfold fk
  rw [e1, e2]

/-- The commits among the first k steps. -/
def com (l : List Cel) (k : Nat) : List Nat := ((List.range k).filter fun i => fk l i == 1).map (· + 1)
theorem com_zero (l : List Cel) : com l 0 = [] := rfl
theorem com_yes {l : List Cel} {k : Nat} (h : fk l k = 1) : com l (k + 1) = com l k ++ [k + 1] := by
  simp [com, List.range_succ, h]
theorem com_no {l : List Cel} {k : Nat} (h : ¬ fk l k = 1) : com l (k + 1) = com l k := by
  simp [com, List.range_succ, h]
theorem com_le (l : List Cel) : ∀ k, (com l k).length ≤ k
  | 0 => Nat.le_refl _
  | k + 1 => by
    have := com_le l k
    by_cases h : fk l k = 1
    · rw [com_yes h]; simp; omega
    · rw [com_no h]; omega
theorem com_get_yes {l : List Cel} {k : Nat} (h : fk l k = 1) : ∀ m, k < m → (com l m)[(com l k).length]? = some (k + 1)
  | 0, hm => by omega
  | m + 1, hm => by
    rcases Nat.lt_succ_iff_lt_or_eq.1 hm with h1 | rfl
    · have ih := com_get_yes h m h1
      by_cases h2 : fk l m = 1
      · rw [com_yes h2, List.getElem?_append_left (List.getElem?_eq_some_iff.1 ih).1]; exact ih
      · rw [com_no h2]; exact ih
    · rw [com_yes h, List.getElem?_append_right (Nat.le_refl _)]; simp

/-! ### Sound logs -/
theorem fol_one {a b : Cel} (h : fol a b = 1) : a.ep + 1 = b.ep ∧ a.mark = b.mark := by
  unfold fol at h
  split at h
  · assumption
  · split at h <;> simp at h
theorem fol_two {a b : Cel} (h : fol a b = 2) : a.ep = b.ep ∧ (a.root.l == b.root.l) = true ∧ a.mark < b.mark := by
  unfold fol at h
  split at h
  · simp at h
  · split at h
    · assumption
    · simp at h
theorem fk_cases {l : List Cel} {k : Nat} (h : fk l k ≠ 0) : (fk l k = 1 ∧ (cel l k).ep + 1 = (cel l (k + 1)).ep ∧ (cel l k).mark = (cel l (k + 1)).mark) ∨ (¬ fk l k = 1 ∧ (cel l k).ep = (cel l (k + 1)).ep ∧ (cel l k).root.l = (cel l (k + 1)).root.l ∧ (cel l k).mark < (cel l (k + 1)).mark) := by
  have h2 := fk_le l k
  rcases (show fk l k = 1 ∨ fk l k = 2 by omega) with h3 | h3
  · exact .inl ⟨h3, fol_one h3⟩
  · obtain ⟨e1, e2, e3⟩ := fol_two h3
    exact .inr ⟨by omega, e1, by simpa using e2, e3⟩
theorem noF_mono {l : List Cel} {m : Nat} (h : noF l m) (i : Nat) : ∀ j, i ≤ j → j ≤ m → (cel l i).ep ≤ (cel l j).ep ∧ (cel l i).mark ≤ (cel l j).mark ∧ ((cel l i).ep = (cel l j).ep → (cel l i).root.l = (cel l j).root.l)
  | 0, h1, h2 => by obtain rfl : i = 0 := by omega
                    exact ⟨Nat.le_refl _, Nat.le_refl _, fun _ => rfl⟩
  | j + 1, h1, h2 => by
    rcases Nat.lt_or_ge j i with h3 | h3
    · obtain rfl : i = j + 1 := by omega
      exact ⟨Nat.le_refl _, Nat.le_refl _, fun _ => rfl⟩
    · obtain ⟨e1, e2, e3⟩ := noF_mono h i j h3 (by omega)
      rcases fk_cases (h j (by omega)) with ⟨_, f1, f2⟩ | ⟨_, f1, f2, f3⟩
      · exact ⟨by omega, by omega, fun hh => by omega⟩
      · exact ⟨by omega, by omega, fun hh => (e3 (by omega)).trans f2⟩
theorem com_len {l : List Cel} (h0 : (cel l 0).ep = 0) : ∀ {m : Nat}, noF l m → (com l m).length = (cel l m).ep
  | 0, _ => by rw [h0]; rfl
  | m + 1, h => by
    have ih := com_len h0 (m := m) (fun i hi => h i (by omega))
    rcases fk_cases (h m (by omega)) with ⟨f0, f1, _⟩ | ⟨f0, f1, _⟩
    · rw [com_yes f0, List.length_append]; show _ + 1 = _; omega
    · rw [com_no f0]; omega
theorem com_at {l : List Cel} (h0 : (cel l 0).ep = 0) : ∀ {m : Nat}, noF l m → ∀ i, i < (com l m).length → 1 ≤ gt (com l m) i ∧ gt (com l m) i ≤ m ∧ (cel l (gt (com l m) i)).ep = i + 1 ∧ (cel l (gt (com l m) i - 1)).ep = i
  | 0, _, i, hi => by simp [com] at hi
  | m + 1, h, i, hi => by
    have hm : noF l m := fun i hi => h i (by omega)
    have ih := com_at h0 hm i
    have hl := com_len h0 hm
    rcases fk_cases (h m (by omega)) with ⟨f0, f1, _⟩ | ⟨f0, f1, _⟩
    · rw [com_yes f0] at hi ⊢
      simp only [List.length_append, List.length_cons, List.length_nil] at hi
      rcases Nat.lt_or_ge i (com l m).length with h1 | h1
      · have e : gt (com l m ++ [m + 1]) i = gt (com l m) i := by simp [gt, List.getD, List.getElem?_append_left h1]
        rw [e]
        obtain ⟨g1, g2, g3⟩ := ih h1
        exact ⟨g1, by omega, g3⟩
      · obtain rfl : i = (com l m).length := by omega
        have e : gt (com l m ++ [m + 1]) (com l m).length = m + 1 := by simp [gt, List.getD]
        rw [e]
        have g : (cel l (m + 1)).ep = (com l m).length + 1 := by omega
        exact ⟨by omega, by omega, g, by rw [Nat.add_sub_cancel]; exact hl.symm⟩
    · rw [com_no f0] at hi ⊢
      obtain ⟨g1, g2, g3⟩ := ih hi
      exact ⟨g1, by omega, g3⟩

/-! ### The logs of the statements -/
/-- One step. -/
def lst (c : Cel) (s : UInt8 × UInt8) : Cel := if s.1.toNat % 2 = 1 then ⟨mkD s.2.toNat, (c.ep + 1) % 2 ^ 64, c.mark, Nat.mod_lt _ (by decide), c.hmk⟩ else ⟨c.root, c.ep, (c.mark + (1 + s.2.toNat * 2 ^ (s.1.toNat / 2 % 40) % 2 ^ 64) % 2 ^ 64) % 2 ^ 64, c.hep, Nat.mod_lt _ (by decide)⟩
def lok (n : Nat) (st : List (UInt8 × UInt8)) (k : Nat) : Cel := (st.take k).foldl lst (freC n)
def lof (n : Nat) (st : List (UInt8 × UInt8)) (k : Nat) : List Cel := (List.range (k + 1)).map (lok n st)
theorem lok_succ {n : Nat} {st : List (UInt8 × UInt8)} {k : Nat} (h : k < st.length) : lok n st (k + 1) = lst (lok n st k) (st.getD k (0, 0)) := by
  have e : st.take (k + 1) = st.take k ++ [st.getD k (0, 0)] := by
    rw [List.take_succ_eq_append_getElem h]; simp [List.getD, h]
  rw [lok, e, List.foldl_append]; rfl
theorem lof_succ (n : Nat) (st : List (UInt8 × UInt8)) (k : Nat) : lof n st (k + 1) = lof n st k ++ [lok n st (k + 1)] := by
  rw [lof, List.range_succ, List.map_append]; rfl
theorem lof_length (n : Nat) (st : List (UInt8 × UInt8)) (k : Nat) : (lof n st k).length = k + 1 := by simp [lof]
theorem lof_cel {n : Nat} {st : List (UInt8 × UInt8)} {k i : Nat} (h : i ≤ k) : cel (lof n st k) i = lok n st i := by
  simp only [lof, List.getD, List.getElem?_map]
  rw [List.getElem?_range (by omega)]; rfl
theorem shl_small {a e : Nat} (ha : a < 256) (he : e < 40) : a * 2 ^ e < 140737488355328 := by
  have h1 : 2 ^ e ≤ 2 ^ 39 := Nat.pow_le_pow_right (by decide) (by omega)
  have h2 : a * 2 ^ e ≤ 255 * 2 ^ 39 := Nat.mul_le_mul (by omega) h1
  have h3 : 255 * 2 ^ 39 < 140737488355328 := Nat.le_of_ble_eq_true rfl
  omega
set_option maxRecDepth 100000 in
theorem lok_small (n : Nat) (st : List (UInt8 × UInt8)) : ∀ k, k ≤ st.length → (lok n st k).ep ≤ k ∧ (lok n st k).mark ≤ k * 140737488355328
  | 0, _ => ⟨Nat.le_refl _, Nat.le_of_eq (by rfl)⟩
  | k + 1, h => by
    obtain ⟨h1, h2⟩ := lok_small n st k (by omega)
    rw [lok_succ (by omega)]
    have h3 := (st.getD k (0, 0)).2.toNat_lt
    have h4 := shl_small (a := (st.getD k (0, 0)).2.toNat) (e := (st.getD k (0, 0)).1.toNat / 2 % 40) h3 (Nat.mod_lt _ (by decide))
    have h5 := (lok n st k).hep
    generalize hq : (st.getD k (0, 0)).2.toNat * 2 ^ ((st.getD k (0, 0)).1.toNat / 2 % 40) = q at *
    unfold lst
    split
    · refine ⟨Nat.le_trans (Nat.mod_le _ _) (Nat.succ_le_succ h1), ?_⟩
      show (lok n st k).mark ≤ _; exact Nat.le_trans h2 (Nat.mul_le_mul_right _ (Nat.le_succ k))
    · refine ⟨Nat.le_succ_of_le h1, Nat.le_trans (Nat.mod_le _ _) ?_⟩
      rw [hq]; clear hq
      have : (1 + q % 2 ^ 64) % 2 ^ 64 ≤ 1 + q := Nat.le_trans (Nat.mod_le _ _) (by have := Nat.mod_le q (2 ^ 64); omega)
      omega
theorem lok_fol {n : Nat} {st : List (UInt8 × UInt8)} {k : Nat} (h : k < st.length) (h40 : k < 40) : fol (lok n st k) (lok n st (k + 1)) ≠ 0 := by
  obtain ⟨h1, h2⟩ := lok_small n st k (by omega)
  rw [lok_succ h]
  have h3 := (st.getD k (0, 0)).2.toNat_lt
  have h4 := shl_small (a := (st.getD k (0, 0)).2.toNat) (e := (st.getD k (0, 0)).1.toNat / 2 % 40) h3 (Nat.mod_lt _ (by decide))
  generalize hc : lok n st k = c at *
  have h6 : k * 140737488355328 ≤ 39 * 140737488355328 := Nat.mul_le_mul_right _ (by omega)
  by_cases hs : (st.getD k (0, 0)).1.toNat % 2 = 1
  · have e : lst c (st.getD k (0, 0)) = ⟨mkD (st.getD k (0, 0)).2.toNat, (c.ep + 1) % 2 ^ 64, c.mark, Nat.mod_lt _ (by decide), c.hmk⟩ := if_pos hs
    rw [e]; unfold fol
    rw [if_pos ⟨(Nat.mod_eq_of_lt (by omega)).symm, rfl⟩]; decide
  · have e : lst c (st.getD k (0, 0)) = ⟨c.root, c.ep, (c.mark + (1 + (st.getD k (0, 0)).2.toNat * 2 ^ ((st.getD k (0, 0)).1.toNat / 2 % 40) % 2 ^ 64) % 2 ^ 64) % 2 ^ 64, c.hep, Nat.mod_lt _ (by decide)⟩ := if_neg hs
    rw [e]
    generalize (st.getD k (0, 0)).2.toNat * 2 ^ ((st.getD k (0, 0)).1.toNat / 2 % 40) = q at *
    have h5 : c.mark < (c.mark + (1 + q % 2 ^ 64) % 2 ^ 64) % 2 ^ 64 := by omega
    unfold fol
    rw [if_neg (by intro hh; have := hh.1; simp at this), if_pos ⟨rfl, by simp, h5⟩]; decide
theorem lof_noF {n : Nat} {st : List (UInt8 × UInt8)} {k : Nat} (h : k ≤ st.length) (h40 : k ≤ 40) : noF (lof n st k) k := fun i hi => by
  unfold fk
  rw [lof_cel (by omega), lof_cel (by omega)]
  exact lok_fol (by omega) (by omega)
theorem lof_first (n : Nat) (st : List (UInt8 × UInt8)) (k : Nat) : cel (lof n st k) 0 = freC n := lof_cel (Nat.zero_le _)
theorem cel_eqb_self (x : Cel) : x.eqb x = true := by simp [Cel.eqb]

/-- What a log is told for. -/
def sndE (n : Nat) (l : List Cel) : Nat := if l.length = 0 then 16 else if (cel l 0).eqb (freC n) = false then 1 else if flt l = 0 then 0 else 13
def sndA (n : Nat) (l : List Cel) : Nat := if l.length = 0 then 0 else if (cel l 0).eqb (freC n) = false then 0 else flt l
theorem lof_snd {n : Nat} {st : List (UInt8 × UInt8)} {k : Nat} (h : k ≤ st.length) (h40 : k ≤ 40) : sndA n (lof n st k) = 0 ∧ sndE n (lof n st k) = 0 := by
  have hf : flt (lof n st k) = 0 := flt_none (by rw [lof_length]; exact lof_noF h h40)
  have hl : ¬ (lof n st k).length = 0 := by rw [lof_length]; omega
  have h0 : ¬ (cel (lof n st k) 0).eqb (freC n) = false := by rw [lof_first, cel_eqb_self]; decide
  unfold sndA sndE
  rw [if_neg hl, if_neg hl, if_neg h0, if_neg h0, if_pos hf]; exact ⟨hf, rfl⟩
/-! ### Examples -/
def exC (d e m : Nat) : Cel := ⟨mkD d, e % 2 ^ 64, m % 2 ^ 64, Nat.mod_lt _ (by decide), Nat.mod_lt _ (by decide)⟩
def exZ (e m : Nat) : Cel := ⟨Dig.zero, e % 2 ^ 64, m % 2 ^ 64, Nat.mod_lt _ (by decide), Nat.mod_lt _ (by decide)⟩
theorem cel_eq {a b : Cel} (h : a = b) : a.eqb b = true := by rw [h]; exact cel_eqb_self b
theorem fol_nxt {a : Cel} {d : Dig} (h : a.ep ≠ 2 ^ 64 - 1) : fol a (a.nxt d) = 1 := by
  have := a.hep
  unfold fol; rw [if_pos ⟨(Nat.mod_eq_of_lt (by omega)).symm, rfl⟩]
theorem fol_rsv {a : Cel} {k : Nat} (h : k ≠ 0) (h2 : a.mark + k < 2 ^ 64) : fol a (a.rsv k) = 2 := by
  have h3 : a.mark < (a.mark + k) % 2 ^ 64 := by rw [Nat.mod_eq_of_lt h2]; omega
  unfold fol; rw [if_neg (by intro hh; have : a.ep + 1 = a.ep := hh.1; omega), if_pos ⟨rfl, by simp [Cel.rsv], h3⟩]
theorem fol_back {a : Cel} {k : Nat} (h : k ≠ 0) (h2 : a.mark + k < 2 ^ 64) : fol (a.rsv k) a = 0 := by
  have h3 : a.mark < (a.mark + k) % 2 ^ 64 := by rw [Nat.mod_eq_of_lt h2]; omega
  unfold fol; rw [if_neg (by intro hh; have : a.ep + 1 = a.ep := hh.1; omega), if_neg (by intro hh; have : (a.mark + k) % 2 ^ 64 < a.mark := hh.2.2; omega)]
theorem fol_self (a : Cel) : fol a a = 0 := by
  unfold fol; rw [if_neg (by intro hh; have := hh.1; omega), if_neg (by intro hh; have := hh.2.2; omega)]
theorem freC_congr {a b : Nat} (h : hgt a = hgt b) : freC a = freC b := by unfold freC; rw [h]
theorem com_get {l : List Cel} {k m : Nat} (h : fk l k = 1) (hm : k < m) : (com l k).length < (com l m).length ∧ gt (com l m) (com l k).length = k + 1 := by
  have h1 := com_get_yes h m hm
  obtain ⟨h2, h3⟩ := List.getElem?_eq_some_iff.1 h1
  exact ⟨h2, by simp [gt, List.getD, h1]⟩
theorem com_len_yes {l : List Cel} {k : Nat} (h : fk l k = 1) : (com l (k + 1)).length = (com l k).length + 1 := by rw [com_yes h]; simp
theorem com_len_no {l : List Cel} {k : Nat} (h : ¬ fk l k = 1) : (com l (k + 1)).length = (com l k).length := by rw [com_no h]
theorem lv15 {i : Nat} (h : i < 6) : 1 ≤ gt [1, 5, 17, 65, 257, 1025] i ∧ gt [1, 5, 17, 65, 257, 1025] i ≤ 4096 := by
  have : i = 0 ∨ i = 1 ∨ i = 2 ∨ i = 3 ∨ i = 4 ∨ i = 5 := by omega
  rcases this with rfl | rfl | rfl | rfl | rfl | rfl <;> decide
theorem sub_back {a b : Nat} (h : a ≤ b) (hb : b < 2 ^ 64) : (a + (b + (2 ^ 64 - a)) % 2 ^ 64) % 2 ^ 64 = b := by omega
end Go.Cs
