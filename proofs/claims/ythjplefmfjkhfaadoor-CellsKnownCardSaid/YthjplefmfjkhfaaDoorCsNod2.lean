/- Reading nodes: what bytes say, when they are those of a node; plain laws. No condition beyond those of each statement. -/
import Derived.Test.YthjplefmfjkhfaaDoorCsNod
set_option linter.all false
set_option linter.unusedVariables false
namespace Go.Cs
open Go Go.RowKit

/-- The i-th part of bytes, of this size. -/
def prtB (l : List UInt8) (sz i : Nat) : List UInt8 := (l.drop (5 + i * sz)).take sz
/-- The node whose first i parts have been read. -/
def preN (l : List UInt8) (i : Nat) : Nod := ⟨byt l 0, getV ((l.drop 1).take 4) 4,
  ⟨(List.range 4).map fun k => if k < i ∧ byt l 0 = 0 then Rec.of (prtB l 45 k) else Rec.zero, by simp⟩,
  ⟨(List.range 4).map fun k => if k < i ∧ ¬ byt l 0 = 0 then Ent.of (prtB l 33 k) else Ent.zero, by simp⟩, byt_lt _ _, getV_lt _ 4⟩
theorem preN_r (l : List UInt8) (i : Nat) {k : Nat} (h : k < 4) : (preN l i).rs.get k = if k < i ∧ byt l 0 = 0 then Rec.of (prtB l 45 k) else Rec.zero := by simp [preN, R4.get, List.getD, h]
theorem preN_e (l : List UInt8) (i : Nat) {k : Nat} (h : k < 4) : (preN l i).es.get k = if k < i ∧ ¬ byt l 0 = 0 then Ent.of (prtB l 33 k) else Ent.zero := by simp [preN, E4.get, List.getD, h]
theorem preN_zero (l : List UInt8) (h1 : byt l 0 < 256) (h2 : getV ((l.drop 1).take 4) 4 < 2 ^ 32) : (Nod.zero.setLv (byt l 0) h1).setIx (getV ((l.drop 1).take 4) 4) h2 = preN l 0 := by
  refine Nod.ext' rfl rfl (R4.ext_get fun i hi => ?_) (E4.ext_get fun i hi => ?_)
  · rw [preN_r l 0 hi, if_neg (by omega)]; exact R4.get_zero i
  · rw [preN_e l 0 hi, if_neg (by omega)]; exact E4.get_zero i
theorem preN_setR {l : List UInt8} {p : Nat} (h : p < 4) (h0 : byt l 0 = 0) : (preN l p).setR p (Rec.of (prtB l 45 p)) = preN l (p + 1) := by
  refine Nod.ext' rfl rfl (R4.ext_get fun i hi => ?_) (E4.ext_get fun i hi => ?_)
  · show ((preN l p).rs.set p _).get i = _
    rw [R4.get_set h, preN_r l _ hi, preN_r l _ hi]
    by_cases h1 : i = p
    · subst h1; rw [if_pos rfl, if_pos ⟨by omega, h0⟩]
    · rw [if_neg h1]; by_cases h2 : i < p
      · rw [if_pos ⟨h2, h0⟩, if_pos ⟨by omega, h0⟩]
      · rw [if_neg (by omega), if_neg (by omega)]
  · show (preN l p).es.get i = _
    rw [preN_e l _ hi, preN_e l _ hi, if_neg (by simp [h0]), if_neg (by simp [h0])]
theorem preN_setE {l : List UInt8} {p : Nat} (h : p < 4) (h0 : ¬ byt l 0 = 0) : (preN l p).setE p (Ent.of (prtB l 33 p)) = preN l (p + 1) := by
  refine Nod.ext' rfl rfl (R4.ext_get fun i hi => ?_) (E4.ext_get fun i hi => ?_)
  · show (preN l p).rs.get i = _
    rw [preN_r l _ hi, preN_r l _ hi, if_neg (by simp [h0]), if_neg (by simp [h0])]
  · show ((preN l p).es.set p _).get i = _
    rw [E4.get_set h, preN_e l _ hi, preN_e l _ hi]
    by_cases h1 : i = p
    · subst h1; rw [if_pos rfl, if_pos ⟨by omega, h0⟩]
    · rw [if_neg h1]; by_cases h2 : i < p
      · rw [if_pos ⟨h2, h0⟩, if_pos ⟨by omega, h0⟩]
      · rw [if_neg (by omega), if_neg (by omega)]

/-- The error of bytes' parts, of bytes; the node of bytes. -/
def ckL (l : List UInt8) (i : Nat) : Nat := if byt l 0 = 0 then chkA chkR (fun k => Rec.of (prtB l 45 k)) i else chkA chkE (fun k => Ent.of (prtB l 33 k)) i
def sizL (l : List UInt8) : Nat := if byt l 0 = 0 then 185 else 137
def getNE (l : List UInt8) : Nat := if l.length = 0 then 6 else if 5 < byt l 0 then 1 else if l.length < sizL l then 6 else if sizL l < l.length then 5 else ckL l 4
def getN (l : List UInt8) : Nod := if getNE l = 0 then preN l 4 else Nod.zero
theorem ckL_le (l : List UInt8) (i : Nat) : ckL l i = 0 ∨ ckL l i = 1 := by
  unfold ckL; split
  · exact chkA_le chkR_le _
  · exact chkA_le chkE_le _
theorem ckL_zero (l : List UInt8) : ckL l 0 = 0 := by unfold ckL; split <;> rfl
theorem ckL_R {l : List UInt8} {i : Nat} (h : ckL l i = 0) (h0 : byt l 0 = 0) (hc : chkR (Rec.of (prtB l 45 i)) = 0) : ckL l (i + 1) = 0 := by
  unfold ckL at *; rw [if_pos h0] at *; rw [chkA, if_pos h, hc]
theorem ckL_E {l : List UInt8} {i : Nat} (h : ckL l i = 0) (h0 : ¬ byt l 0 = 0) (hc : chkE (Ent.of (prtB l 33 i)) = 0) : ckL l (i + 1) = 0 := by
  unfold ckL at *; rw [if_neg h0] at *; rw [chkA, if_pos h, hc]
theorem ckL_badR {l : List UInt8} {i : Nat} (hi : i < 4) (h0 : byt l 0 = 0) (hc : chkR (Rec.of (prtB l 45 i)) = 1) : ckL l 4 = 1 := by
  unfold ckL; rw [if_pos h0]; exact chkA_stop (g := fun k => Rec.of (prtB l 45 k)) chkR_le hi (by rw [hc]; decide)
theorem ckL_badE {l : List UInt8} {i : Nat} (hi : i < 4) (h0 : ¬ byt l 0 = 0) (hc : chkE (Ent.of (prtB l 33 i)) = 1) : ckL l 4 = 1 := by
  unfold ckL; rw [if_neg h0]; exact chkA_stop (g := fun k => Ent.of (prtB l 33 k)) chkE_le hi (by rw [hc]; decide)
theorem getN_of {l : List UInt8} {e : Nat} (h : getNE l = e) : getN l = if e = 0 then preN l 4 else Nod.zero := by rw [getN, h]
theorem getNE_nil {l : List UInt8} (h : l.length = 0) : getNE l = 6 := if_pos h
theorem getNE_lv {l : List UInt8} (h : ¬ l.length = 0) (h1 : 5 < byt l 0) : getNE l = 1 := by unfold getNE; rw [if_neg h, if_pos h1]
theorem getNE_short {l : List UInt8} (h1 : ¬ 5 < byt l 0) (h2 : l.length < sizL l) : getNE l = 6 := by
  unfold getNE; (repeat' split) <;> first | rfl | omega
theorem getNE_long {l : List UInt8} (h1 : ¬ 5 < byt l 0) (h2 : sizL l < l.length) : getNE l = 5 := by
  unfold getNE; rw [if_neg (by omega), if_neg h1, if_neg (by omega), if_pos h2]
theorem getNE_eq {l : List UInt8} (h1 : ¬ 5 < byt l 0) (h2 : l.length = sizL l) : getNE l = ckL l 4 := by
  have : 0 < sizL l := by unfold sizL; split <;> decide
  unfold getNE; rw [if_neg (by omega), if_neg h1, if_neg (by omega), if_neg (by omega)]
theorem getNE_zero {l : List UInt8} (h : getNE l = 0) : byt l 0 ≤ 5 ∧ l.length = sizL l ∧ ckL l 4 = 0 := by
  unfold getNE at h
  repeat' (split at h)
  all_goals first | omega | exact ⟨by omega, by omega, h⟩

/-- Bytes that are cut into parts are those of the parts. -/
theorem catA_cut {α : Type} {f : α → List UInt8} {g : Nat → α} {d : List UInt8} {sz : Nat} : ∀ {n : Nat}, n * sz ≤ d.length → (∀ i, i < n → f (g i) = (d.drop (i * sz)).take sz) → catA f g n = d.take (n * sz)
  | 0, _, _ => by simp [catA]
  | n + 1, hl, h => by
    rw [Nat.add_mul, Nat.one_mul] at hl ⊢
    rw [catA, catA_cut (by omega) (fun i hi => h i (by omega)), h n (by omega), List.take_add]
theorem prtB_drop (l : List UInt8) (sz i : Nat) : prtB l sz i = ((l.drop 5).drop (i * sz)).take sz := by rw [prtB, List.drop_drop]
theorem prtB_len {l : List UInt8} {sz i : Nat} (hi : i < 4) (h : l.length = 5 + 4 * sz) : (prtB l sz i).length = sz := by
  have := Nat.mul_le_mul_right sz (show i + 1 ≤ 4 from hi)
  rw [Nat.add_mul, Nat.one_mul] at this
  simp [prtB]; omega
theorem hed_of {l : List UInt8} (h : 5 ≤ l.length) : hedB (preN l 4) = l.take 5 := by
  show UInt8.ofNat (byt l 0) :: be (getV ((l.drop 1).take 4) 4) 4 = l.take 5
  rw [be_getV' (by simp; omega)]
  match l, h with
  | a :: r, _ => simp [byt]
/-- Bytes that are read are those of what is read. -/
theorem nodB_of {l : List UInt8} (h : getNE l = 0) : nodB (getN l) = l := by
  obtain ⟨h5, hl, hc⟩ := getNE_zero h
  rw [getN_of h, if_pos rfl, nodB]
  by_cases h0 : byt l 0 = 0
  · have hl2 : l.length = 185 := by rw [hl, sizL, if_pos h0]
    rw [if_pos (show (preN l 4).lv = 0 from h0), hed_of (by omega), catA_cut (d := l.drop 5) (sz := 45) (by simp; omega) (fun i hi => by rw [preN_r l 4 hi, if_pos ⟨hi, h0⟩, recB_of (prtB_len hi (by omega)), prtB_drop]),
      List.take_of_length_le (l := l.drop 5) (by simp; omega), List.take_append_drop]
  · have hl2 : l.length = 137 := by rw [hl, sizL, if_neg h0]
    rw [if_neg (show ¬ (preN l 4).lv = 0 from h0), hed_of (by omega), catA_cut (d := l.drop 5) (sz := 33) (by simp; omega) (fun i hi => by rw [preN_e l 4 hi, if_pos ⟨hi, h0⟩, entB_of (prtB_len hi (by omega)), prtB_drop]),
      List.take_of_length_le (l := l.drop 5) (by simp; omega), List.take_append_drop]
theorem chkN_of_get {l : List UInt8} (h : getNE l = 0) : chkN (getN l) = 0 := by
  obtain ⟨h5, hl, hc⟩ := getNE_zero h
  rw [getN_of h, if_pos rfl, chkN_of (x := preN l 4) h5 ⟨fun h0 k hk => by rw [preN_e l 4 hk, if_neg (by intro hh; exact hh.2 h0)], fun h0 k hk => by rw [preN_r l 4 hk, if_neg (by intro hh; exact h0 hh.2)]⟩]
  unfold ckA; unfold ckL at hc
  by_cases h0 : byt l 0 = 0
  · rw [if_pos h0] at hc; rw [if_pos (show (preN l 4).lv = 0 from h0)]
    exact chkA_zero.2 fun i hi => by rw [preN_r l 4 hi, if_pos ⟨hi, h0⟩]; exact chkA_zero.1 hc i hi
  · rw [if_neg h0] at hc; rw [if_neg (show ¬ (preN l 4).lv = 0 from h0)]
    exact chkA_zero.2 fun i hi => by rw [preN_e l 4 hi, if_pos ⟨hi, h0⟩]; exact chkA_zero.1 hc i hi

theorem byt_nodB (x : Nod) : byt (nodB x) 0 = x.lv := by
  show byt (UInt8.ofNat x.lv :: _) 0 = _
  simp [byt, Nat.mod_eq_of_lt (show x.lv < 256 from x.hlv)]
theorem hed_drop (x : Nod) : (nodB x).drop 5 = if x.lv = 0 then catA recB x.rs.get 4 else catA entB x.es.get 4 := by
  rw [nodB, List.drop_append_of_le_length (by simp [hedB]), List.drop_eq_nil_of_le (by simp [hedB]), List.nil_append]
theorem prtB_R {x : Nod} (h0 : x.lv = 0) {i : Nat} (hi : i < 4) : prtB (nodB x) 45 i = recB (x.rs.get i) := by
  rw [prtB_drop, hed_drop, if_pos h0]; exact catA_at recB_len hi
theorem prtB_E {x : Nod} (h0 : ¬ x.lv = 0) {i : Nat} (hi : i < 4) : prtB (nodB x) 33 i = entB (x.es.get i) := by
  rw [prtB_drop, hed_drop, if_neg h0]; exact catA_at entB_len hi
theorem ix_nodB (x : Nod) : getV (((nodB x).drop 1).take 4) 4 = x.ix := by
  have h : ((nodB x).drop 1).take 4 = be x.ix 4 := by
    rw [nodB, hedB, List.cons_append, List.drop_succ_cons, List.drop_zero, List.take_append_of_le_length (by simp), List.take_of_length_le (by simp)]
  rw [h]; exact getV_be4 x.hix
/-- The bytes of a node are read back as the node. -/
theorem getNE_nodB {x : Nod} (h : chkN x = 0) : getNE (nodB x) = 0 := by
  have h5 := chkN_lv h
  rw [getNE_eq (by rw [byt_nodB]; omega) (by rw [nodB_len, sizL, byt_nodB])]
  unfold ckL; rw [byt_nodB]
  by_cases h0 : x.lv = 0
  · rw [if_pos h0]; exact chkA_zero.2 fun i hi => by rw [prtB_R h0 hi, Rec.of_B]; exact chkA_zero.1 (chkN_rs h h0) i hi
  · rw [if_neg h0]; exact chkA_zero.2 fun i hi => by rw [prtB_E h0 hi, Ent.of_B]; exact chkA_zero.1 (chkN_es h h0) i hi
theorem chkN_zs {x : Nod} (h : chkN x = 0) : (x.lv = 0 → x.es = E4.zero) ∧ (¬ x.lv = 0 → x.rs = R4.zero) := by
  have h5 := chkN_lv h
  unfold chkN at h
  rw [if_neg (by omega)] at h
  constructor
  · intro h0; rw [if_pos h0] at h; split at h
    · exact (E4.eqb_iff _ _).1 ‹_›
    · cases h
  · intro h0; rw [if_neg h0] at h; split at h
    · exact (R4.eqb_iff _ _).1 ‹_›
    · cases h
theorem getN_nodB {x : Nod} (h : chkN x = 0) : getN (nodB x) = x := by
  rw [getN_of (getNE_nodB h), if_pos rfl]
  refine Nod.ext' (byt_nodB x) (ix_nodB x) (R4.ext_get fun i hi => ?_) (E4.ext_get fun i hi => ?_)
  · rw [preN_r _ 4 hi, byt_nodB]
    by_cases h0 : x.lv = 0
    · rw [if_pos ⟨hi, h0⟩, prtB_R h0 hi, Rec.of_B]
    · rw [if_neg (by intro hh; exact h0 hh.2), (chkN_zs h).2 h0, R4.get_zero]
  · rw [preN_e _ 4 hi, byt_nodB]
    by_cases h0 : x.lv = 0
    · rw [if_neg (by intro hh; exact hh.2 h0), (chkN_zs h).1 h0, E4.get_zero]
    · rw [if_pos ⟨hi, h0⟩, prtB_E h0 hi, Ent.of_B]
theorem nodB_inj {x y : Nod} (hx : chkN x = 0) (hy : chkN y = 0) (h : nodB x = nodB y) : x = y := by rw [← getN_nodB hx, h, getN_nodB hy]

/-! Whole parts. -/
theorem sumB_gt {l : List UInt8} {t n : Nat} (h : t + 1 < l.length) (hn : t + 1 ≤ n) (hb : byt l (t + 1) ≠ 0) : sumB l n > 0 := by
  have h1 := sumB_step (l := l) (t := t) h
  have h2 : sumB l (t + 1) ≤ sumB l n := by
    unfold sumB
    obtain ⟨d, rfl⟩ : ∃ d, n = (t + 1) + d := ⟨n - (t + 1), by omega⟩
    rw [List.take_add (i := t + 1), List.map_append, List.sum_append]; exact Nat.le_add_right _ _
  omega
theorem chkR_end {l : List UInt8} (hl : l.length = 45) (h2 : ¬ byt l 0 > 2) (hs : byt l 0 = 0 → sumB l 44 = 0) : chkR (Rec.of l) = 0 := by
  by_cases h0 : byt l 0 = 0
  · exact chkR_zero hl h0 (by rw [hs h0]; omega)
  · exact chkR_st h2 h0
theorem chkE_end {l : List UInt8} (hl : l.length = 33) (h2 : ¬ byt l 0 > 2) (hs : byt l 0 = 0 → sumB l 32 = 0) : chkE (Ent.of l) = 0 := by
  by_cases h0 : byt l 0 = 0
  · exact chkE_zero hl h0 (by rw [hs h0]; omega)
  · exact chkE_st h2 h0
end Go.Cs
