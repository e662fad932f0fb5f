/- Nodes: the plain laws of the statements. No condition beyond those of each statement. -/
import Derived.Test.YthjplefmfjkhfaaDoorCsNod2
set_option linter.all false
set_option linter.unusedVariables false
namespace Go.Cs
open Go Go.RowKit

theorem NN.n_ok (x : NN) : 1 ≤ x.n ∧ x.n ≤ 4096 := by have := x.hk; unfold NN.n nof; omega
theorem NN.l_le (x : NN) : x.l ≤ hgt x.n := Nat.le_of_lt_succ (Nat.mod_lt _ (Nat.succ_pos _))
theorem NN.l_le5 (x : NN) : x.l ≤ 5 := Nat.le_trans x.l_le (hgt_le _)
theorem NN.j_lt (x : NN) : x.j < cnt x.n x.l := Nat.mod_lt _ (cnt_pos x.n_ok.1 _)
theorem NN.p_le (x : NN) : x.p ≤ 4 := prt_le _ _ _
theorem NN.chk0 (x : NN) : chkN (x.nod x.p) = 0 := x.chk x.l_le5 _
theorem NN.fit (x : NN) : fitV x.n (x.nod x.p) = 0 := by
  rw [fitV_in x.chk0 ⟨x.l_le, x.j_lt⟩, if_pos]
  refine emp_iff.2 fun k h1 h2 => ?_
  have h1' : x.p ≤ k := h1
  rw [NN.nod_r x _ h2, NN.nod_e x _ h2, if_neg (by omega), if_neg (by omega)]
  exact ⟨(Rec.eqb_iff _ _).2 rfl, (Ent.eqb_iff _ _).2 rfl⟩
theorem nodB_pos (x : Nod) : 0 < nodL x := by unfold nodL; split <;> decide

/-- What the error of bytes is, case by case. -/
theorem getNE_spec (l : List UInt8) : (l.length = 0 → getNE l = 6) ∧ (¬ l.length = 0 → 5 < byt l 0 → getNE l = 1) ∧ (byt l 0 ≤ 5 → l.length < sizL l → getNE l = 6) ∧ (byt l 0 ≤ 5 → sizL l < l.length → getNE l = 5) ∧ (byt l 0 ≤ 5 → l.length = sizL l → getNE l = ckL l 4) ∧
    (byt l 0 = 0 → sizL l = 185) ∧ (¬ byt l 0 = 0 → sizL l = 137) ∧ ckL l 4 ≤ 1 :=
  ⟨getNE_nil, getNE_lv, fun h => getNE_short (by omega), fun h => getNE_long (by omega), fun h => getNE_eq (by omega), fun h => if_pos h, fun h => if_neg h, by rcases ckL_le l 4 with h | h <;> omega⟩

/-! Replacing a part. -/
theorem R4.set_set (x : R4) (i : Nat) (a b : Rec) : (x.set i a).set i b = x.set i b := R4.ext' (by simp [R4.set])
theorem E4.set_set (x : E4) (i : Nat) (a b : Ent) : (x.set i a).set i b = x.set i b := E4.ext' (by simp [E4.set])
theorem R4.set_get {x : R4} {i : Nat} (hi : i < 4) (h : x.get i = Rec.zero) : x.set i Rec.zero = x := R4.ext_get fun k hk => by
  rw [R4.get_set hi]; split
  · next h1 => rw [h1, h]
  · rfl
theorem E4.set_get {x : E4} {i : Nat} (hi : i < 4) (h : x.get i = Ent.zero) : x.set i Ent.zero = x := E4.ext_get fun k hk => by
  rw [E4.get_set hi]; split
  · next h1 => rw [h1, h]
  · rfl
theorem wantR {y : Nod} {i : Nat} {r : Rec} {e : Ent} (hi : i < 4) (h : y.es.get i = Ent.zero) : ((y.setR i r).setE i e).setE i Ent.zero = y.setR i r :=
  Nod.ext' rfl rfl rfl (by show (y.es.set i e).set i Ent.zero = y.es; rw [E4.set_set, E4.set_get hi h])
theorem wantE {y : Nod} {i : Nat} {r : Rec} {e : Ent} (hi : i < 4) (h : y.rs.get i = Rec.zero) : ((y.setR i r).setE i e).setR i Rec.zero = y.setE i e :=
  Nod.ext' rfl rfl (by show (y.rs.set i r).set i Rec.zero = y.rs; rw [R4.set_set, R4.set_get hi h]) rfl
theorem chkN_setR {y : Nod} {i : Nat} {r : Rec} (hi : i < 4) (h : chkN y = 0) (h0 : y.lv = 0) : chkN (y.setR i r) = chkR r := by
  have hz := chkN_rs h h0
  rw [chkN_of (x := y.setR i r) (show y.lv ≤ 5 by omega) ⟨fun _ k hk => by rw [show (y.setR i r).es = y.es from rfl, (chkN_zs h).1 h0, E4.get_zero], fun h1 => absurd h0 h1⟩]
  unfold ckA; rw [if_pos (show (y.setR i r).lv = 0 from h0)]
  have hg : ∀ k, (y.setR i r).rs.get k = if k = i then r else y.rs.get k := fun k => R4.get_set hi
  rcases chkR_le r with h1 | h1
  · rw [h1]; refine chkA_zero.2 fun k hk => ?_
    rw [hg]; split
    · exact h1
    · exact chkA_zero.1 hz k hk
  · rw [h1]; exact chkA_stop (i := i) chkR_le hi (by rw [hg, if_pos rfl, h1]; decide)
theorem chkN_setE {y : Nod} {i : Nat} {r : Ent} (hi : i < 4) (h : chkN y = 0) (h0 : ¬ y.lv = 0) : chkN (y.setE i r) = chkE r := by
  have hz := chkN_es h h0
  rw [chkN_of (x := y.setE i r) (show y.lv ≤ 5 from chkN_lv h) ⟨fun h1 => absurd h1 h0, fun _ k hk => by rw [show (y.setE i r).rs = y.rs from rfl, (chkN_zs h).2 h0, R4.get_zero]⟩]
  unfold ckA; rw [if_neg (show ¬ (y.setE i r).lv = 0 from h0)]
  have hg : ∀ k, (y.setE i r).es.get k = if k = i then r else y.es.get k := fun k => E4.get_set hi
  rcases chkE_le r with h1 | h1
  · rw [h1]; refine chkA_zero.2 fun k hk => ?_
    rw [hg]; split
    · exact h1
    · exact chkA_zero.1 hz k hk
  · rw [h1]; exact chkA_stop (i := i) chkE_le hi (by rw [hg, if_pos rfl, h1]; decide)
theorem withE_yes {x : Nod} {p k : Nat} (hp : p < 4) (h : chkN x = 0) (hk : min x.lv 1 = k) : withE x ((p : Nat) : Int) k = 0 := by
  unfold withE; rw [if_neg (by omega), if_neg (by omega), if_pos h, if_pos hk]
theorem withE_no {x : Nod} {p k : Nat} (hk : ¬ min x.lv 1 = k) : withE x ((p : Nat) : Int) k = 1 := by
  unfold withE; (repeat' split) <;> first | rfl | omega
theorem NN.es0 (x : NN) (h0 : x.l = 0) {i : Nat} (hi : i < 4) : (x.nod x.p).es.get i = Ent.zero := by rw [NN.nod_e x _ hi, if_neg (by simp [h0])]
theorem NN.rs0 (x : NN) (h0 : ¬ x.l = 0) {i : Nat} (hi : i < 4) : (x.nod x.p).rs.get i = Rec.zero := by rw [NN.nod_r x _ hi, if_neg (by simp [h0])]

set_option maxRecDepth 100000 in
theorem fit_known : ∀ l, l < 6 → fitV 4096 (Nod.mt l (cnt 4096 l - 1)) = 0 ∧ fitV 4096 (Nod.mt l (cnt 4096 l)) = 17 ∧ fitV 4096 (Nod.mt l 4294967295) = 17 := by decide
end Go.Cs
