/- Nodes, their lists of parts, and what makes them, as plain data: cells, loads, stores, comparing, bytes. For any program; no condition beyond those of each statement. -/
import Derived.Test.YthjplefmfjkhfaaDoorCsRecs2
import Derived.Test.YthjplefmfjkhfaaDoorCsPth
import Derived.Laws.Concat
set_option linter.all false
set_option linter.unusedVariables false
namespace Go.Cs
open Go Go.RowKit

/-- Four records, four entries. -/
structure R4 where
  l : List Rec
  h : l.length = 4
structure E4 where
  l : List Ent
  h : l.length = 4
structure Nod where
  lv : Nat
  ix : Nat
  rs : R4
  es : E4
  hlv : lv < 256
  hix : ix < 2 ^ 32
/-- What a node is made of in a statement. -/
structure NN where
  k : Nat
  lv : Nat
  ix : Nat
  st : List UInt8
  sd : List UInt8
  hk : k < 65536
  hlv : lv < 256
  hix : ix < 65536
  hst : st.length = 4
  hsd : sd.length = 4
structure Par where
  r : Rec
  e : Ent

theorem R4.ext' {a b : R4} (h : a.l = b.l) : a = b := by cases a; cases b; cases h; rfl
theorem E4.ext' {a b : E4} (h : a.l = b.l) : a = b := by cases a; cases b; cases h; rfl
theorem Nod.ext' {a b : Nod} (h : a.lv = b.lv) (h2 : a.ix = b.ix) (h3 : a.rs = b.rs) (h4 : a.es = b.es) : a = b := by cases a; cases b; cases h; cases h2; cases h3; cases h4; rfl

def R4.zero : R4 := ⟨List.replicate 4 Rec.zero, by simp⟩
def E4.zero : E4 := ⟨List.replicate 4 Ent.zero, by simp⟩
def Nod.emp (lv ix : Nat) (h1 : lv < 256) (h2 : ix < 2 ^ 32) : Nod := ⟨lv, ix, R4.zero, E4.zero, h1, h2⟩
def Nod.mt (lv ix : Nat) : Nod := ⟨lv % 256, ix % 2 ^ 32, R4.zero, E4.zero, Nat.mod_lt _ (by decide), Nat.mod_lt _ (by decide)⟩
theorem Nod.mt_eq {lv ix : Nat} (h1 : lv < 256) (h2 : ix < 2 ^ 32) : Nod.emp lv ix h1 h2 = Nod.mt lv ix := Nod.ext' (Nat.mod_eq_of_lt h1).symm (Nat.mod_eq_of_lt h2).symm rfl rfl
def Nod.zero : Nod := Nod.emp 0 0 (by decide) (by decide)
def R4.get (x : R4) (i : Nat) : Rec := x.l.getD i Rec.zero
def E4.get (x : E4) (i : Nat) : Ent := x.l.getD i Ent.zero
def R4.set (x : R4) (i : Nat) (r : Rec) : R4 := ⟨x.l.set i r, by simp [x.h]⟩
def E4.set (x : E4) (i : Nat) (r : Ent) : E4 := ⟨x.l.set i r, by simp [x.h]⟩
def Nod.setR (x : Nod) (i : Nat) (r : Rec) : Nod := ⟨x.lv, x.ix, x.rs.set i r, x.es, x.hlv, x.hix⟩
def Nod.setE (x : Nod) (i : Nat) (r : Ent) : Nod := ⟨x.lv, x.ix, x.rs, x.es.set i r, x.hlv, x.hix⟩
def Nod.setLv (x : Nod) (n : Nat) (h : n < 256) : Nod := ⟨n, x.ix, x.rs, x.es, h, x.hix⟩
def Nod.setIx (x : Nod) (n : Nat) (h : n < 2 ^ 32) : Nod := ⟨x.lv, n, x.rs, x.es, x.hlv, h⟩

theorem R4.get_set {x : R4} {i j : Nat} {r : Rec} (hi : i < 4) : (x.set i r).get j = if j = i then r else x.get j := by
  have h4 := x.h
  simp only [R4.get, R4.set, List.getD, List.getElem?_set]
  by_cases h : i = j
  · subst h; rw [if_pos rfl, if_pos (by omega), if_pos rfl]; rfl
  · rw [if_neg h, if_neg (fun h2 => h h2.symm)]
theorem E4.get_set {x : E4} {i j : Nat} {r : Ent} (hi : i < 4) : (x.set i r).get j = if j = i then r else x.get j := by
  have h4 := x.h
  simp only [E4.get, E4.set, List.getD, List.getElem?_set]
  by_cases h : i = j
  · subst h; rw [if_pos rfl, if_pos (by omega), if_pos rfl]; rfl
  · rw [if_neg h, if_neg (fun h2 => h h2.symm)]
theorem R4.get_zero (i : Nat) : R4.zero.get i = Rec.zero := by
  simp only [R4.get, R4.zero, List.getD, List.getElem?_replicate]; split <;> rfl
theorem E4.get_zero (i : Nat) : E4.zero.get i = Ent.zero := by
  simp only [E4.get, E4.zero, List.getD, List.getElem?_replicate]; split <;> rfl
theorem R4.ext_get {x y : R4} (h : ∀ i, i < 4 → x.get i = y.get i) : x = y := by
  refine R4.ext' (List.ext_getElem (x.h.trans y.h.symm) fun i h1 h2 => ?_)
  have := h i (by rw [← x.h]; exact h1)
  simpa [R4.get, List.getD, h1, h2] using this
theorem E4.ext_get {x y : E4} (h : ∀ i, i < 4 → x.get i = y.get i) : x = y := by
  refine E4.ext' (List.ext_getElem (x.h.trans y.h.symm) fun i h1 h2 => ?_)
  have := h i (by rw [← x.h]; exact h1)
  simpa [E4.get, List.getD, h1, h2] using this

def r4C (x : R4) : List Value := x.l.flatMap recC
def e4C (x : E4) : List Value := x.l.flatMap entC
def nodC (x : Nod) : List Value := .int .u8 ((x.lv : Nat) : Int) :: .int .u32 ((x.ix : Nat) : Int) :: (r4C x.rs ++ e4C x.es)
def nnC (x : NN) : List Value := .int .u16 ((x.k : Nat) : Int) :: .int .u8 ((x.lv : Nat) : Int) :: .int .u16 ((x.ix : Nat) : Int) :: (u8s x.st ++ u8s x.sd)
def parC (x : Par) : List Value := recC x.r ++ entC x.e

@[simp] theorem r4C_len (x : R4) : (r4C x).length = 140 := by rw [r4C, flatMap_len recC_len, x.h]
@[simp] theorem e4C_len (x : E4) : (e4C x).length = 132 := by rw [e4C, flatMap_len entC_len, x.h]
@[simp] theorem nodC_len (x : Nod) : (nodC x).length = 274 := by simp [nodC]
@[simp] theorem nnC_len (x : NN) : (nnC x).length = 11 := by simp [nnC, x.hst, x.hsd]
@[simp] theorem parC_len (x : Par) : (parC x).length = 68 := by simp [parC]
theorem r4C_one (x : R4) : ∀ u ∈ r4C x, u.oneCell' = true := by
  intro u hu; obtain ⟨r, _, h⟩ := List.mem_flatMap.1 hu; exact recC_one r u h
theorem e4C_one (x : E4) : ∀ u ∈ e4C x, u.oneCell' = true := by
  intro u hu; obtain ⟨r, _, h⟩ := List.mem_flatMap.1 hu; exact entC_one r u h
theorem nodC_one (x : Nod) : ∀ u ∈ nodC x, u.oneCell' = true := by
  intro u hu
  simp only [nodC, List.mem_cons, List.mem_append] at hu
  rcases hu with rfl | rfl | hu | hu
  · rfl
  · rfl
  · exact r4C_one _ u hu
  · exact e4C_one _ u hu
theorem parC_one (x : Par) : ∀ u ∈ parC x, u.oneCell' = true := by
  intro u hu
  simp only [parC, List.mem_append] at hu
  rcases hu with hu | hu
  · exact recC_one _ u hu
  · exact entC_one _ u hu
theorem nnC_one (x : NN) : ∀ u ∈ nnC x, u.oneCell' = true := by
  intro u hu
  simp only [nnC, List.mem_cons, List.mem_append] at hu
  rcases hu with rfl | rfl | rfl | hu | hu
  · rfl
  · rfl
  · rfl
  · exact u8s_one _ u hu
  · exact u8s_one _ u hu

/-- One of the parts of a row of structs. -/
theorem flatMap_at {α : Type} {f : α → List Value} {sz : Nat} (hf : ∀ x, (f x).length = sz) {l : List α} {i : Nat} (d : α) (h : i < l.length) : ((l.flatMap f).drop (i * sz)).take sz = f (l.getD i d) := by
  rw [flatMap_drop hf, List.drop_eq_getElem_cons h, List.flatMap_cons, List.take_append_of_le_length (by rw [hf]; omega), List.take_of_length_le (by rw [hf]; omega)]
  simp [List.getD, h]
theorem r4_at {x : R4} {i : Nat} (h : i < 4) : ((r4C x).drop (i * 35)).take 35 = recC (x.get i) := flatMap_at recC_len _ (by rw [x.h]; exact h)
theorem e4_at {x : E4} {i : Nat} (h : i < 4) : ((e4C x).drop (i * 33)).take 33 = entC (x.get i) := flatMap_at entC_len _ (by rw [x.h]; exact h)

theorem nod_rs (x : Nod) : ((nodC x).drop 2).take (r4C x.rs).length = r4C x.rs := by
  show ((r4C x.rs ++ e4C x.es)).take _ = _
  rw [List.take_append_of_le_length (Nat.le_refl _), List.take_of_length_le (Nat.le_refl _)]
theorem nod_es (x : Nod) : ((nodC x).drop 142).take (e4C x.es).length = e4C x.es := by
  show ((r4C x.rs ++ e4C x.es).drop 140).take _ = _
  rw [List.drop_append, r4C_len, Nat.sub_self, List.drop_zero, List.drop_eq_nil_of_le (by simp), List.nil_append, List.take_of_length_le (Nat.le_refl _)]
theorem nod_drop (x : Nod) (k : Nat) : (nodC x).drop (2 + k) = (r4C x.rs ++ e4C x.es).drop k := by rw [← List.drop_drop]; rfl
theorem nod_r {x : Nod} {i : Nat} (h : i < 4) : ((nodC x).drop (2 + i * 35)).take (recC (x.rs.get i)).length = recC (x.rs.get i) := by
  rw [nod_drop, recC_len, List.drop_append_of_le_length (by simp; omega), List.take_append_of_le_length (by simp; omega)]
  exact r4_at h
theorem nod_e {x : Nod} {i : Nat} (h : i < 4) : ((nodC x).drop (142 + i * 33)).take (entC (x.es.get i)).length = entC (x.es.get i) := by
  rw [show 142 + i * 33 = 2 + (140 + i * 33) by omega, nod_drop, entC_len, List.drop_append, r4C_len, List.drop_eq_nil_of_le (by simp), List.nil_append, Nat.add_sub_cancel_left]
  exact e4_at h
theorem cell_of_at {cs us : List Value} {o j : Nat} {v : Value} (h : (cs.drop o).take us.length = us) (hv : us[j]? = some v) : cs[o + j]? = some v := by
  rw [← h, List.getElem?_take] at hv
  split at hv
  · rwa [List.getElem?_drop] at hv
  · cases hv
theorem nod_rst {x : Nod} {i : Nat} (h : i < 4) : (nodC x)[2 + i * 35]? = some (.int .u8 (((x.rs.get i).st : Nat) : Int)) := cell_of_at (j := 0) (nod_r h) rfl
theorem nod_est {x : Nod} {i : Nat} (h : i < 4) : (nodC x)[142 + i * 33]? = some (.int .u8 (((x.es.get i).st : Nat) : Int)) := cell_of_at (j := 0) (nod_e h) rfl
theorem nn_st {x : NN} {i : Nat} (h : i < 4) : (nnC x)[3 + i * 1]? = some (.int .u8 ((byt x.st i : Nat) : Int)) := by
  rw [Nat.mul_one, Nat.add_comm]
  show (u8s x.st ++ u8s x.sd)[i]? = _
  have := x.hst
  rw [List.getElem?_append_left (by simp; omega)]
  simp [u8s, byt, List.getD, show i < x.st.length by omega]
theorem nn_sd {x : NN} {i : Nat} (h : i < 4) : (nnC x)[7 + i * 1]? = some (.int .u8 ((byt x.sd i : Nat) : Int)) := by
  rw [Nat.mul_one, show 7 + i = (4 + i) + 3 by omega]
  show (u8s x.st ++ u8s x.sd)[4 + i]? = _
  have := x.hst
  have := x.hsd
  rw [List.getElem?_append_right (by simp; omega)]
  simp [u8s, byt, List.getD, x.hst, show i < x.sd.length by omega]
theorem par_r (x : Par) : ((parC x).drop 0).take (recC x.r).length = recC x.r := by simp [parC, List.take_append]
theorem par_e (x : Par) : ((parC x).drop 35).take (entC x.e).length = entC x.e := by
  rw [parC, List.drop_append, List.drop_eq_nil_of_le (by simp), List.nil_append, recC_len, List.drop_zero, List.take_of_length_le (Nat.le_refl _)]

theorem setFrom_cons2 (a b : Value) (cs vs : List Value) (k : Nat) : setFrom (a :: b :: cs) (2 + k) vs = a :: b :: setFrom cs k vs := by
  induction vs generalizing cs k with
  | nil => rfl
  | cons v vs ih =>
    rw [setFrom, setFrom, Nat.add_assoc, show (a :: b :: cs).set (2 + k) v = a :: b :: cs.set k v by rw [Nat.add_comm 2 k]; rfl, ih]
theorem setFrom_appL (p r vs : List Value) (k : Nat) (h : k + vs.length ≤ p.length) : setFrom (p ++ r) k vs = setFrom p k vs ++ r := by
  rw [setFrom_eq _ _ _ (by simp; omega), setFrom_eq _ _ _ h, List.take_append_of_le_length (by omega), List.drop_append_of_le_length h]; simp
theorem setFrom_appR (p r vs : List Value) (k : Nat) (h : k + vs.length ≤ r.length) : setFrom (p ++ r) (p.length + k) vs = p ++ setFrom r k vs := by
  rw [setFrom_eq _ _ _ (by simp; omega), setFrom_eq _ _ _ h, Nat.add_assoc, List.take_length_add_append, List.drop_length_add_append]; simp
theorem nod_setR {x : Nod} {i : Nat} {r : Rec} (h : i < 4) : setFrom (nodC x) (2 + i * 35) (recC r) = nodC (x.setR i r) := by
  have h1 := flatMap_set recC_len r x.rs.l i (by rw [x.rs.h]; exact h)
  rw [Nat.zero_add] at h1
  rw [nodC, setFrom_cons2, setFrom_appL _ _ _ _ (by simp; omega), r4C, h1]
  rfl
theorem nod_setE {x : Nod} {i : Nat} {r : Ent} (h : i < 4) : setFrom (nodC x) (142 + i * 33) (entC r) = nodC (x.setE i r) := by
  have h1 := flatMap_set entC_len r x.es.l i (by rw [x.es.h]; exact h)
  rw [Nat.zero_add] at h1
  have h2 := setFrom_appR (r4C x.rs) (e4C x.es) (entC r) (i * 33) (by simp; omega)
  rw [r4C_len] at h2
  rw [nodC, show 142 + i * 33 = 2 + (140 + i * 33) by omega, setFrom_cons2, h2, e4C, h1]
  rfl
theorem nod_setLv {x : Nod} {n : Nat} (h : n < 256) : (nodC x).set 0 (.int .u8 ((n : Nat) : Int)) = nodC (x.setLv n h) := rfl
theorem nod_setIx {x : Nod} {n : Nat} (h : n < 2 ^ 32) : (nodC x).set 1 (.int .u32 ((n : Nat) : Int)) = nodC (x.setIx n h) := rfl

/-- A package-level variable's cells. -/
structure Gl (b : Nat) (vs : List Value) (w : World) : Prop where
  all : At w b 0 vs
  lt : b < w.heap.size
theorem Gl.chg {S : Nat → Prop} {b : Nat} {vs : List Value} {w w' : World} (h : Gl b vs w) (hc : Chg S w w') (hs : ¬ S b) : Gl b vs w' := ⟨h.all.chg hc hs, Nat.lt_of_lt_of_le h.lt hc.size⟩
theorem Gl.ext {b : Nat} {vs : List Value} {w w' : World} (h : Gl b vs w) (hc : Ext w w') : Gl b vs w' := h.chg hc (fun hf => hf)

section
variable {P : Program} {n k : Nat} {σ : List (Nat × Value)} {w w' : World}

/-- A part of an array that is at hand as a value. -/
theorem rn_idx {T E m sz : Nat} {kk : IntKind} {i : Nat} {cs us : List Value} (hi : i < m) (hu : (cs.drop (i * sz)).take sz = us) (hT : P.underlying T = some (.array m E) := by kernel_rfl) (hsz : (P.info? E).map (·.size) = some sz := by kernel_rfl) (ha : (P.underlying E).map aggB = some true := by kernel_rfl) :
    (Instr.index T (.agg cs.toArray) (.int kk (i : Int))).run P w = .ok (.agg us.toArray) w := by
  simp [Instr.index, asIntOf, run_underlying hT, run_sizeOf hsz, hi, run_part_agg (w := w) ha hsz hu]

/-- Strings, one behind the other. -/
theorem run_cat {T : TypeId} {ox oy : Operand} {a b : List UInt8} (h : a.length + b.length ≤ 9223372036854775807) : (bo .add T ox oy (.string ⟨a.toArray⟩) (.string ⟨b.toArray⟩)).run P w = .ok (.string ⟨(a ++ b).toArray⟩) w := by
  have h2 := run_string_add_sum (P := P) w ⟨a.toArray⟩ ⟨b.toArray⟩ (by simpa [ByteArray.size] using h)
  rw [ByteArray.mk_append_mk] at h2
  simp [bo, eqGuard, binOp, h2]

theorem run_build_nod {T : TypeId} (a b : Nat) (ha : a < 256) (hb : b < 2 ^ 32) (hp : placesB P T = some [(0, 1), (1, 1), (2, 140), (142, 132)] := by kernel_rfl) (hz : (P.info? T).map (·.zero) = some (some (.agg (nodC Nod.zero).toArray)) := by kernel_rfl) :
    (Instr.build T #[(0, .int .u8 ((a : Nat) : Int)), (1, .int .u32 ((b : Nat) : Int))]).run P w = .ok (.agg (nodC (Nod.emp a b ha hb)).toArray) w := by
  refine run_buildS hp hz rfl ?_
  rw [fill_cons (off := 0) (size := 1) (vs := [.int .u8 ((a : Nat) : Int)]) rfl rfl rfl (by simp), fill_cons (off := 1) (size := 1) (vs := [.int .u32 ((b : Nat) : Int)]) rfl rfl rfl (by simp [length_setFrom])]
  rfl

/-! ### Comparing -/
def eqL {α : Type} (d : α) (eqb : α → α → Bool) (n : Nat) (xs ys : List α) : Bool := (List.range n).all fun i => eqb (xs.getD i d) (ys.getD i d)
theorem eqL_iff {α : Type} {d : α} {eqb : α → α → Bool} (h : ∀ x y, eqb x y = true ↔ x = y) {n : Nat} {xs ys : List α} (hx : xs.length = n) (hy : ys.length = n) : eqL d eqb n xs ys = true ↔ xs = ys := by
  simp only [eqL, List.all_eq_true, List.mem_range, h]
  constructor
  · intro hh
    refine List.ext_getElem (hx.trans hy.symm) fun i h1 h2 => ?_
    have := hh i (by omega)
    simpa [List.getD, h1, h2] using this
  · rintro rfl i _; rfl

theorem run_eq_arr {α : Type} {f : α → List Value} {eqb : α → α → Bool} {dd t e n sz : Nat} (d : α) (hf : ∀ x, (f x).length = sz) (he : ∀ x y : α, (Op.equalIn dd e (.agg (f x).toArray) (.agg (f y).toArray)).run P w = .ok (eqb x y) w)
    (xs ys : List α) (hx : xs.length = n) (hy : ys.length = n) (ht : P.underlying t = some (.array n e)) (hsz : (P.info? e).map (·.size) = some sz) (ha : (P.underlying e).map aggB = some true) :
    (Op.equalIn (dd + 1) t (.agg (xs.flatMap f).toArray) (.agg (ys.flatMap f).toArray)).run P w = .ok (eqL d eqb n xs ys) w := by
  rw [eqL, List.range_eq_range', Op.equalIn]
  simp only [Sem.run_bind, run_underlying ht, Result.andThen_ok, run_sizeOf hsz, Std.Legacy.Range.forIn_eq_forIn_range', Std.Legacy.Range.size, Nat.sub_zero, Nat.add_sub_cancel, Nat.div_one]
  have hl : ∀ i ∈ List.range' 0 n 1, i < n := fun i hi => by simpa using (List.mem_range'_1.1 hi).2
  generalize List.range' 0 n 1 = l at hl ⊢
  induction l with
  | nil => simp
  | cons i l ih =>
    have hi : i < n := hl i (by simp)
    have px := run_part_agg (P := P) (w := w) (o := i * sz) ha hsz (flatMap_at hf d (l := xs) (i := i) (by omega))
    have py := run_part_agg (P := P) (w := w) (o := i * sz) ha hsz (flatMap_at hf d (l := ys) (i := i) (by omega))
    have pe := he (xs.getD i d) (ys.getD i d)
    simp only [List.forIn_cons, Sem.run_bind, px, py, pe, Result.andThen_ok, List.all_cons]
    cases hb : eqb (xs.getD i d) (ys.getD i d)
    · simp
    · simp only [Bool.not_true, Bool.false_eq_true, if_false, Sem.run_pure, Result.andThen_ok, Bool.true_and]
      exact ih fun j hj => hl j (by simp [hj])

def R4.eqb (x y : R4) : Bool := eqL Rec.zero Rec.eqb 4 x.l y.l
def E4.eqb (x y : E4) : Bool := eqL Ent.zero Ent.eqb 4 x.l y.l
def Nod.eqb (x y : Nod) : Bool := x.lv == y.lv && (x.ix == y.ix && (x.rs.eqb y.rs && (x.es.eqb y.es && true)))
theorem R4.eqb_iff (x y : R4) : x.eqb y = true ↔ x = y := (eqL_iff Rec.eqb_iff x.h y.h).trans ⟨R4.ext', fun h => by rw [h]⟩
theorem E4.eqb_iff (x y : E4) : x.eqb y = true ↔ x = y := (eqL_iff Ent.eqb_iff x.h y.h).trans ⟨E4.ext', fun h => by rw [h]⟩
theorem Nod.eqb_iff (x y : Nod) : x.eqb y = true ↔ x = y := by
  constructor
  · intro h; simp [Nod.eqb] at h; exact Nod.ext' h.1 h.2.1 ((R4.eqb_iff _ _).1 h.2.2.1) ((E4.eqb_iff _ _).1 h.2.2.2)
  · rintro rfl; simp [Nod.eqb, (R4.eqb_iff x.rs x.rs).2 rfl, (E4.eqb_iff x.es x.es).2 rfl]

theorem run_eq_r4 {dd T t t8 tn td e t32 t64 : Nat} (x y : R4) (hT : P.underlying T = some (.array 4 t) := by kernel_rfl) (hst : (P.info? t).map (·.size) = some 35 := by kernel_rfl)
    (hF : fieldsB P t = [(true, t8, 0), (true, tn, 1), (true, td, 3)] := by kernel_rfl) (hp : P.stoodInHeld t = false := by kernel_rfl) (h8 : P.underlying t8 = some (.int .u8) := by kernel_rfl)
    (hFn : fieldsB P tn = [(true, t32, 0), (true, t64, 1)] := by kernel_rfl) (hpn : P.stoodInHeld tn = false := by kernel_rfl) (h1 : P.underlying t32 = some (.int .u32) := by kernel_rfl) (h2 : P.underlying t64 = some (.int .u64) := by kernel_rfl) (hsn : (P.info? tn).map (·.size) = some 2 := by kernel_rfl)
    (hd : P.underlying td = some (.array 32 e) := by kernel_rfl) (he : P.underlying e = some (.int .u8) := by kernel_rfl) (hse : (P.info? e).map (·.size) = some 1 := by kernel_rfl) (hsd : (P.info? td).map (·.size) = some 32 := by kernel_rfl) :
    (Op.equalIn (dd + 4) T (.agg (r4C x).toArray) (.agg (r4C y).toArray)).run P w = .ok (x.eqb y) w :=
  run_eq_arr Rec.zero recC_len (fun a b => run_eq_rec (dd := dd) a b hF hp h8 hFn hpn h1 h2 hsn hd he hse hsd) x.l y.l x.h y.h hT hst (by rw [fieldsOf_of ⟨_, _, hF⟩]; rfl)
theorem run_eq_e4 {dd T t t8 td e : Nat} (x y : E4) (hT : P.underlying T = some (.array 4 t) := by kernel_rfl) (hst : (P.info? t).map (·.size) = some 33 := by kernel_rfl)
    (hF : fieldsB P t = [(true, t8, 0), (true, td, 1)] := by kernel_rfl) (hp : P.stoodInHeld t = false := by kernel_rfl) (h8 : P.underlying t8 = some (.int .u8) := by kernel_rfl)
    (hd : P.underlying td = some (.array 32 e) := by kernel_rfl) (he : P.underlying e = some (.int .u8) := by kernel_rfl) (hse : (P.info? e).map (·.size) = some 1 := by kernel_rfl) (hsd : (P.info? td).map (·.size) = some 32 := by kernel_rfl) :
    (Op.equalIn (dd + 4) T (.agg (e4C x).toArray) (.agg (e4C y).toArray)).run P w = .ok (x.eqb y) w :=
  run_eq_arr Ent.zero entC_len (fun a b => run_eq_ent (dd := dd) a b hF hp h8 hd he hse hsd) x.l y.l x.h y.h hT hst (by rw [fieldsOf_of ⟨_, _, hF⟩]; rfl)
theorem run_eq_nod {dd N R E r t8 tn td e t32 t64 en : Nat} (x y : Nod) (hN : fieldsB P N = [(true, t8, 0), (true, t32, 1), (true, R, 2), (true, E, 142)] := by kernel_rfl) (hpN : P.stoodInHeld N = false := by kernel_rfl)
    (hR : P.underlying R = some (.array 4 r) := by kernel_rfl) (hsr : (P.info? r).map (·.size) = some 35 := by kernel_rfl) (hE : P.underlying E = some (.array 4 en) := by kernel_rfl) (hsen : (P.info? en).map (·.size) = some 33 := by kernel_rfl)
    (hsR : (P.info? R).map (·.size) = some 140 := by kernel_rfl) (hsE : (P.info? E).map (·.size) = some 132 := by kernel_rfl)
    (hF : fieldsB P r = [(true, t8, 0), (true, tn, 1), (true, td, 3)] := by kernel_rfl) (hp : P.stoodInHeld r = false := by kernel_rfl) (hFe : fieldsB P en = [(true, t8, 0), (true, td, 1)] := by kernel_rfl) (hpe : P.stoodInHeld en = false := by kernel_rfl) (h8 : P.underlying t8 = some (.int .u8) := by kernel_rfl)
    (hFn : fieldsB P tn = [(true, t32, 0), (true, t64, 1)] := by kernel_rfl) (hpn : P.stoodInHeld tn = false := by kernel_rfl) (h1 : P.underlying t32 = some (.int .u32) := by kernel_rfl) (h2 : P.underlying t64 = some (.int .u64) := by kernel_rfl) (hsn : (P.info? tn).map (·.size) = some 2 := by kernel_rfl)
    (hd : P.underlying td = some (.array 32 e) := by kernel_rfl) (he : P.underlying e = some (.int .u8) := by kernel_rfl) (hse : (P.info? e).map (·.size) = some 1 := by kernel_rfl) (hsd : (P.info? td).map (·.size) = some 32 := by kernel_rfl) :
    (Op.equalIn (dd + 5) N (.agg (nodC x).toArray) (.agg (nodC y).toArray)).run P w = .ok (x.eqb y) w :=
  run_eq_struct hN hpN (run_eqF_cons (run_part_int (by rw [h8]; rfl) rfl) (run_part_int (by rw [h8]; rfl) rfl) (run_eq_int _ _ h8)
    (run_eqF_cons (run_part_int (by rw [h1]; rfl) rfl) (run_part_int (by rw [h1]; rfl) rfl) (run_eq_int _ _ h1)
    (run_eqF_cons (run_part_agg (us := r4C x.rs) (by rw [hR]; rfl) hsR (by have := nod_rs x; rwa [r4C_len] at this)) (run_part_agg (us := r4C y.rs) (by rw [hR]; rfl) hsR (by have := nod_rs y; rwa [r4C_len] at this)) (run_eq_r4 (dd := dd) _ _ hR hsr hF hp h8 hFn hpn h1 h2 hsn hd he hse hsd)
    (run_eqF_cons (run_part_agg (us := e4C x.es) (by rw [hE]; rfl) hsE (by have := nod_es x; rwa [e4C_len] at this)) (run_part_agg (us := e4C y.es) (by rw [hE]; rfl) hsE (by have := nod_es y; rwa [e4C_len] at this)) (run_eq_e4 (dd := dd) _ _ hE hsen hFe hpe h8 hd he hse hsd) rfl))))
end

/-! ### The plain law -/
/-- The error of the first n parts. -/
def chkA {α : Type} (f : α → Nat) (g : Nat → α) : Nat → Nat
  | 0 => 0
  | n + 1 => if chkA f g n = 0 then f (g n) else chkA f g n
theorem chkA_zero {α : Type} {f : α → Nat} {g : Nat → α} : ∀ {n : Nat}, chkA f g n = 0 ↔ ∀ i, i < n → f (g i) = 0
  | 0 => ⟨fun _ i h => absurd h (by omega), fun _ => rfl⟩
  | n + 1 => by
    rw [chkA]
    split
    · next h => exact ⟨fun h2 i hi => by rcases Nat.lt_or_ge i n with h3 | h3; exact chkA_zero.1 h i h3; rwa [show i = n by omega], fun h2 => h2 n (by omega)⟩
    · next h => exact ⟨fun h2 => absurd h2 h, fun h2 => absurd (chkA_zero.2 fun i hi => h2 i (by omega)) h⟩
theorem chkA_le {α : Type} {f : α → Nat} {g : Nat → α} (hf : ∀ x, f x = 0 ∨ f x = 1) : ∀ n, chkA f g n = 0 ∨ chkA f g n = 1
  | 0 => .inl rfl
  | n + 1 => by rw [chkA]; split; exact hf _; exact chkA_le hf n
theorem chkA_stop {α : Type} {f : α → Nat} {g : Nat → α} (hf : ∀ x, f x = 0 ∨ f x = 1) {n i : Nat} (hi : i < n) (h : f (g i) ≠ 0) : chkA f g n = 1 := by
  rcases chkA_le (g := g) hf n with h1 | h1
  · exact absurd (chkA_zero.1 h1 i hi) h
  · exact h1
def chkRs (x : R4) : Nat := chkA chkR x.get 4
def chkEs (x : E4) : Nat := chkA chkE x.get 4
def chkN (x : Nod) : Nat := if 5 < x.lv then 1 else if x.lv = 0 then (if x.es.eqb E4.zero = true then chkRs x.rs else 1) else if x.rs.eqb R4.zero = true then chkEs x.es else 1
theorem chkN_le (x : Nod) : chkN x = 0 ∨ chkN x = 1 := by
  unfold chkN; repeat' split
  all_goals first | exact .inr rfl | exact chkA_le chkR_le 4 | exact chkA_le chkE_le 4

/-- The first n parts' bytes. -/
def catA {α : Type} (f : α → List UInt8) (g : Nat → α) : Nat → List UInt8
  | 0 => []
  | n + 1 => catA f g n ++ f (g n)
theorem catA_len {α : Type} {f : α → List UInt8} {g : Nat → α} {sz : Nat} (hf : ∀ x, (f x).length = sz) : ∀ n, (catA f g n).length = n * sz
  | 0 => by simp [catA]
  | n + 1 => by rw [catA, List.length_append, catA_len hf n, hf, Nat.add_mul, Nat.one_mul]
theorem catA_at {α : Type} {f : α → List UInt8} {g : Nat → α} {sz : Nat} (hf : ∀ x, (f x).length = sz) {i : Nat} : ∀ {n : Nat}, i < n → ((catA f g n).drop (i * sz)).take sz = f (g i)
  | n + 1, h => by
    have hl := catA_len (g := g) hf n
    rcases Nat.lt_or_ge i n with h1 | h1
    · have h2 := Nat.mul_le_mul_right sz (show i + 1 ≤ n from h1)
      rw [Nat.add_mul, Nat.one_mul] at h2
      rw [catA, List.drop_append_of_le_length (by omega), List.take_append_of_le_length (by simp; omega)]
      exact catA_at hf h1
    · obtain rfl : i = n := by omega
      rw [catA, List.drop_append, hl, Nat.sub_self, List.drop_zero, List.drop_eq_nil_of_le (by omega), List.nil_append, List.take_of_length_le (by rw [hf]; omega)]
theorem catA_congr {α : Type} {f : α → List UInt8} {g h : Nat → α} : ∀ {n : Nat}, (∀ i, i < n → g i = h i) → catA f g n = catA f h n
  | 0, _ => rfl
  | n + 1, hh => by rw [catA, catA, catA_congr fun i hi => hh i (by omega), hh n (by omega)]
def hedB (x : Nod) : List UInt8 := UInt8.ofNat x.lv :: be x.ix 4
def nodB (x : Nod) : List UInt8 := hedB x ++ (if x.lv = 0 then catA recB x.rs.get 4 else catA entB x.es.get 4)
theorem nodB_len (x : Nod) : (nodB x).length = if x.lv = 0 then 185 else 137 := by
  rw [nodB, List.length_append]
  split
  · simp [hedB, catA_len recB_len]
  · simp [hedB, catA_len entB_len]

/-- What bytes say. -/
def R4.of (l : List UInt8) : R4 := ⟨(List.range 4).map fun i => Rec.of ((l.drop (5 + i * 45)).take 45), by simp⟩
def E4.of (l : List UInt8) : E4 := ⟨(List.range 4).map fun i => Ent.of ((l.drop (5 + i * 33)).take 33), by simp⟩
theorem R4.of_get (l : List UInt8) {i : Nat} (h : i < 4) : (R4.of l).get i = Rec.of ((l.drop (5 + i * 45)).take 45) := by simp [R4.get, R4.of, List.getD, h]
theorem E4.of_get (l : List UInt8) {i : Nat} (h : i < 4) : (E4.of l).get i = Ent.of ((l.drop (5 + i * 33)).take 33) := by simp [E4.get, E4.of, List.getD, h]
def Nod.of (l : List UInt8) : Nod := ⟨byt l 0, getV ((l.drop 1).take 4) 4, if byt l 0 = 0 then R4.of l else R4.zero, if byt l 0 = 0 then E4.zero else E4.of l, byt_lt _ _, getV_lt _ 4⟩

/-- The digest, the record, the entry, the node of a statement. -/
def mkD (s : Nat) : Dig := ⟨(List.range 32).map fun i => UInt8.ofNat (s + 7 * i), by simp⟩
def mkR (st sd : Nat) : Rec := if st % 3 = 0 then Rec.zero else ⟨st % 3, ⟨sd % 8, sd % 256 * 257, by omega, by omega⟩, mkD sd, by omega⟩
def mkE (st sd : Nat) : Ent := if st % 3 = 0 then Ent.zero else ⟨st % 3, mkD sd, by omega⟩
theorem chkR_mk (st sd : Nat) : chkR (mkR st sd) = 0 := by
  unfold mkR
  split
  · decide
  · next h1 => unfold chkR; simp only []; rw [if_neg (by omega), if_neg h1]
theorem chkE_mk (st sd : Nat) : chkE (mkE st sd) = 0 := by
  unfold mkE
  split
  · decide
  · next h1 => unfold chkE; simp only []; rw [if_neg (by omega), if_neg h1]
def NN.n (x : NN) : Nat := nof x.k
def NN.l (x : NN) : Nat := x.lv % (hgt x.n + 1)
def NN.j (x : NN) : Nat := x.ix % cnt x.n x.l
def NN.p (x : NN) : Nat := prt x.n x.l x.j
/-- The node whose first p parts are there. -/
def NN.nod (x : NN) (p : Nat) : Nod := ⟨x.l, x.j, ⟨(List.range 4).map fun i => if i < p ∧ x.l = 0 then mkR (byt x.st i) (byt x.sd i) else Rec.zero, by simp⟩,
  ⟨(List.range 4).map fun i => if i < p ∧ ¬ x.l = 0 then mkE (byt x.st i) (byt x.sd i) else Ent.zero, by simp⟩, Nat.lt_of_le_of_lt (Nat.mod_le _ _) x.hlv, Nat.lt_of_le_of_lt (Nat.mod_le _ _) (Nat.lt_trans x.hix (by decide))⟩
theorem NN.nod_r (x : NN) (p : Nat) {i : Nat} (h : i < 4) : (x.nod p).rs.get i = if i < p ∧ x.l = 0 then mkR (byt x.st i) (byt x.sd i) else Rec.zero := by simp [NN.nod, R4.get, List.getD, h]
theorem NN.nod_e (x : NN) (p : Nat) {i : Nat} (h : i < 4) : (x.nod p).es.get i = if i < p ∧ ¬ x.l = 0 then mkE (byt x.st i) (byt x.sd i) else Ent.zero := by simp [NN.nod, E4.get, List.getD, h]
theorem NN.nod_zero (x : NN) (h1 : x.l < 256) (h2 : x.j < 2 ^ 32) : x.nod 0 = Nod.emp x.l x.j h1 h2 := by
  refine Nod.ext' rfl rfl (R4.ext_get fun i hi => ?_) (E4.ext_get fun i hi => ?_)
  · rw [NN.nod_r x 0 hi, if_neg (by omega)]; exact (R4.get_zero i).symm
  · rw [NN.nod_e x 0 hi, if_neg (by omega)]; exact (E4.get_zero i).symm
theorem NN.nod_setR (x : NN) {p : Nat} (h : p < 4) (h0 : x.l = 0) : (x.nod p).setR p (mkR (byt x.st p) (byt x.sd p)) = x.nod (p + 1) := by
  refine Nod.ext' rfl rfl (R4.ext_get fun i hi => ?_) (E4.ext_get fun i hi => ?_)
  · show ((x.nod p).rs.set p _).get i = _
    rw [R4.get_set h, NN.nod_r x _ hi, NN.nod_r x _ hi]
    by_cases h1 : i = p
    · subst h1; rw [if_pos rfl, if_pos ⟨by omega, h0⟩]
    · rw [if_neg h1]; by_cases h2 : i < p
      · rw [if_pos ⟨h2, h0⟩, if_pos ⟨by omega, h0⟩]
      · rw [if_neg (by omega), if_neg (by omega)]
  · show (x.nod p).es.get i = _
    rw [NN.nod_e x _ hi, NN.nod_e x _ hi, if_neg (by simp [h0]), if_neg (by simp [h0])]
theorem NN.nod_setE (x : NN) {p : Nat} (h : p < 4) (h0 : ¬ x.l = 0) : (x.nod p).setE p (mkE (byt x.st p) (byt x.sd p)) = x.nod (p + 1) := by
  refine Nod.ext' rfl rfl (R4.ext_get fun i hi => ?_) (E4.ext_get fun i hi => ?_)
  · show (x.nod p).rs.get i = _
    rw [NN.nod_r x _ hi, NN.nod_r x _ hi, if_neg (by simp [h0]), if_neg (by simp [h0])]
  · show ((x.nod p).es.set p _).get i = _
    rw [E4.get_set h, NN.nod_e x _ hi, NN.nod_e x _ hi]
    by_cases h1 : i = p
    · subst h1; rw [if_pos rfl, if_pos ⟨by omega, h0⟩]
    · rw [if_neg h1]; by_cases h2 : i < p
      · rw [if_pos ⟨h2, h0⟩, if_pos ⟨by omega, h0⟩]
      · rw [if_neg (by omega), if_neg (by omega)]
theorem NN.chk (x : NN) (hl : x.l ≤ 5) (p : Nat) : chkN (x.nod p) = 0 := by
  unfold chkN
  show (if 5 < x.l then 1 else if x.l = 0 then _ else _) = 0
  rw [if_neg (by omega)]
  by_cases h0 : x.l = 0
  · rw [if_pos h0, if_pos ((E4.eqb_iff _ _).2 (E4.ext_get fun i hi => by rw [NN.nod_e x p hi, if_neg (by simp [h0]), E4.get_zero]))]
    refine chkA_zero.2 fun i hi => ?_
    rw [NN.nod_r x p hi]; split
    · exact chkR_mk _ _
    · decide
  · rw [if_neg h0, if_pos ((R4.eqb_iff _ _).2 (R4.ext_get fun i hi => by rw [NN.nod_r x p hi, if_neg (by simp [h0]), R4.get_zero]))]
    refine chkA_zero.2 fun i hi => ?_
    rw [NN.nod_e x p hi]; split
    · exact chkE_mk _ _
    · decide

theorem chkN_badE {x : Nod} {i : Nat} (h0 : x.lv = 0) (hi : i < 4) (h : (x.es.get i).eqb Ent.zero = false) : chkN x = 1 := by
  unfold chkN
  rw [if_neg (by omega), if_pos h0, if_neg]
  intro hh
  rw [(E4.eqb_iff _ _).1 hh, E4.get_zero, (Ent.eqb_iff _ _).2 rfl] at h
  cases h
theorem chkN_badR {x : Nod} {i : Nat} (h0 : ¬ x.lv = 0) (hi : i < 4) (h : (x.rs.get i).eqb Rec.zero = false) : chkN x = 1 := by
  unfold chkN
  split
  · rfl
  · try rw [if_neg h0]
    rw [if_neg]
    intro hh
    rw [(R4.eqb_iff _ _).1 hh, R4.get_zero, (Rec.eqb_iff _ _).2 rfl] at h
    cases h
/-- The first i parts of the other kind are zero. -/
def Zs (x : Nod) (i : Nat) : Prop := (x.lv = 0 → ∀ k, k < i → x.es.get k = Ent.zero) ∧ (¬ x.lv = 0 → ∀ k, k < i → x.rs.get k = Rec.zero)
theorem Zs.zero (x : Nod) : Zs x 0 := ⟨fun _ k h => absurd h (by omega), fun _ k h => absurd h (by omega)⟩
theorem Zs.stepE {x : Nod} {i : Nat} (h : Zs x i) (h0 : x.lv = 0) (hq : (x.es.get i).eqb Ent.zero = true) : Zs x (i + 1) :=
  ⟨fun _ k hk => by rcases Nat.lt_or_ge k i with h1 | h1; exact h.1 h0 k h1; rw [show k = i by omega]; exact (Ent.eqb_iff _ _).1 hq, fun h1 => absurd h0 h1⟩
theorem Zs.stepR {x : Nod} {i : Nat} (h : Zs x i) (h0 : ¬ x.lv = 0) (hq : (x.rs.get i).eqb Rec.zero = true) : Zs x (i + 1) :=
  ⟨fun h1 => absurd h1 h0, fun _ k hk => by rcases Nat.lt_or_ge k i with h1 | h1; exact h.2 h0 k h1; rw [show k = i by omega]; exact (Rec.eqb_iff _ _).1 hq⟩
/-- The error of the first i parts of the node's kind. -/
def ckA (x : Nod) (i : Nat) : Nat := if x.lv = 0 then chkA chkR x.rs.get i else chkA chkE x.es.get i
theorem chkN_of {x : Nod} (h5 : x.lv ≤ 5) (h : Zs x 4) : chkN x = ckA x 4 := by
  unfold chkN ckA
  rw [if_neg (by omega)]
  by_cases h0 : x.lv = 0
  · rw [if_pos h0, if_pos h0, if_pos ((E4.eqb_iff _ _).2 (E4.ext_get fun i hi => by rw [h.1 h0 i hi, E4.get_zero]))]; rfl
  · rw [if_neg h0, if_neg h0, if_pos ((R4.eqb_iff _ _).2 (R4.ext_get fun i hi => by rw [h.2 h0 i hi, R4.get_zero]))]; rfl
theorem ckA_zero (x : Nod) : ckA x 0 = 0 := by unfold ckA; split <;> rfl
theorem ckA_R {x : Nod} {i : Nat} (h : ckA x i = 0) (h0 : x.lv = 0) : ckA x (i + 1) = chkR (x.rs.get i) := by
  unfold ckA at *; rw [if_pos h0] at *; rw [chkA, if_pos h]
theorem ckA_E {x : Nod} {i : Nat} (h : ckA x i = 0) (h0 : ¬ x.lv = 0) : ckA x (i + 1) = chkE (x.es.get i) := by
  unfold ckA at *; rw [if_neg h0] at *; rw [chkA, if_pos h]
theorem ckA_stopR {x : Nod} {i : Nat} (hi : i < 4) (h0 : x.lv = 0) (h : chkR (x.rs.get i) ≠ 0) : ckA x 4 = chkR (x.rs.get i) := by
  unfold ckA; rw [if_pos h0, chkA_stop chkR_le hi h]; rcases chkR_le (x.rs.get i) with h1 | h1 <;> omega
theorem ckA_stopE {x : Nod} {i : Nat} (hi : i < 4) (h0 : ¬ x.lv = 0) (h : chkE (x.es.get i) ≠ 0) : ckA x 4 = chkE (x.es.get i) := by
  unfold ckA; rw [if_neg h0, chkA_stop chkE_le hi h]; rcases chkE_le (x.es.get i) with h1 | h1 <;> omega
theorem chkRs_stop {x : R4} {i : Nat} (hi : i < 4) (h : ¬ chkR (x.get i) = 0) : chkR (x.get i) = chkRs x := by
  unfold chkRs; rw [chkA_stop chkR_le hi h]; rcases chkR_le (x.get i) with h1 | h1 <;> omega
theorem chkEs_stop {x : E4} {i : Nat} (hi : i < 4) (h : ¬ chkE (x.get i) = 0) : chkE (x.get i) = chkEs x := by
  unfold chkEs; rw [chkA_stop chkE_le hi h]; rcases chkE_le (x.get i) with h1 | h1 <;> omega

/-- How many of the first i parts are used. -/
def usd (x : Nod) : Nat → Nat
  | 0 => 0
  | i + 1 => usd x i + (if x.lv = 0 then (if (x.rs.get i).st = 0 then 0 else 1) else (if (x.es.get i).st = 0 then 0 else 1))
theorem usd_le (x : Nod) : ∀ i, usd x i ≤ i
  | 0 => Nat.le_refl _
  | i + 1 => by have := usd_le x i; rw [usd]; repeat' split
                all_goals omega

/-- Are the parts from p on empty? -/
def emp (x : Nod) (p : Nat) : Bool := (List.range 4).all fun i => decide (i < p) || ((x.rs.get i).eqb Rec.zero && (x.es.get i).eqb Ent.zero)
theorem emp_iff {x : Nod} {p : Nat} : emp x p = true ↔ ∀ k, p ≤ k → k < 4 → (x.rs.get k).eqb Rec.zero = true ∧ (x.es.get k).eqb Ent.zero = true := by
  simp only [emp, List.all_eq_true, List.mem_range, Bool.or_eq_true, decide_eq_true_eq, Bool.and_eq_true]
  exact ⟨fun h k h1 h2 => (h k h2).resolve_left (by omega), fun h k h2 => by rcases Nat.lt_or_ge k p with h1 | h1; exact .inl h1; exact .inr (h k h1 h2)⟩
theorem emp_badR {x : Nod} {p i : Nat} (hp : p ≤ i) (hi : i < 4) (h : (x.rs.get i).eqb Rec.zero = false) : emp x p = false := by
  cases he : emp x p
  · rfl
  · have := (emp_iff.1 he i hp hi).1; rw [h] at this; cases this
theorem emp_badE {x : Nod} {p i : Nat} (hp : p ≤ i) (hi : i < 4) (h : (x.es.get i).eqb Ent.zero = false) : emp x p = false := by
  cases he : emp x p
  · rfl
  · have := (emp_iff.1 he i hp hi).2; rw [h] at this; cases this
/-- The error of a node of n blocks. -/
def fitV (n : Nat) (x : Nod) : Nat := if chkN x = 0 then (if x.lv ≤ hgt n ∧ x.ix < cnt n x.lv then (if emp x (prt n x.lv x.ix) = true then 0 else 17) else 17) else 1
theorem fitV_bad {n : Nat} {x : Nod} (h : ¬ chkN x = 0) : chkN x = fitV n x := by
  unfold fitV; rw [if_neg h]; rcases chkN_le x with h1 | h1 <;> omega
theorem fitV_out {n : Nat} {x : Nod} (h : chkN x = 0) (h1 : ¬ (x.lv ≤ hgt n ∧ x.ix < cnt n x.lv)) : fitV n x = 17 := by
  unfold fitV; rw [if_pos h, if_neg h1]
theorem fitV_in {n : Nat} {x : Nod} (h : chkN x = 0) (h1 : x.lv ≤ hgt n ∧ x.ix < cnt n x.lv) : fitV n x = if emp x (prt n x.lv x.ix) = true then 0 else 17 := by
  unfold fitV; rw [if_pos h, if_pos h1]
/-- The error of replacing a part. -/
def withE (x : Nod) (p : Int) (k : Nat) : Nat := if p < 0 then 1 else if p ≥ 4 then 1 else if chkN x = 0 then (if min x.lv 1 = k then 0 else 1) else 1
theorem withE_le (x : Nod) (p : Int) (k : Nat) : withE x p k = 0 ∨ withE x p k = 1 := by unfold withE; (repeat' split) <;> simp
theorem withE_ok {x : Nod} {p : Int} {k : Nat} (h : withE x p k = 0) : 0 ≤ p ∧ p < 4 ∧ chkN x = 0 ∧ min x.lv 1 = k := by
  unfold withE at h
  split at h
  · cases h
  · split at h
    · cases h
    · split at h
      · split at h
        · exact ⟨by omega, by omega, ‹_›, ‹_›⟩
        · cases h
      · cases h
theorem mkD_fill (sd : Nat) : u8s ((List.range 32).map fun j => UInt8.ofNat (sd + 7 * j)) = digC (mkD sd) := rfl
def nodL (x : Nod) : Nat := if x.lv = 0 then 185 else 137
theorem nodB_L (x : Nod) : (nodB x).length = nodL x := nodB_len x
theorem hed_cells (x : Nod) : ([.int .u8 ((x.lv : Nat) : Int), .int .u8 ((x.ix / 256 ^ 3 % 2 ^ 8 : Nat) : Int), .int .u8 ((x.ix / 256 ^ 2 % 2 ^ 8 : Nat) : Int), .int .u8 ((x.ix / 256 ^ 1 % 2 ^ 8 : Nat) : Int), .int .u8 ((x.ix % 2 ^ 8 : Nat) : Int)] : List Value) =
    u8s [UInt8.ofNat x.lv, UInt8.ofNat (x.ix / 256 ^ 3 % 2 ^ 8), UInt8.ofNat (x.ix / 256 ^ 2 % 2 ^ 8), UInt8.ofNat (x.ix / 256 ^ 1 % 2 ^ 8), UInt8.ofNat (x.ix % 2 ^ 8)] := by
  have h := x.hlv
  simp only [u8s, List.map_cons, List.map_nil, UInt8.toNat_ofNat', Nat.mod_mod, Nat.mod_eq_of_lt (show x.lv < 2 ^ 8 from h)]
theorem hed_l (x : Nod) : [UInt8.ofNat x.lv, UInt8.ofNat (x.ix / 256 ^ 3 % 2 ^ 8), UInt8.ofNat (x.ix / 256 ^ 2 % 2 ^ 8), UInt8.ofNat (x.ix / 256 ^ 1 % 2 ^ 8), UInt8.ofNat (x.ix % 2 ^ 8)] = hedB x := by
  have hm : ∀ n : Nat, UInt8.ofNat (n % 2 ^ 8) = UInt8.ofNat n := u8_mod
  rw [hm, hm, hm, hm]
  show _ = UInt8.ofNat x.lv :: be x.ix 4
  simp [be, List.range, List.range.loop]
theorem app_u8 {L l : List UInt8} {v : Value} {n k m : Nat} (hL : L.length = n) (hk : l.length = k) (h : k ≤ m) : setFrom (u8s L ++ List.replicate m v) (n * 1) (u8s l) = u8s (L ++ l) ++ List.replicate (m - k) v := by
  have h1 := setFrom_mid (u8s L) (List.replicate m v) (u8s l) (by simp; omega)
  rw [u8s_length, hL, u8s_length, hk, List.drop_replicate] at h1
  rw [Nat.mul_one, h1]
  simp [u8s]
theorem chkN_rs {x : Nod} (h : chkN x = 0) (h0 : x.lv = 0) : chkRs x.rs = 0 := by
  unfold chkN at h
  rw [if_neg (by omega), if_pos h0] at h
  split at h
  · exact h
  · cases h
theorem chkN_lv {x : Nod} (h : chkN x = 0) : x.lv ≤ 5 := by
  unfold chkN at h
  split at h
  · cases h
  · omega
theorem chkN_es {x : Nod} (h : chkN x = 0) (h0 : ¬ x.lv = 0) : chkEs x.es = 0 := by
  have h5 := chkN_lv h
  unfold chkN at h
  rw [if_neg (by omega), if_neg h0] at h
  split at h
  · exact h
  · cases h
end Go.Cs
