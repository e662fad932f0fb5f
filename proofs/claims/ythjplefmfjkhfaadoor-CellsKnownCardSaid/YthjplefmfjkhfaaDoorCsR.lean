/- Structs whose cells hold numbers and arrays of bytes: building, loading, comparing them; and the records, entries, cells of the volume as plain data. For any program; no condition. -/
import Derived.Test.YthjplefmfjkhfaaDoorCsE
import Derived.Stop.BytesEq
import Derived.Laws.Tables
set_option linter.all false
set_option linter.unusedVariables false
namespace Go.Cs
open Go Go.RowKit

/-- 32 bytes. -/
structure Dig where
  l : List UInt8
  h : l.length = 32
structure Non where
  sh : Nat
  ct : Nat
  hsh : sh < 2 ^ 32
  hct : ct < 2 ^ 64
structure Rec where
  st : Nat
  non : Non
  tag : Dig
  hst : st < 256
structure Ent where
  st : Nat
  dg : Dig
  hst : st < 256
structure Cel where
  root : Dig
  ep : Nat
  mark : Nat
  hep : ep < 2 ^ 64
  hmk : mark < 2 ^ 64

theorem Dig.ext' {a b : Dig} (h : a.l = b.l) : a = b := by cases a; cases b; cases h; rfl
theorem Non.ext' {a b : Non} (h : a.sh = b.sh) (h2 : a.ct = b.ct) : a = b := by cases a; cases b; cases h; cases h2; rfl
theorem Rec.ext' {a b : Rec} (h : a.st = b.st) (h2 : a.non = b.non) (h3 : a.tag = b.tag) : a = b := by cases a; cases b; cases h; cases h2; cases h3; rfl
theorem Ent.ext' {a b : Ent} (h : a.st = b.st) (h3 : a.dg = b.dg) : a = b := by cases a; cases b; cases h; cases h3; rfl
theorem Cel.ext' {a b : Cel} (h : a.root = b.root) (h2 : a.ep = b.ep) (h3 : a.mark = b.mark) : a = b := by cases a; cases b; cases h; cases h2; cases h3; rfl

def Dig.zero : Dig := ⟨List.replicate 32 0, by simp⟩
def Non.zero : Non := ⟨0, 0, by decide, by decide⟩
def Rec.zero : Rec := ⟨0, Non.zero, Dig.zero, by decide⟩
def Ent.zero : Ent := ⟨0, Dig.zero, by decide⟩
def Cel.zero : Cel := ⟨Dig.zero, 0, 0, by decide, by decide⟩

/-- These bytes, as 32 (the first, and zeros). -/
def Dig.of (l : List UInt8) : Dig := ⟨(l ++ List.replicate 32 0).take 32, by simp⟩
theorem Dig.of_l {l : List UInt8} (h : l.length = 32) : (Dig.of l).l = l := by simp [Dig.of, List.take_append, ← h]

def digC (d : Dig) : List Value := u8s d.l
def nonC (x : Non) : List Value := [.int .u32 ((x.sh : Nat) : Int), .int .u64 ((x.ct : Nat) : Int)]
def recC (x : Rec) : List Value := .int .u8 ((x.st : Nat) : Int) :: .int .u32 ((x.non.sh : Nat) : Int) :: .int .u64 ((x.non.ct : Nat) : Int) :: digC x.tag
def entC (x : Ent) : List Value := .int .u8 ((x.st : Nat) : Int) :: digC x.dg
def celC (x : Cel) : List Value := digC x.root ++ [.int .u64 ((x.ep : Nat) : Int), .int .u64 ((x.mark : Nat) : Int)]

@[simp] theorem digC_len (d : Dig) : (digC d).length = 32 := by simp [digC, d.h]
@[simp] theorem nonC_len (x : Non) : (nonC x).length = 2 := rfl
@[simp] theorem recC_len (x : Rec) : (recC x).length = 35 := by simp [recC]
@[simp] theorem entC_len (x : Ent) : (entC x).length = 33 := by simp [entC]
@[simp] theorem celC_len (x : Cel) : (celC x).length = 34 := by simp [celC]
theorem digC_one (d : Dig) : ∀ u ∈ digC d, u.oneCell' = true := u8s_one _
theorem nonC_one (x : Non) : ∀ u ∈ nonC x, u.oneCell' = true := by intro u hu; simp [nonC] at hu; rcases hu with rfl | rfl <;> rfl
theorem recC_one (x : Rec) : ∀ u ∈ recC x, u.oneCell' = true := by
  intro u hu
  simp only [recC, List.mem_cons] at hu
  rcases hu with rfl | rfl | rfl | hu
  · rfl
  · rfl
  · rfl
  · exact digC_one _ u hu
theorem entC_one (x : Ent) : ∀ u ∈ entC x, u.oneCell' = true := by
  intro u hu
  simp only [entC, List.mem_cons] at hu
  rcases hu with rfl | hu
  · rfl
  · exact digC_one _ u hu
theorem celC_one (x : Cel) : ∀ u ∈ celC x, u.oneCell' = true := by
  intro u hu
  simp only [celC, List.mem_append, List.mem_cons, List.not_mem_nil, or_false] at hu
  rcases hu with hu | rfl | rfl
  · exact digC_one _ u hu
  · rfl
  · rfl
theorem rec_non (x : Rec) : ((recC x).drop 1).take (nonC x.non).length = nonC x.non := rfl
theorem rec_tag (x : Rec) : ((recC x).drop 3).take (digC x.tag).length = digC x.tag := List.take_of_length_le (Nat.le_refl _)
theorem ent_dg (x : Ent) : ((entC x).drop 1).take (digC x.dg).length = digC x.dg := List.take_of_length_le (Nat.le_refl _)
theorem cel_root (x : Cel) : ((celC x).drop 0).take (digC x.root).length = digC x.root := by simp [celC, List.take_append]
theorem cel_ep (x : Cel) : (celC x)[32]? = some (.int .u64 ((x.ep : Nat) : Int)) := by rw [celC, List.getElem?_append_right (by simp)]; simp
theorem cel_mk (x : Cel) : (celC x)[33]? = some (.int .u64 ((x.mark : Nat) : Int)) := by rw [celC, List.getElem?_append_right (by simp)]; simp

theorem Bs.atDig {lo hi : Nat} {w : World} {b o len cap : Nat} {l : List UInt8} (h : Bs lo hi w (some ⟨b, o, none⟩) len cap l) (hl : l.length = 32) : At w b o (digC (Dig.of l)) := by
  rw [digC, Dig.of_l hl]; exact h.sla.at

/-! ### Building -/

theorem fill_fold (vs : List Value) : ∀ (cs : List Value) (off k : Nat), (vs.zipIdx k).foldl (fun (cs : Array Value) (x : Value × Nat) => match x with | (c, j) => cs.setIfInBounds (off + j) c) cs.toArray = (setFrom cs (off + k) vs).toArray := by
  induction vs with
  | nil => intro cs off k; rfl
  | cons v vs ih =>
    intro cs off k
    rw [List.zipIdx_cons, List.foldl_cons]
    simp only [List.setIfInBounds_toArray]
    rw [ih]
    rfl

theorem fill_cons {place : Nat → Option (Nat × Nat)} {cs vs : List Value} {i : Nat} {v : Value} {rest : List (Nat × Value)} {off size : Nat} (hp : place i = some (off, size)) (hv : v.cells = vs.toArray) (hl : vs.length = size) (ho : off + size ≤ cs.length) :
    Instr.fill place cs.toArray ((i, v) :: rest) = Instr.fill place (setFrom cs off vs).toArray rest := by
  have hf := fill_fold vs cs off 0
  rw [Instr.fill, hp]
  simp only [hv, List.size_toArray, hl]
  rw [if_neg (by simp; omega), ← Array.foldl_toList, Array.toList_zipIdx]
  rw [Nat.add_zero] at hf
  exact congrArg (fun z => Instr.fill place z rest) hf

def placesB (P : Program) (t : TypeId) : Option (List (Nat × Nat)) :=
  match P.underlying t with
  | some (.struct fs) => fs.toList.mapM (fun f => (P.info? f.type).map fun i => (f.offset, i.size))
  | _ => none

section
variable {P : Program} {n k : Nat} {σ : List (Nat × Value)} {w w' : World} {ops : Array Oper} {K : List (Nat × Value) → World → Prop} {d : Option Tmp}

theorem run_buildS {T : TypeId} {parts : Array (Nat × Value)} {pl : List (Nat × Nat)} {z : Value} {cs vs : List Value} (hp : placesB P T = some pl) (hz : (P.info? T).map (·.zero) = some (some z)) (hzc : z.cells = cs.toArray)
    (hf : Instr.fill (pl.toArray[·]?) cs.toArray parts.toList = some vs.toArray) : (Instr.build T parts).run P w = .ok (.agg vs.toArray) w := by
  refine run_build w T parts _ ?_
  unfold placesB at hp
  unfold Program.built
  obtain ⟨it, hit, hz2⟩ := Option.map_eq_some_iff.1 hz
  cases hu : P.underlying T with
  | none => simp [hu] at hp
  | some u =>
    cases u <;> simp [hu] at hp
    simp only [hit, hz2, hp, hzc, hf]

theorem setFrom_rec (st : Nat) (x : Non) (t : Dig) (hst : st < 256) (cs : List Value) (hcs : cs.length = 35) : setFrom (setFrom (setFrom cs 0 [.int .u8 ((st : Nat) : Int)]) 1 (nonC x)) 3 (digC t) = recC ⟨st, x, t, hst⟩ := by
  rw [setFrom_eq (digC t) _ _ (by simp [length_setFrom, hcs]), List.drop_eq_nil_of_le (by simp [length_setFrom, hcs]), List.append_nil]
  match cs, hcs with
  | a :: b :: c :: r, _ => rfl
theorem setFrom_ent (st : Nat) (t : Dig) (hst : st < 256) (cs : List Value) (hcs : cs.length = 33) : setFrom (setFrom cs 0 [.int .u8 ((st : Nat) : Int)]) 1 (digC t) = entC ⟨st, t, hst⟩ := by
  rw [setFrom_eq (digC t) _ _ (by simp [length_setFrom, hcs]), List.drop_eq_nil_of_le (by simp [length_setFrom, hcs]), List.append_nil]
  match cs, hcs with
  | a :: r, _ => rfl
theorem setFrom_cel (t : Dig) (e m : Nat) (he : e < 2 ^ 64) (hm : m < 2 ^ 64) (cs : List Value) (hcs : cs.length = 34) : setFrom (setFrom (setFrom cs 0 (digC t)) 32 [.int .u64 ((e : Nat) : Int)]) 33 [.int .u64 ((m : Nat) : Int)] = celC ⟨t, e, m, he, hm⟩ := by
  rw [setFrom_eq (digC t) _ _ (by simp [hcs])]
  obtain ⟨x, y, hxy⟩ : ∃ x y, cs.drop 32 = [x, y] := by
    have : (cs.drop 32).length = 2 := by simp [hcs]
    match h : cs.drop 32, this with
    | [x, y], _ => exact ⟨x, y, rfl⟩
  simp only [List.take_zero, List.nil_append, digC_len, Nat.zero_add, hxy]
  simp [setFrom, celC, List.set_append, digC_len]

theorem run_build_rec {T : TypeId} (st : Nat) (x : Non) (t : Dig) (hst : st < 256) (hp : placesB P T = some [(0, 1), (1, 2), (3, 32)] := by kernel_rfl) (hz : (P.info? T).map (·.zero) = some (some (.agg (recC Rec.zero).toArray)) := by kernel_rfl) :
    (Instr.build T #[(0, .int .u8 ((st : Nat) : Int)), (1, .agg (nonC x).toArray), (2, .agg (digC t).toArray)]).run P w = .ok (.agg (recC ⟨st, x, t, hst⟩).toArray) w := by
  refine run_buildS hp hz rfl ?_
  rw [fill_cons (off := 0) (size := 1) (vs := [.int .u8 ((st : Nat) : Int)]) rfl rfl rfl (by simp), fill_cons (off := 1) (size := 2) (vs := nonC x) rfl rfl rfl (by simp [length_setFrom]), fill_cons (off := 3) (size := 32) (vs := digC t) rfl rfl (by simp) (by simp [length_setFrom]),
    setFrom_rec st x t hst _ (by simp)]
  rfl
theorem run_build_ent {T : TypeId} (st : Nat) (t : Dig) (hst : st < 256) (hp : placesB P T = some [(0, 1), (1, 32)] := by kernel_rfl) (hz : (P.info? T).map (·.zero) = some (some (.agg (entC Ent.zero).toArray)) := by kernel_rfl) :
    (Instr.build T #[(0, .int .u8 ((st : Nat) : Int)), (1, .agg (digC t).toArray)]).run P w = .ok (.agg (entC ⟨st, t, hst⟩).toArray) w := by
  refine run_buildS hp hz rfl ?_
  rw [fill_cons (off := 0) (size := 1) (vs := [.int .u8 ((st : Nat) : Int)]) rfl rfl rfl (by simp), fill_cons (off := 1) (size := 32) (vs := digC t) rfl rfl (by simp) (by simp [length_setFrom]),
    setFrom_ent st t hst _ (by simp)]
  rfl
theorem run_build_cel {T : TypeId} (t : Dig) (e m : Nat) (he : e < 2 ^ 64) (hm : m < 2 ^ 64) (hp : placesB P T = some [(0, 32), (32, 1), (33, 1)] := by kernel_rfl) (hz : (P.info? T).map (·.zero) = some (some (.agg (celC Cel.zero).toArray)) := by kernel_rfl) :
    (Instr.build T #[(0, .agg (digC t).toArray), (1, .int .u64 ((e : Nat) : Int)), (2, .int .u64 ((m : Nat) : Int))]).run P w = .ok (.agg (celC ⟨t, e, m, he, hm⟩).toArray) w := by
  refine run_buildS hp hz rfl ?_
  rw [fill_cons (off := 0) (size := 32) (vs := digC t) rfl rfl (by simp) (by simp), fill_cons (off := 32) (size := 1) (vs := [.int .u64 ((e : Nat) : Int)]) rfl rfl rfl (by simp [length_setFrom]), fill_cons (off := 33) (size := 1) (vs := [.int .u64 ((m : Nat) : Int)]) rfl rfl rfl (by simp [length_setFrom]),
    setFrom_cel t e m he hm _ (by simp)]
  rfl

/-! ### Comparing -/

/-- The fields, as far as they are compared. -/
def fieldsB (P : Program) (t : TypeId) : List (Bool × TypeId × Nat) := (P.fieldsOf t).toList.map fun f => (decide (f.name ≠ "_"), f.type, f.offset)

def eqF (d : Nat) (xs ys : Array Value) : List (Bool × TypeId × Nat) → Sem Bool
  | [] => pure true
  | (b, t, o) :: fs =>
    if b = true then do
      let a ← part t xs o
      let c ← part t ys o
      let r ← Op.equalIn d t a c
      if (!r) = true then pure false else eqF d xs ys fs
    else eqF d xs ys fs

theorem eqF_eq (d : Nat) (xs ys : Array Value) (fs : List Field) : Op.eqFields d xs ys fs = eqF d xs ys (fs.map fun f => (decide (f.name ≠ "_"), f.type, f.offset)) := by
  induction fs with
  | nil => rfl
  | cons f fs ih =>
    rw [Op.eqFields, List.map_cons, eqF, ih]
    by_cases h : f.name = "_" <;> simp [h]

theorem run_eqF_cons {dd : Nat} {xs ys : Array Value} {t o : Nat} {fs : List (Bool × TypeId × Nat)} {a c : Value} {r s : Bool} (h1 : (part t xs o).run P w = .ok a w) (h2 : (part t ys o).run P w = .ok c w)
    (h3 : (Op.equalIn dd t a c).run P w = .ok r w) (h4 : (eqF dd xs ys fs).run P w = .ok s w) : (eqF dd xs ys ((true, t, o) :: fs)).run P w = .ok (r && s) w := by
  rw [eqF]
  simp only [if_true, Sem.run_bind, h1, h2, h3, Result.andThen_ok]
  cases r <;> simp [h4]

theorem run_part_int {t o : Nat} {vs : List Value} {v : Value} (hT : (P.underlying t).map aggB = some false) (hv : vs[o]? = some v) : (part t vs.toArray o).run P w = .ok v w := by
  simp [part, run_isAgg_false hT, hv]
theorem run_part_agg {t o sz : Nat} {vs us : List Value} (hT : (P.underlying t).map aggB = some true) (hsz : (P.info? t).map (·.size) = some sz) (hv : (vs.drop o).take sz = us) : (part t vs.toArray o).run P w = .ok (.agg us.toArray) w := by
  simp [part, run_isAgg_true hT, run_sizeOf hsz, ← hv, List.extract_eq_take_drop]

theorem run_eq_dig {dd t e : Nat} (x y : Dig) (ht : P.underlying t = some (.array 32 e) := by kernel_rfl) (he : P.underlying e = some (.int .u8) := by kernel_rfl) (hsz : (P.info? e).map (·.size) = some 1 := by kernel_rfl) : (Op.equalIn (dd + 2) t (.agg (digC x).toArray) (.agg (digC y).toArray)).run P w = .ok (x.l == y.l) w :=
  run_equalIn_bytes w dd t e 32 ht he (fun w => run_sizeOf hsz) x.l y.l x.h y.h
theorem run_eq_int {dd t : Nat} {kk : IntKind} (a b : Nat) (h : P.underlying t = some (.int kk)) : (Op.equalIn (dd + 1) t (.int kk ((a : Nat) : Int)) (.int kk ((b : Nat) : Int))).run P w = .ok (a == b) w := by
  rw [run_equalIn_int w dd t kk kk _ _ h]
  congr 1
  rw [Bool.eq_iff_iff]; simp; omega

theorem fieldsOf_of {t : TypeId} (h : ∃ x xs, fieldsB P t = x :: xs) : P.underlying t = some (.struct (P.fieldsOf t)) := by
  obtain ⟨x, xs, h⟩ := h
  unfold fieldsB Program.fieldsOf at *
  split at h
  · next fs hu => simp [hu, Program.fieldsOf]
  · simp at h

theorem run_eq_struct {dd t : Nat} {xs ys : Array Value} {fs : List (Bool × TypeId × Nat)} {x : Bool × TypeId × Nat} {r : Bool} (hF : fieldsB P t = x :: fs) (hp : P.stoodInHeld t = false) (h : (eqF dd xs ys (x :: fs)).run P w = .ok r w) :
    (Op.equalIn (dd + 1) t (.agg xs) (.agg ys)).run P w = .ok r w := by
  rw [run_equalIn_struct w dd t xs ys (fieldsOf_of ⟨x, fs, hF⟩) hp, eqF_eq]
  unfold fieldsB at hF
  rw [hF, h]

def Non.eqb (x y : Non) : Bool := x.sh == y.sh && (x.ct == y.ct && true)
def Rec.eqb (x y : Rec) : Bool := x.st == y.st && (x.non.eqb y.non && (x.tag.l == y.tag.l && true))
def Ent.eqb (x y : Ent) : Bool := x.st == y.st && (x.dg.l == y.dg.l && true)
def Cel.eqb (x y : Cel) : Bool := x.root.l == y.root.l && (x.ep == y.ep && (x.mark == y.mark && true))
theorem Non.eqb_iff (x y : Non) : x.eqb y = true ↔ x = y := by
  constructor
  · intro h; simp [Non.eqb] at h; exact Non.ext' h.1 h.2
  · rintro rfl; simp [Non.eqb]
theorem Rec.eqb_iff (x y : Rec) : x.eqb y = true ↔ x = y := by
  constructor
  · intro h; simp [Rec.eqb] at h; exact Rec.ext' h.1 ((Non.eqb_iff _ _).1 h.2.1) (Dig.ext' h.2.2)
  · rintro rfl; simp [Rec.eqb, (Non.eqb_iff x.non x.non).2 rfl]
theorem Ent.eqb_iff (x y : Ent) : x.eqb y = true ↔ x = y := by
  constructor
  · intro h; simp [Ent.eqb] at h; exact Ent.ext' h.1 (Dig.ext' h.2)
  · rintro rfl; simp [Ent.eqb]
theorem Cel.eqb_iff (x y : Cel) : x.eqb y = true ↔ x = y := by
  constructor
  · intro h; simp [Cel.eqb] at h; exact Cel.ext' (Dig.ext' h.1) h.2.1 h.2.2
  · rintro rfl; simp [Cel.eqb]

theorem run_eq_non {dd t t32 t64 : Nat} (x y : Non) (hF : fieldsB P t = [(true, t32, 0), (true, t64, 1)] := by kernel_rfl) (hp : P.stoodInHeld t = false := by kernel_rfl) (h1 : P.underlying t32 = some (.int .u32) := by kernel_rfl) (h2 : P.underlying t64 = some (.int .u64) := by kernel_rfl) :
    (Op.equalIn (dd + 2) t (.agg (nonC x).toArray) (.agg (nonC y).toArray)).run P w = .ok (x.eqb y) w :=
  run_eq_struct hF hp (run_eqF_cons (run_part_int (by rw [h1]; rfl) rfl) (run_part_int (by rw [h1]; rfl) rfl) (run_eq_int _ _ h1)
    (run_eqF_cons (run_part_int (by rw [h2]; rfl) rfl) (run_part_int (by rw [h2]; rfl) rfl) (run_eq_int _ _ h2) rfl))

theorem run_eq_rec {dd t t8 tn td e t32 t64 : Nat} (x y : Rec) (hF : fieldsB P t = [(true, t8, 0), (true, tn, 1), (true, td, 3)] := by kernel_rfl) (hp : P.stoodInHeld t = false := by kernel_rfl) (h8 : P.underlying t8 = some (.int .u8) := by kernel_rfl)
    (hFn : fieldsB P tn = [(true, t32, 0), (true, t64, 1)] := by kernel_rfl) (hpn : P.stoodInHeld tn = false := by kernel_rfl) (h1 : P.underlying t32 = some (.int .u32) := by kernel_rfl) (h2 : P.underlying t64 = some (.int .u64) := by kernel_rfl) (hsn : (P.info? tn).map (·.size) = some 2 := by kernel_rfl)
    (hd : P.underlying td = some (.array 32 e) := by kernel_rfl) (he : P.underlying e = some (.int .u8) := by kernel_rfl) (hse : (P.info? e).map (·.size) = some 1 := by kernel_rfl) (hsd : (P.info? td).map (·.size) = some 32 := by kernel_rfl) :
    (Op.equalIn (dd + 3) t (.agg (recC x).toArray) (.agg (recC y).toArray)).run P w = .ok (x.eqb y) w :=
  run_eq_struct hF hp (run_eqF_cons (run_part_int (by rw [h8]; rfl) rfl) (run_part_int (by rw [h8]; rfl) rfl) (run_eq_int _ _ h8)
    (run_eqF_cons (run_part_agg (us := nonC x.non) (by rw [fieldsOf_of ⟨_, _, hFn⟩]; rfl) hsn rfl) (run_part_agg (us := nonC y.non) (by rw [fieldsOf_of ⟨_, _, hFn⟩]; rfl) hsn rfl) (run_eq_non _ _ hFn hpn h1 h2)
      (run_eqF_cons (run_part_agg (us := digC x.tag) (by rw [hd]; rfl) hsd (by have := rec_tag x; rwa [digC_len] at this)) (run_part_agg (us := digC y.tag) (by rw [hd]; rfl) hsd (by have := rec_tag y; rwa [digC_len] at this)) (run_eq_dig _ _ hd he hse) rfl)))
theorem run_eq_ent {dd t t8 td e : Nat} (x y : Ent) (hF : fieldsB P t = [(true, t8, 0), (true, td, 1)] := by kernel_rfl) (hp : P.stoodInHeld t = false := by kernel_rfl) (h8 : P.underlying t8 = some (.int .u8) := by kernel_rfl)
    (hd : P.underlying td = some (.array 32 e) := by kernel_rfl) (he : P.underlying e = some (.int .u8) := by kernel_rfl) (hse : (P.info? e).map (·.size) = some 1 := by kernel_rfl) (hsd : (P.info? td).map (·.size) = some 32 := by kernel_rfl) :
    (Op.equalIn (dd + 3) t (.agg (entC x).toArray) (.agg (entC y).toArray)).run P w = .ok (x.eqb y) w :=
  run_eq_struct hF hp (run_eqF_cons (run_part_int (by rw [h8]; rfl) rfl) (run_part_int (by rw [h8]; rfl) rfl) (run_eq_int _ _ h8)
      (run_eqF_cons (run_part_agg (us := digC x.dg) (by rw [hd]; rfl) hsd (by have := ent_dg x; rwa [digC_len] at this)) (run_part_agg (us := digC y.dg) (by rw [hd]; rfl) hsd (by have := ent_dg y; rwa [digC_len] at this)) (run_eq_dig _ _ hd he hse) rfl))
theorem run_eq_cel {dd t td e t64 : Nat} (x y : Cel) (hF : fieldsB P t = [(true, td, 0), (true, t64, 32), (true, t64, 33)] := by kernel_rfl) (hp : P.stoodInHeld t = false := by kernel_rfl) (h2 : P.underlying t64 = some (.int .u64) := by kernel_rfl)
    (hd : P.underlying td = some (.array 32 e) := by kernel_rfl) (he : P.underlying e = some (.int .u8) := by kernel_rfl) (hse : (P.info? e).map (·.size) = some 1 := by kernel_rfl) (hsd : (P.info? td).map (·.size) = some 32 := by kernel_rfl) :
    (Op.equalIn (dd + 3) t (.agg (celC x).toArray) (.agg (celC y).toArray)).run P w = .ok (x.eqb y) w :=
  run_eq_struct hF hp (run_eqF_cons (run_part_agg (us := digC x.root) (by rw [hd]; rfl) hsd (by have := cel_root x; rwa [digC_len] at this)) (run_part_agg (us := digC y.root) (by rw [hd]; rfl) hsd (by have := cel_root y; rwa [digC_len] at this)) (run_eq_dig _ _ hd he hse)
    (run_eqF_cons (run_part_int (by rw [h2]; rfl) (cel_ep x)) (run_part_int (by rw [h2]; rfl) (cel_ep y)) (run_eq_int _ _ h2)
      (run_eqF_cons (run_part_int (by rw [h2]; rfl) (cel_mk x)) (run_part_int (by rw [h2]; rfl) (cel_mk y)) (run_eq_int _ _ h2) rfl)))

/-! ### Structs of numbers and truth values alone -/
def eqv : Value → Value → Bool
  | .int _ a, .int _ b => a == b
  | .bool a, .bool b => a == b
  | _, _ => false
def eqvs : List Value → List Value → Bool
  | [], [] => true
  | a :: as, b :: bs => eqv a b && eqvs as bs
  | _, _ => false
def flatV (P : Program) (t : TypeId) : Value → Value → Bool
  | .int k _, .int k' _ => (match P.underlying t with | some (.int k2) => decide (k = k2) && decide (k' = k2) | _ => false)
  | .bool _, .bool _ => (match P.underlying t with | some .bool => true | _ => false)
  | _, _ => false
def flatB (P : Program) : Nat → List (Bool × TypeId × Nat) → List Value → List Value → Bool
  | _, [], [], [] => true
  | i, (b, t, o) :: fs, v :: vs, u :: us => b && Nat.beq o i && flatV P t v u && flatB P (i + 1) fs vs us
  | _, _, _, _ => false
theorem run_eq_one {dd t : Nat} {v u : Value} (h : flatV P t v u = true) : (Op.equalIn (dd + 1) t v u).run P w = .ok (eqv v u) w ∧ (P.underlying t).map aggB = some false := by
  cases v <;> cases u <;> simp only [flatV] at h <;> try (cases h; done)
  · cases hu : P.underlying t with
    | none => simp [hu] at h
    | some ty =>
      cases ty <;> simp [hu] at h
      exact ⟨run_equalIn_bool w dd t _ _ hu, rfl⟩
  · cases hu : P.underlying t with
    | none => simp [hu] at h
    | some ty =>
      cases ty <;> simp [hu] at h
      obtain ⟨rfl, rfl⟩ := h
      exact ⟨run_equalIn_int w dd t _ _ _ _ hu, rfl⟩
theorem run_eqF_flat {dd : Nat} : ∀ (fs : List (Bool × TypeId × Nat)) (i : Nat) (pv pu vs us : List Value), flatB P i fs vs us = true → pv.length = i → pu.length = i →
    (eqF (dd + 1) (pv ++ vs).toArray (pu ++ us).toArray fs).run P w = .ok (eqvs vs us) w := by
  intro fs
  induction fs with
  | nil =>
    intro i pv pu vs us h _ _
    cases vs <;> cases us <;> simp only [flatB] at h <;> first | (cases h; done) | rfl
  | cons f fs ih =>
    intro i pv pu vs us h h1 h2
    obtain ⟨b, t, o⟩ := f
    cases vs with
    | nil => simp [flatB] at h
    | cons v vs =>
      cases us with
      | nil => simp [flatB] at h
      | cons u us =>
        simp only [flatB, Bool.and_eq_true] at h
        obtain ⟨⟨⟨hb, ho⟩, hv⟩, hr⟩ := h
        subst hb
        obtain rfl := Nat.eq_of_beq_eq_true ho
        obtain ⟨h3, h4⟩ := run_eq_one (P := P) (w := w) (dd := dd) hv
        refine run_eqF_cons (run_part_int h4 (by rw [← h1]; simp)) (run_part_int h4 (by rw [← h2]; simp)) h3 ?_
        have := ih (o + 1) (pv ++ [v]) (pu ++ [u]) vs us hr (by simp [h1]) (by simp [h2])
        simpa using this
/-- '==' on two structs of numbers and truth values. -/
theorem run_eq_flat {dd t : Nat} (vs us : List Value) (hF : (match fieldsB P t with | [] => false | f :: fs => flatB P 0 (f :: fs) vs us) = true := by kernel_rfl) (hp : P.stoodInHeld t = false := by kernel_rfl) :
    (Op.equalIn (dd + 2) t (.agg vs.toArray) (.agg us.toArray)).run P w = .ok (eqvs vs us) w := by
  cases hf : fieldsB P t with
  | nil => simp [hf] at hF
  | cons f fs =>
    simp only [hf] at hF
    exact run_eq_struct hf hp (by simpa using run_eqF_flat (P := P) (w := w) (dd := dd) (f :: fs) 0 [] [] vs us hF rfl rfl)

/-- '==' on two structs. -/
theorem run_eqlAgg {T : TypeId} {ox oy : Operand} {xs ys : Array Value} {r : Bool} (h : (Op.equalIn 10000 T (.agg xs) (.agg ys)).run P w = .ok r w) (hm : P.eqGuardType P.depth T = false := by kernel_rfl) :
    (bo .eql T ox oy (.agg xs) (.agg ys)).run P w = .ok (.bool r) w := by
  simp only [Sem.run_bind, run_eqGuard_agg w .eql T ox oy xs ys hm, Result.andThen_ok, run_eql_struct, h]
theorem run_neqAgg {T : TypeId} {ox oy : Operand} {xs ys : Array Value} {r : Bool} (h : (Op.equalIn 10000 T (.agg xs) (.agg ys)).run P w = .ok r w) (hm : P.eqGuardType P.depth T = false := by kernel_rfl) :
    (bo .neq T ox oy (.agg xs) (.agg ys)).run P w = .ok (.bool (!r)) w := by
  simp only [Sem.run_bind, run_eqGuard_agg w .neq T ox oy xs ys hm, Result.andThen_ok, run_neq_struct, h]

/-- '[32]byte(s)'s first half: the array's place. -/
theorem run_arrPtr {T E m len cap : Nat} {a : Option Addr} (h : m ≤ len) (hT : P.underlying T = some (.array m E) := by kernel_rfl) : (Instr.arrayAt T (.slice a len cap)).run P w = .ok (.pointer a) w := by
  simp [Instr.arrayAt, run_underlying hT, Nat.not_lt.2 h]

end
end Go.Cs
