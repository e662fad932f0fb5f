/- Arguments that are structs of numbers and byte arrays, opened. Lemmas only; no condition. -/
import Derived.Test.YthjplefmfjkhfaaDoorCsR
import Derived.ProofKit
import Derived.OpenShut
import Derived.ChangeOld
set_option linter.all false
set_option linter.unusedVariables false
namespace Go.Cs
open Go Go.ChangeShapes Go.WideShapes Go.ChangeAt Go.RowKit

section
variable {H : Type} {enc : TypeId × Value → H} {P : Program} {W : World} {base : Nat} {sp : Nat → Bool} {held : Bool}

/-- These cells can be read as a value of type t. -/
def Rd (enc : TypeId × Value → H) (P : Program) (W : World) (base : Nat) (sp : Nat → Bool) (held : Bool) (t : TypeId) (cs : List Value) : Prop := ∃ fuel r, DataW.trod enc P W base sp held fuel t cs = some r

theorem mapM_some_mem {α β : Type} {f : α → Option β} : ∀ {xs : List α} {ys : List β}, xs.mapM f = some ys → ∀ x ∈ xs, ∃ y, f x = some y
  | [], _, _, x, hx => by simp at hx
  | a :: xs, ys, h, x, hx => by
    simp only [List.mapM_cons, Option.bind_eq_bind, Option.bind_eq_some_iff] at h
    obtain ⟨y, hy, zs, hz, _⟩ := h
    rcases List.mem_cons.1 hx with rfl | hx
    · exact ⟨y, hy⟩
    · exact mapM_some_mem hz x hx

/-- A value of an array type is an aggregate. -/
theorem okWide_array {t e : TypeId} {n : Nat} {r : Reach} {b : Nat} {v : Value} (hu : P.underlying t = some (.array n e)) (h : Value.okWide P W r b t v) : ∃ cs, v = .agg cs ∧ True := by
  simp only [Value.okWide, hu] at h
  obtain ⟨cs, h1, _⟩ := h
  exact ⟨cs, h1, trivial⟩

theorem rd_int {t : TypeId} {k : IntKind} {cs : List Value} (h : Rd enc P W base sp held t cs) (ht : P.underlying t = some (.int k)) : ∃ n, cs = [.int k n] ∧ (Lit.int k n).wf = true := by
  obtain ⟨fuel, r, hf⟩ := h
  obtain ⟨n, h1, _, h3⟩ := DataW.trod_int ht hf
  exact ⟨n, h1, h3⟩

theorem rd_struct {t : TypeId} {cs : List Value} {x : Bool × TypeId × Nat} {xs : List (Bool × TypeId × Nat)} (h : Rd enc P W base sp held t cs) (hF : fieldsB P t = x :: xs) :
    cs.length = P.cellsOf t ∧ ∀ y ∈ x :: xs, Rd enc P W base sp held y.2.1 ((cs.drop y.2.2).take (P.cellsOf y.2.1)) := by
  obtain ⟨fuel, r, hf⟩ := h
  have hu := fieldsOf_of ⟨x, xs, hF⟩
  cases fuel with
  | zero => simp [DataW.trod] at hf
  | succ fuel =>
    rw [DataW.trod.eq_def] at hf
    simp only [hu] at hf
    split at hf
    · next hl =>
      refine ⟨hl, fun y hy => ?_⟩
      simp only [Option.map_eq_some_iff] at hf
      obtain ⟨zs, hz, _⟩ := hf
      rw [← hF, fieldsB, List.mem_map] at hy
      obtain ⟨f, hf1, rfl⟩ := hy
      obtain ⟨z, hz2⟩ := mapM_some_mem hz f hf1
      exact ⟨fuel, z, hz2⟩
    · cases hf

theorem rd_array {t e : TypeId} {n : Nat} {cs : List Value} (h : Rd enc P W base sp held t cs) (hu : P.underlying t = some (.array n e)) :
    cs.length = P.cellsOf t ∧ ∀ i, i < n → Rd enc P W base sp held e ((cs.drop (i * P.cellsOf e)).take (P.cellsOf e)) := by
  obtain ⟨fuel, r, hf⟩ := h
  cases fuel with
  | zero => simp [DataW.trod] at hf
  | succ fuel =>
    rw [DataW.trod.eq_def] at hf
    simp only [hu] at hf
    split at hf
    · next hl =>
      refine ⟨hl, fun i hi => ?_⟩
      simp only [Option.map_eq_some_iff] at hf
      obtain ⟨zs, hz, _⟩ := hf
      obtain ⟨z, hz2⟩ := mapM_some_mem hz i (List.mem_range.2 hi)
      exact ⟨fuel, z, hz2⟩
    · cases hf

theorem rd_dig {t e : TypeId} {cs : List Value} (h : Rd enc P W base sp held t cs) (hu : P.underlying t = some (.array 32 e)) (he : P.underlying e = some (.int .u8)) (h1 : P.cellsOf e = 1) (h32 : P.cellsOf t = 32) : ∃ d : Dig, cs = digC d := by
  obtain ⟨hl, hi⟩ := rd_array h hu
  rw [h32] at hl
  refine ⟨⟨cs.map (fun v => match v with | .int _ n => UInt8.ofNat n.toNat | _ => 0), by simp [hl]⟩, ?_⟩
  refine List.ext_getElem (by simp [digC, hl]) (fun i h2 h3 => ?_)
  obtain ⟨n, hn, hw⟩ := rd_int (hi i (by omega)) he
  rw [h1, Nat.mul_one] at hn
  have hg : cs[i] = .int .u8 n := by
    have := congrArg (fun z => z[0]?) hn
    simp [List.getElem?_take, List.getElem?_drop, h2] at this
    exact this
  have hb := bounds_u8 hw
  simp only [digC, u8s, List.getElem_map, hg]
  rw [UInt8.toNat_ofNat', Nat.mod_eq_of_lt (by omega)]
  congr 1; omega

theorem rd_nat {t : TypeId} {k : IntKind} {cs : List Value} (h : Rd enc P W base sp held t cs) (ht : P.underlying t = some (.int k)) (h0 : ∀ n, (Lit.int k n).wf = true → 0 ≤ n ∧ n < 2 ^ k.bits) : ∃ n : Nat, cs = [.int k (n : Int)] ∧ n < 2 ^ k.bits := by
  obtain ⟨n, h1, h2⟩ := rd_int h ht
  obtain ⟨h3, h4⟩ := h0 n h2
  obtain ⟨m, rfl⟩ := Int.eq_ofNat_of_zero_le h3
  exact ⟨m, h1, by exact_mod_cast h4⟩

theorem part_cat {α : Type} (cs : List α) (a b : Nat) : (cs.drop a).take b ++ cs.drop (a + b) = cs.drop a := by
  rw [← List.drop_drop, List.take_append_drop]

theorem w8 (n : Int) (h : (Lit.int .u8 n).wf = true) : 0 ≤ n ∧ n < 2 ^ IntKind.u8.bits := by have := bounds_u8 h; exact ⟨by omega, by show n < 2 ^ 8; omega⟩
theorem w32 (n : Int) (h : (Lit.int .u32 n).wf = true) : 0 ≤ n ∧ n < 2 ^ IntKind.u32.bits := by have := bounds_u32 h; exact ⟨by omega, by show n < 2 ^ 32; omega⟩
theorem w64 (n : Int) (h : (Lit.int .u64 n).wf = true) : 0 ≤ n ∧ n < 2 ^ IntKind.u64.bits := by have := bounds_u64 h; exact ⟨by omega, by show n < 2 ^ 64; omega⟩

theorem rd_non {t t32 t64 : TypeId} {cs : List Value} (h : Rd enc P W base sp held t cs) (hF : fieldsB P t = [(true, t32, 0), (true, t64, 1)]) (h1 : P.underlying t32 = some (.int .u32)) (h2 : P.underlying t64 = some (.int .u64))
    (c1 : P.cellsOf t32 = 1) (c2 : P.cellsOf t64 = 1) (c : P.cellsOf t = 2) : ∃ x : Non, cs = nonC x := by
  obtain ⟨hl, hf⟩ := rd_struct h hF
  obtain ⟨a, ha, ha2⟩ := rd_nat (hf (true, t32, 0) (by simp)) h1 w32
  obtain ⟨b, hb, hb2⟩ := rd_nat (hf (true, t64, 1) (by simp)) h2 w64
  simp only [c1, c2] at ha hb
  refine ⟨⟨a, b, ha2, hb2⟩, ?_⟩
  have e1 := part_cat cs 0 1
  have e2 := part_cat cs 1 1
  rw [ha] at e1; rw [hb, List.drop_eq_nil_of_le (by omega)] at e2
  rw [List.drop_zero] at e1
  rw [← e1, ← e2]; rfl

theorem rd_rec {t t8 tn td e t32 t64 : TypeId} {cs : List Value} (h : Rd enc P W base sp held t cs) (hF : fieldsB P t = [(true, t8, 0), (true, tn, 1), (true, td, 3)]) (h8 : P.underlying t8 = some (.int .u8)) (c8 : P.cellsOf t8 = 1)
    (hFn : fieldsB P tn = [(true, t32, 0), (true, t64, 1)]) (h1 : P.underlying t32 = some (.int .u32)) (h2 : P.underlying t64 = some (.int .u64)) (c1 : P.cellsOf t32 = 1) (c2 : P.cellsOf t64 = 1) (cn : P.cellsOf tn = 2)
    (hu : P.underlying td = some (.array 32 e)) (he : P.underlying e = some (.int .u8)) (ce : P.cellsOf e = 1) (cd : P.cellsOf td = 32) (c : P.cellsOf t = 35) : ∃ x : Rec, cs = recC x := by
  obtain ⟨hl, hf⟩ := rd_struct h hF
  obtain ⟨a, ha, ha2⟩ := rd_nat (hf (true, t8, 0) (by simp)) h8 w8
  obtain ⟨x, hx⟩ := rd_non (hf (true, tn, 1) (by simp)) hFn h1 h2 c1 c2 cn
  obtain ⟨d, hd⟩ := rd_dig (hf (true, td, 3) (by simp)) hu he ce cd
  simp only [c8, cn, cd] at ha hx hd
  refine ⟨⟨a, x, d, ha2⟩, ?_⟩
  have e1 := part_cat cs 0 1
  have e2 := part_cat cs 1 2
  have e3 := part_cat cs 3 32
  rw [ha] at e1; rw [hx] at e2; rw [hd, List.drop_eq_nil_of_le (by omega)] at e3
  rw [List.drop_zero] at e1
  rw [← e1, ← e2, ← e3]; simp [recC, nonC]

theorem rd_ent {t t8 td e : TypeId} {cs : List Value} (h : Rd enc P W base sp held t cs) (hF : fieldsB P t = [(true, t8, 0), (true, td, 1)]) (h8 : P.underlying t8 = some (.int .u8)) (c8 : P.cellsOf t8 = 1)
    (hu : P.underlying td = some (.array 32 e)) (he : P.underlying e = some (.int .u8)) (ce : P.cellsOf e = 1) (cd : P.cellsOf td = 32) (c : P.cellsOf t = 33) : ∃ x : Ent, cs = entC x := by
  obtain ⟨hl, hf⟩ := rd_struct h hF
  obtain ⟨a, ha, ha2⟩ := rd_nat (hf (true, t8, 0) (by simp)) h8 w8
  obtain ⟨d, hd⟩ := rd_dig (hf (true, td, 1) (by simp)) hu he ce cd
  simp only [c8, cd] at ha hd
  refine ⟨⟨a, d, ha2⟩, ?_⟩
  have e1 := part_cat cs 0 1
  have e3 := part_cat cs 1 32
  rw [ha] at e1; rw [hd, List.drop_eq_nil_of_le (by omega)] at e3
  rw [List.drop_zero] at e1
  rw [← e1, ← e3]; simp [entC]

theorem rd_cel {t td e t64 : TypeId} {cs : List Value} (h : Rd enc P W base sp held t cs) (hF : fieldsB P t = [(true, td, 0), (true, t64, 32), (true, t64, 33)]) (h2 : P.underlying t64 = some (.int .u64)) (c2 : P.cellsOf t64 = 1)
    (hu : P.underlying td = some (.array 32 e)) (he : P.underlying e = some (.int .u8)) (ce : P.cellsOf e = 1) (cd : P.cellsOf td = 32) (c : P.cellsOf t = 34) : ∃ x : Cel, cs = celC x := by
  obtain ⟨hl, hf⟩ := rd_struct h hF
  obtain ⟨d, hd⟩ := rd_dig (hf (true, td, 0) (by simp)) hu he ce cd
  obtain ⟨a, ha, ha2⟩ := rd_nat (hf (true, t64, 32) (by simp)) h2 w64
  obtain ⟨b, hb, hb2⟩ := rd_nat (hf (true, t64, 33) (by simp)) h2 w64
  simp only [c2, cd] at ha hb hd
  refine ⟨⟨d, a, b, ha2, hb2⟩, ?_⟩
  have e1 := part_cat cs 0 32
  have e2 := part_cat cs 32 1
  have e3 := part_cat cs 33 1
  rw [hd] at e1; rw [ha] at e2; rw [hb, List.drop_eq_nil_of_le (by omega)] at e3
  rw [List.drop_zero] at e1
  rw [← e1, ← e2, ← e3]; simp [celC]

theorem w16 (n : Int) (h : (Lit.int .u16 n).wf = true) : 0 ≤ n ∧ n < 2 ^ IntKind.u16.bits := by
  simp [Lit.wf, IntKind.min, IntKind.max, IntKind.signed, IntKind.bits] at h
  exact ⟨by omega, by show n < 2 ^ 16; omega⟩
/-- A struct of one number of 16 bits. -/
theorem rd_h16 {t t16 : TypeId} {cs : List Value} (h : Rd enc P W base sp held t cs) (hF : fieldsB P t = [(true, t16, 0)]) (h1 : P.underlying t16 = some (.int .u16)) (c1 : P.cellsOf t16 = 1) (c : P.cellsOf t = 1) : ∃ x : Nat, cs = [vH x] ∧ x < 65536 := by
  obtain ⟨hl, hf⟩ := rd_struct h hF
  obtain ⟨a, ha, ha2⟩ := rd_nat (hf (true, t16, 0) (by simp)) h1 w16
  simp only [c1] at ha
  refine ⟨a, ?_, ha2⟩
  have e1 := part_cat cs 0 1
  rw [ha, List.drop_eq_nil_of_le (by omega), List.drop_zero] at e1
  rw [← e1]; rfl
/-- An array of four numbers. -/
theorem rd_z4 {t e : TypeId} {cs : List Value} (h : Rd enc P W base sp held t cs) (hu : P.underlying t = some (.array 4 e)) (he : P.underlying e = some (.int .i64)) (ce : P.cellsOf e = 1) (c : P.cellsOf t = 4) :
    ∃ a b d f : Int, cs = [.int .i64 a, .int .i64 b, .int .i64 d, .int .i64 f] ∧ ∀ x ∈ [a, b, d, f], -9223372036854775808 ≤ x ∧ x ≤ 9223372036854775807 := by
  obtain ⟨hl, hi⟩ := rd_array h hu
  have wz : ∀ n : Int, (Lit.int .i64 n).wf = true → -9223372036854775808 ≤ n ∧ n ≤ 9223372036854775807 := fun n h => by
    simp [Lit.wf, IntKind.min, IntKind.max, IntKind.signed, IntKind.bits] at h
    omega
  obtain ⟨a, ha, wa⟩ := rd_int (hi 0 (by omega)) he
  obtain ⟨b, hb, wb⟩ := rd_int (hi 1 (by omega)) he
  obtain ⟨d, hd, wd⟩ := rd_int (hi 2 (by omega)) he
  obtain ⟨f, hf, wf⟩ := rd_int (hi 3 (by omega)) he
  simp only [ce] at ha hb hd hf
  refine ⟨a, b, d, f, ?_, by simp only [List.mem_cons, List.not_mem_nil, or_false]; rintro x (rfl | rfl | rfl | rfl) <;> exact wz _ (by assumption)⟩
  have e1 := part_cat cs 0 1
  have e2 := part_cat cs 1 1
  have e3 := part_cat cs 2 1
  have e4 := part_cat cs 3 1
  simp only [Nat.zero_mul, Nat.one_mul, Nat.reduceMul] at ha hb hd hf
  rw [ha, List.drop_zero] at e1; rw [hb] at e2; rw [hd] at e3; rw [hf, List.drop_eq_nil_of_le (by omega)] at e4
  rw [← e1, ← e2, ← e3, ← e4]; rfl

end
end Go.Cs
