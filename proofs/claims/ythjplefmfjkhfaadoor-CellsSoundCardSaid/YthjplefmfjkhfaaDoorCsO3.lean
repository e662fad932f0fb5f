/- Arguments that hold slices, opened: a slice whose elements are rows of cells, a struct with such a slice. Lemmas only; no condition. -/
import Derived.Test.YthjplefmfjkhfaaDoorCsO
import Derived.Deep.Slices
set_option linter.all false
set_option linter.unusedVariables false
namespace Go.Cs
open Go Go.ChangeShapes Go.WideShapes Go.ChangeAt Go.RowKit

theorem flatMap_get {α : Type} {f : α → List Value} {sz : Nat} (hf : ∀ x, (f x).length = sz) (d : α) : ∀ (l : List α) (k : Nat), 0 < sz → (l.flatMap f)[k]? = if k < l.length * sz then (f (l.getD (k / sz) d))[k % sz]? else none
  | [], k, hz => by simp
  | x :: l, k, hz => by
    rw [List.flatMap_cons]
    rcases Nat.lt_or_ge k sz with h | h
    · rw [List.getElem?_append_left (by rw [hf]; exact h), Nat.div_eq_of_lt h, Nat.mod_eq_of_lt h, if_pos]
      · simp
      · rw [List.length_cons, Nat.add_mul, Nat.one_mul]; omega
    · rw [List.getElem?_append_right (by rw [hf]; exact h), hf, flatMap_get hf d l (k - sz) hz]
      have e1 : k / sz = (k - sz) / sz + 1 := by rw [← Nat.add_div_right _ hz, Nat.sub_add_cancel h]
      have e2 : k % sz = (k - sz) % sz := by rw [← Nat.mod_eq_sub_mod h]
      rw [e1, e2, List.getD_cons_succ, List.length_cons, Nat.add_mul, Nat.one_mul]
      by_cases h2 : k < l.length * sz + sz
      · rw [if_pos (by omega), if_pos h2]
      · rw [if_neg (by omega), if_neg h2]

section
variable {H : Type} {enc : TypeId × Value → H} {P : Program} {W : World} {base : Nat} {sp : Nat → Bool} {held : Bool}

theorem rd_slice {α : Type} {f : α → List Value} {t e : TypeId} {sz : Nat} {cs : List Value} (hx : ∀ us, Rd enc P W base sp held e us → ∃ x, us = f x) (hf : ∀ x, (f x).length = sz) (h : Rd enc P W base sp held t cs) (hu : P.underlying t = some (.slice e)) (he : P.cellsOf e = sz) (hz : 0 < sz) :
    ∃ a len cap l, cs = [.slice a len cap] ∧ Ms f sz 0 W.heap.size W a len cap l := by
  obtain ⟨fuel, r, hr⟩ := h
  rcases Go.Deep.open_slice hu hr with ⟨rfl, _⟩ | ⟨a, len, cap, m, n, D, Pl, rfl, hb, hl, hm, hmm, _, hi⟩
  · exact ⟨none, 0, 0, [], rfl, Ms.nil f _ _ _ hf⟩
  · have hlm : len ≤ m := by subst hmm; split <;> omega
    rw [he] at hi
    rcases Nat.eq_zero_or_pos len with h0 | h0
    · subst h0
      exact ⟨some a, 0, cap, [], rfl, ⟨⟨hl, hm, .inl rfl⟩, rfl, hf⟩⟩
    · have one : ∀ i, i < len → ∃ x, W.cells? base (a.add (i * sz)) sz = some (f x) := fun i hlt => by
        obtain ⟨cs', h1, h2⟩ := hi i (by omega)
        obtain ⟨x, rfl⟩ := hx cs' ⟨n, _, h2⟩
        exact ⟨x, h1⟩
      obtain ⟨x0, hx0⟩ := one 0 h0
      haveI : Inhabited α := ⟨x0⟩
      obtain ⟨g, hg⟩ := Go.Deep.choose_lt one
      have hsp : a.spot = none ∧ a.block < W.heap.size := by
        have h3 := (World.cells?_some hx0).2.2 0 hz
        rw [Nat.zero_mul] at h3
        have e0 : (a.add 0).add 0 = a := by simp [Addr.add]
        rw [e0, List.getElem?_eq_getElem (by rw [hf]; exact hz)] at h3
        refine ⟨?_, World.block_lt_of_cell? W a h3⟩
        cases hs : a.spot with
        | none => rfl
        | some k =>
          exfalso
          have h4 := (World.cells?_some (hg 0 h0)).2.2
          simp only [World.cell?, hs] at h3
          split at h3 <;> simp at h3
      obtain ⟨b, o, s⟩ := a
      simp only at hsp
      obtain ⟨rfl, hlt⟩ := hsp
      refine ⟨_, len, cap, (List.range len).map g, rfl, ⟨hl, hm, .inr ⟨rfl, Nat.zero_le _, hlt, hlt, fun k v hk => ?_⟩⟩, by simp, hf⟩
      rw [flatMap_get hf x0 _ k hz] at hk
      simp only [List.length_map, List.length_range] at hk
      split at hk
      · next hks =>
        have hq : k / sz < len := Nat.div_lt_of_lt_mul (by rw [Nat.mul_comm]; exact hks)
        have hg1 : ((List.range len).map g).getD (k / sz) x0 = g (k / sz) := by simp [List.getD, hq]
        rw [hg1] at hk
        have h5 := (World.cells?_some (hg (k / sz) hq)).2.2 (k % sz) (Nat.mod_lt _ hz)
        rw [hk, Addr.add_lit, Addr.add_lit] at h5
        rw [← h5]
        have := Nat.div_add_mod k sz
        rw [Nat.mul_comm] at this
        simp only [Nat.add_assoc, this]
      · cases hk

/-- Pairs of numbers. -/
theorem rd_b2 {t e : TypeId} {cs : List Value} (h : Rd enc P W base sp held t cs) (hu : P.underlying t = some (.array 2 e)) (he : P.underlying e = some (.int .u8)) (ce : P.cellsOf e = 1) (c : P.cellsOf t = 2) : ∃ x : UInt8 × UInt8, cs = b2C x := by
  obtain ⟨hl, hi⟩ := rd_array h hu
  obtain ⟨a, ha, ha2⟩ := rd_nat (hi 0 (by omega)) he w8
  obtain ⟨b, hb, hb2⟩ := rd_nat (hi 1 (by omega)) he w8
  simp only [ce, Nat.mul_one] at ha hb
  have ea : ((UInt8.ofNat a).toNat : Nat) = a := by rw [UInt8.toNat_ofNat', Nat.mod_eq_of_lt (show a < 2 ^ 8 from ha2)]
  have eb : ((UInt8.ofNat b).toNat : Nat) = b := by rw [UInt8.toNat_ofNat', Nat.mod_eq_of_lt (show b < 2 ^ 8 from hb2)]
  refine ⟨(UInt8.ofNat a, UInt8.ofNat b), ?_⟩
  have e1 := part_cat cs 0 1
  have e2 := part_cat cs 1 1
  rw [ha] at e1; rw [hb, List.drop_eq_nil_of_le (by omega)] at e2
  rw [List.drop_zero] at e1
  rw [← e1, ← e2]; simp [b2C, ea, eb]
theorem rd_pair8 {t e : TypeId} {cs : List Value} (h : Rd enc P W base sp held t cs) (hu : P.underlying t = some (.array 2 e)) (he : P.underlying e = some (.int .u8)) (ce : P.cellsOf e = 1) (c : P.cellsOf t = 2) :
    ∃ a b : Nat, cs = [.int .u8 ((a : Nat) : Int), .int .u8 ((b : Nat) : Int)] ∧ a < 256 ∧ b < 256 := by
  obtain ⟨hl, hi⟩ := rd_array h hu
  obtain ⟨a, ha, ha2⟩ := rd_nat (hi 0 (by omega)) he w8
  obtain ⟨b, hb, hb2⟩ := rd_nat (hi 1 (by omega)) he w8
  simp only [ce, Nat.mul_one] at ha hb
  refine ⟨a, b, ?_, ha2, hb2⟩
  have e1 := part_cat cs 0 1
  have e2 := part_cat cs 1 1
  rw [ha] at e1; rw [hb, List.drop_eq_nil_of_le (by omega)] at e2
  rw [List.drop_zero] at e1
  rw [← e1, ← e2]; rfl
theorem rd_pair64 {t e : TypeId} {cs : List Value} (h : Rd enc P W base sp held t cs) (hu : P.underlying t = some (.array 2 e)) (he : P.underlying e = some (.int .u64)) (ce : P.cellsOf e = 1) (c : P.cellsOf t = 2) :
    ∃ a b : Nat, cs = [.int .u64 ((a : Nat) : Int), .int .u64 ((b : Nat) : Int)] ∧ a < 2 ^ 64 ∧ b < 2 ^ 64 := by
  obtain ⟨hl, hi⟩ := rd_array h hu
  obtain ⟨a, ha, ha2⟩ := rd_nat (hi 0 (by omega)) he w64
  obtain ⟨b, hb, hb2⟩ := rd_nat (hi 1 (by omega)) he w64
  simp only [ce, Nat.mul_one] at ha hb
  refine ⟨a, b, ?_, ha2, hb2⟩
  have e1 := part_cat cs 0 1
  have e2 := part_cat cs 1 1
  rw [ha] at e1; rw [hb, List.drop_eq_nil_of_le (by omega)] at e2
  rw [List.drop_zero] at e1
  rw [← e1, ← e2]; rfl
theorem rd_pairz {t e : TypeId} {cs : List Value} (h : Rd enc P W base sp held t cs) (hu : P.underlying t = some (.array 2 e)) (he : P.underlying e = some (.int .i64)) (ce : P.cellsOf e = 1) (c : P.cellsOf t = 2) :
    ∃ a b : Int, cs = [.int .i64 a, .int .i64 b] ∧ (-9223372036854775808 ≤ a ∧ a ≤ 9223372036854775807) ∧ (-9223372036854775808 ≤ b ∧ b ≤ 9223372036854775807) := by
  obtain ⟨hl, hi⟩ := rd_array h hu
  have wz : ∀ n : Int, (Lit.int .i64 n).wf = true → -9223372036854775808 ≤ n ∧ n ≤ 9223372036854775807 := fun n h => by
    simp [Lit.wf, IntKind.min, IntKind.max, IntKind.signed, IntKind.bits] at h
    omega
  obtain ⟨a, ha, wa⟩ := rd_int (hi 0 (by omega)) he
  obtain ⟨b, hb, wb⟩ := rd_int (hi 1 (by omega)) he
  simp only [ce, Nat.mul_one] at ha hb
  refine ⟨a, b, ?_, wz _ wa, wz _ wb⟩
  have e1 := part_cat cs 0 1
  have e2 := part_cat cs 1 1
  rw [ha] at e1; rw [hb, List.drop_eq_nil_of_le (by omega)] at e2
  rw [List.drop_zero] at e1
  rw [← e1, ← e2]; rfl
/-- A struct of a number of 16 bits, in a struct, and a list of pairs of bytes. -/
theorem rd_L {T tN t16 tS e t8 : TypeId} {cs : List Value} (h : Rd enc P W base sp held T cs) (hF : fieldsB P T = [(true, tN, 0), (true, tS, 1)]) (hN : fieldsB P tN = [(true, t16, 0)]) (h16 : P.underlying t16 = some (.int .u16)) (c16 : P.cellsOf t16 = 1) (cN : P.cellsOf tN = 1)
    (hS : P.underlying tS = some (.slice e)) (cS : P.cellsOf tS = 1) (he : P.underlying e = some (.array 2 t8)) (h8 : P.underlying t8 = some (.int .u8)) (c8 : P.cellsOf t8 = 1) (ce : P.cellsOf e = 2) (c : P.cellsOf T = 2) :
    ∃ k a n cp st, cs = [vH k, .slice a n cp] ∧ k < 65536 ∧ Ms b2C 2 0 W.heap.size W a n cp st := by
  obtain ⟨hl, hf⟩ := rd_struct h hF
  obtain ⟨k, hk, hk2⟩ := rd_h16 (hf (true, tN, 0) (by simp)) hN h16 c16 cN
  obtain ⟨a, n, cp, st, hs, hm⟩ := rd_slice (f := b2C) (sz := 2) (fun us hu => rd_b2 hu he h8 c8 ce) b2C_len (hf (true, tS, 1) (by simp)) hS ce (by decide)
  simp only [cN, cS] at hk hs
  refine ⟨k, a, n, cp, st, ?_, hk2, hm⟩
  have e1 := part_cat cs 0 1
  have e2 := part_cat cs 1 1
  rw [hk] at e1; rw [hs, List.drop_eq_nil_of_le (by omega)] at e2
  rw [List.drop_zero] at e1
  rw [← e1, ← e2]; rfl
end
end Go.Cs
