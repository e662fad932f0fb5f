/- The bytes of records, entries, cells and nonces, as plain data. No condition beyond those of each statement. -/
import Derived.Test.YthjplefmfjkhfaaDoorCsR
import Derived.Test.YthjplefmfjkhfaaDoorCsWords2
set_option linter.all false
set_option linter.unusedVariables false
namespace Go.Cs
open Go

def nonB (x : Non) : List UInt8 := be x.sh 4 ++ be x.ct 8
def recB (x : Rec) : List UInt8 := [UInt8.ofNat x.st] ++ nonB x.non ++ x.tag.l
def entB (x : Ent) : List UInt8 := [UInt8.ofNat x.st] ++ x.dg.l
def celB (x : Cel) : List UInt8 := x.root.l ++ be x.ep 8 ++ be x.mark 8

/-- The error of a record: 0 or 1. -/
def chkR (x : Rec) : Nat := if 2 < x.st then 1 else if x.st = 0 then (if x.eqb Rec.zero = true then 0 else 1) else 0
def chkE (x : Ent) : Nat := if 2 < x.st then 1 else if x.st = 0 then (if x.eqb Ent.zero = true then 0 else 1) else 0

/-- What a nonce's 12 bytes, a record's 45, an entry's 33, a cell's 48 say. -/
def Non.of (l : List UInt8) : Non := ⟨getV (l.take 4) 4, getV (l.drop 4) 8, getV_lt _ 4, getV_lt _ 8⟩
def Rec.of (l : List UInt8) : Rec := ⟨byt l 0, Non.of ((l.drop 1).take 12), Dig.of ((l.drop 13).take 32), byt_lt _ _⟩
def Ent.of (l : List UInt8) : Ent := ⟨byt l 0, Dig.of ((l.drop 1).take 32), byt_lt _ _⟩
def Cel.of (l : List UInt8) : Cel := ⟨Dig.of (l.take 32), getV ((l.drop 32).take 8) 8, getV ((l.drop 40).take 8) 8, getV_lt _ 8, getV_lt _ 8⟩

theorem byt_take1 (l : List UInt8) : byt (l.take 1) 0 = byt l 0 := by cases l <;> simp [byt]
theorem nonB_len (x : Non) : (nonB x).length = 12 := by simp [nonB]
theorem recB_len (x : Rec) : (recB x).length = 45 := by simp [recB, nonB_len, x.tag.h]
theorem entB_len (x : Ent) : (entB x).length = 33 := by simp [entB, x.dg.h]
theorem celB_len (x : Cel) : (celB x).length = 48 := by simp [celB, x.root.h]

theorem Non.of_B (x : Non) : Non.of (nonB x) = x := by
  refine Non.ext' ?_ ?_
  · show getV ((nonB x).take 4) 4 = x.sh
    rw [nonB, List.take_append_of_le_length (by simp), List.take_of_length_le (by simp)]
    exact getV_be4 x.hsh
  · show getV ((nonB x).drop 4) 8 = x.ct
    rw [nonB, List.drop_append_of_le_length (by simp), List.drop_eq_nil_of_le (by simp), List.nil_append]
    exact getV_be8 x.hct
theorem Dig.of_B (x : Dig) : Dig.of x.l = x := Dig.ext' (Dig.of_l x.h)
theorem byt_sing {n : Nat} (h : n < 256) (l : List UInt8) : byt ([UInt8.ofNat n] ++ l) 0 = n := by
  simp [byt, Nat.mod_eq_of_lt h]
theorem Rec.of_B (x : Rec) : Rec.of (recB x) = x := by
  refine Rec.ext' ?_ ?_ ?_
  · show byt (recB x) 0 = x.st
    rw [recB, List.append_assoc]; exact byt_sing x.hst _
  · show Non.of (((recB x).drop 1).take 12) = x.non
    have h : ((recB x).drop 1).take 12 = nonB x.non := by
      have := nonB_len x.non
      simp only [recB, List.cons_append, List.nil_append, List.append_assoc, List.drop_succ_cons, List.drop_zero]
      rw [List.take_append_of_le_length (by omega), List.take_of_length_le (by omega)]
    rw [h]; exact Non.of_B _
  · show Dig.of (((recB x).drop 13).take 32) = x.tag
    have h : ((recB x).drop 13).take 32 = x.tag.l := by
      have := nonB_len x.non
      simp only [recB, List.cons_append, List.nil_append, List.append_assoc, List.drop_succ_cons]
      rw [List.drop_append, List.drop_eq_nil_of_le (by omega), List.nil_append, this]
      simp [x.tag.h, List.take_of_length_le]
    rw [h]; exact Dig.of_B _
theorem Ent.of_B (x : Ent) : Ent.of (entB x) = x := by
  refine Ent.ext' ?_ ?_
  · show byt (entB x) 0 = x.st
    rw [entB]; exact byt_sing x.hst _
  · show Dig.of (((entB x).drop 1).take 32) = x.dg
    have h : ((entB x).drop 1).take 32 = x.dg.l := by simp [entB, x.dg.h, List.take_of_length_le]
    rw [h]; exact Dig.of_B _
theorem Cel.of_B (x : Cel) : Cel.of (celB x) = x := by
  have hr := x.root.h
  refine Cel.ext' ?_ ?_ ?_
  · show Dig.of ((celB x).take 32) = x.root
    have h : (celB x).take 32 = x.root.l := by
      rw [celB, List.append_assoc, List.take_append_of_le_length (by omega), List.take_of_length_le (by omega)]
    rw [h]; exact Dig.of_B _
  · show getV (((celB x).drop 32).take 8) 8 = x.ep
    have h : ((celB x).drop 32).take 8 = be x.ep 8 := by
      rw [celB, List.append_assoc, List.drop_append, List.drop_eq_nil_of_le (by omega), List.nil_append, hr, Nat.sub_self, List.drop_zero, List.take_append_of_le_length (by simp), List.take_of_length_le (by simp)]
    rw [h]; exact getV_be8 x.hep
  · show getV (((celB x).drop 40).take 8) 8 = x.mark
    have h : ((celB x).drop 40).take 8 = be x.mark 8 := by
      rw [celB, List.drop_append, List.drop_eq_nil_of_le (by simp; omega), List.nil_append]
      simp [hr]
      rw [List.take_of_length_le (by simp)]
    rw [h]; exact getV_be8 x.hmk
theorem chkR_le (x : Rec) : chkR x = 0 ∨ chkR x = 1 := by
  unfold chkR; split
  · exact .inr rfl
  · split
    · split
      · exact .inl rfl
      · exact .inr rfl
    · exact .inl rfl
theorem chkE_le (x : Ent) : chkE x = 0 ∨ chkE x = 1 := by
  unfold chkE; split
  · exact .inr rfl
  · split
    · split
      · exact .inl rfl
      · exact .inr rfl
    · exact .inl rfl

end Go.Cs
