/- CsR4: what each function does, by its own code. No condition beyond those of each statement. -/
import Derived.Test.YtigeaknjhnichaaCsR3
namespace Go.Proofs.Ytigeaknjhnichaa
open Go Go.RowKit Go.Cs
set_option maxRecDepth 100000
set_option linter.all false
set_option linter.unusedVariables false

theorem c_Slot0   (w : World)  :
    Calls Try.prog 41 #[(.int .u8 ((0 : Nat) : Int))] w (Ret fun r w' => r = (.tuple #[(.int .i64 ((0 : Nat) : Int)), (.int .i64 ((11 : Nat) : Int))]) ∧ Ext w w') := by
  refine calls_of (n := 13) (σ := [(0, (.int .u8 ((0 : Nat) : Int)))]) Try.func41 rfl (by kernel_rfl) ?_
  refine wpC_seq ?_
  refine wpC_region ?_
  refine wpF_run 2 [(3, (.int .i64 ((0 : Nat) : Int))), (2, (.int .i64 ((0 : Nat) : Int)))] (by kernel_rfl) ?_
  refine wpF_end (by kernel_rfl) ?_
  refine then_code ?_
  refine wpC_seq ?_
  refine wpC_seq ?_
  refine wpC_region ?_
  refine wpF_run 1 [(4, (.int .u8 ((0 : Nat) : Int)))] (by kernel_rfl) ?_
  refine wpF_end (by kernel_rfl) ?_
  refine then_code ?_
  refine wpC_block ?_
  refine wpC_seq ?_
  refine wpC_region ?_
  refine wpF_run 2 [(5, (.bool true)), (6, (.bool true))] (by kernel_rfl) ?_
  refine wpF_end (by kernel_rfl) ?_
  refine then_code ?_
  refine wpC_true (by kernel_rfl) ?_
  refine wpC_seq ?_
  refine wpC_region ?_
  refine wpF_run 2 [(3, (.int .i64 ((11 : Nat) : Int))), (2, (.int .i64 ((0 : Nat) : Int)))] (by kernel_rfl) ?_
  refine wpF_end (by kernel_rfl) ?_
  refine then_code ?_
  refine wpC_ret ?_
  refine inBlock_ret ?_
  refine then_ret ?_
  refine body_ret2 (by kernel_rfl) (show resVal Try.prog 13 _ _ (.tmp 2) (.int .i64 ((0 : Nat) : Int)) by (show _ = _; kernel_rfl)) (show resVal Try.prog 13 _ _ (.tmp 3) (.int .i64 ((11 : Nat) : Int)) by (show _ = _; kernel_rfl)) ?_
  exact ⟨rfl, (Ext.refl _)⟩

theorem c_Slot1   (w : World)  :
    Calls Try.prog 41 #[(.int .u8 ((1 : Nat) : Int))] w (Ret fun r w' => r = (.tuple #[(.int .i64 ((0 : Nat) : Int)), (.int .i64 ((0 : Nat) : Int))]) ∧ Ext w w') := by
  refine calls_of (n := 13) (σ := [(0, (.int .u8 ((1 : Nat) : Int)))]) Try.func41 rfl (by kernel_rfl) ?_
  refine wpC_seq ?_
  refine wpC_region ?_
  refine wpF_run 2 [(3, (.int .i64 ((0 : Nat) : Int))), (2, (.int .i64 ((0 : Nat) : Int)))] (by kernel_rfl) ?_
  refine wpF_end (by kernel_rfl) ?_
  refine then_code ?_
  refine wpC_seq ?_
  refine wpC_seq ?_
  refine wpC_region ?_
  refine wpF_run 1 [(4, (.int .u8 ((1 : Nat) : Int)))] (by kernel_rfl) ?_
  refine wpF_end (by kernel_rfl) ?_
  refine then_code ?_
  refine wpC_block ?_
  refine wpC_seq ?_
  refine wpC_region ?_
  refine wpF_run 2 [(5, (.bool false)), (6, (.bool false))] (by kernel_rfl) ?_
  refine wpF_end (by kernel_rfl) ?_
  refine then_code ?_
  refine wpC_false (by kernel_rfl) ?_
  refine wpC_seq ?_
  refine wpC_seq ?_
  refine wpC_region ?_
  refine wpF_run 2 [(7, (.bool true)), (8, (.bool true))] (by kernel_rfl) ?_
  refine wpF_end (by kernel_rfl) ?_
  refine then_code ?_
  refine wpC_true (by kernel_rfl) ?_
  refine wpC_skip ?_
  refine then_code ?_
  refine wpC_true (by kernel_rfl) ?_
  refine wpC_seq ?_
  refine wpC_region ?_
  refine wpF_run 1 [(10, (.int .u8 ((1 : Nat) : Int)))] (by kernel_rfl) ?_
  refine wpF_step (op_eqv (d := (some 11)) (.int .i64 (IntKind.i64.wrap ((1 : Nat) : Int))) (.int .i64 ((1 : Nat) : Int)) (by kernel_rfl) (congrArg (Value.int .i64) (wrapS rfl (by omega) (by omega))) ?_)
  refine wpF_step (op_eqv (d := (some 12)) (.int .i64 (IntKind.i64.wrap (((1 : Nat) : Int) - ((1 : Nat) : Int)))) (.int .i64 ((0 : Nat) : Int)) (by kernel_rfl) (congrArg (Value.int .i64) (wrapS (by omega) (by omega) (by omega))) ?_)
  refine wpF_run 2 [(3, (.int .i64 ((0 : Nat) : Int))), (2, (.int .i64 ((0 : Nat) : Int)))] (by kernel_rfl) ?_
  refine wpF_end (by kernel_rfl) ?_
  refine then_code ?_
  refine wpC_ret ?_
  refine inBlock_ret ?_
  refine then_ret ?_
  refine body_ret2 (by kernel_rfl) (show resVal Try.prog 13 _ _ (.tmp 2) (.int .i64 ((0 : Nat) : Int)) by (show _ = _; kernel_rfl)) (show resVal Try.prog 13 _ _ (.tmp 3) (.int .i64 ((0 : Nat) : Int)) by (show _ = _; kernel_rfl)) ?_
  exact ⟨rfl, (Ext.refl _)⟩

theorem c_Slot2   (w : World)  :
    Calls Try.prog 41 #[(.int .u8 ((2 : Nat) : Int))] w (Ret fun r w' => r = (.tuple #[(.int .i64 ((1 : Nat) : Int)), (.int .i64 ((0 : Nat) : Int))]) ∧ Ext w w') := by
  refine calls_of (n := 13) (σ := [(0, (.int .u8 ((2 : Nat) : Int)))]) Try.func41 rfl (by kernel_rfl) ?_
  refine wpC_seq ?_
  refine wpC_region ?_
  refine wpF_run 2 [(3, (.int .i64 ((0 : Nat) : Int))), (2, (.int .i64 ((0 : Nat) : Int)))] (by kernel_rfl) ?_
  refine wpF_end (by kernel_rfl) ?_
  refine then_code ?_
  refine wpC_seq ?_
  refine wpC_seq ?_
  refine wpC_region ?_
  refine wpF_run 1 [(4, (.int .u8 ((2 : Nat) : Int)))] (by kernel_rfl) ?_
  refine wpF_end (by kernel_rfl) ?_
  refine then_code ?_
  refine wpC_block ?_
  refine wpC_seq ?_
  refine wpC_region ?_
  refine wpF_run 2 [(5, (.bool false)), (6, (.bool false))] (by kernel_rfl) ?_
  refine wpF_end (by kernel_rfl) ?_
  refine then_code ?_
  refine wpC_false (by kernel_rfl) ?_
  refine wpC_seq ?_
  refine wpC_seq ?_
  refine wpC_region ?_
  refine wpF_run 2 [(7, (.bool false)), (8, (.bool false))] (by kernel_rfl) ?_
  refine wpF_end (by kernel_rfl) ?_
  refine then_code ?_
  refine wpC_false (by kernel_rfl) ?_
  refine wpC_region ?_
  refine wpF_run 2 [(7, (.bool true)), (9, (.bool true))] (by kernel_rfl) ?_
  refine wpF_end (by kernel_rfl) ?_
  refine then_code ?_
  refine wpC_true (by kernel_rfl) ?_
  refine wpC_seq ?_
  refine wpC_region ?_
  refine wpF_run 1 [(10, (.int .u8 ((2 : Nat) : Int)))] (by kernel_rfl) ?_
  refine wpF_step (op_eqv (d := (some 11)) (.int .i64 (IntKind.i64.wrap ((2 : Nat) : Int))) (.int .i64 ((2 : Nat) : Int)) (by kernel_rfl) (congrArg (Value.int .i64) (wrapS rfl (by omega) (by omega))) ?_)
  refine wpF_step (op_eqv (d := (some 12)) (.int .i64 (IntKind.i64.wrap (((2 : Nat) : Int) - ((1 : Nat) : Int)))) (.int .i64 ((1 : Nat) : Int)) (by kernel_rfl) (congrArg (Value.int .i64) (wrapS (by omega) (by omega) (by omega))) ?_)
  refine wpF_run 2 [(3, (.int .i64 ((0 : Nat) : Int))), (2, (.int .i64 ((1 : Nat) : Int)))] (by kernel_rfl) ?_
  refine wpF_end (by kernel_rfl) ?_
  refine then_code ?_
  refine wpC_ret ?_
  refine inBlock_ret ?_
  refine then_ret ?_
  refine body_ret2 (by kernel_rfl) (show resVal Try.prog 13 _ _ (.tmp 2) (.int .i64 ((1 : Nat) : Int)) by (show _ = _; kernel_rfl)) (show resVal Try.prog 13 _ _ (.tmp 3) (.int .i64 ((0 : Nat) : Int)) by (show _ = _; kernel_rfl)) ?_
  exact ⟨rfl, (Ext.refl _)⟩

theorem c_SlotBad (s : Nat)  (w : World) (hp0 : 2 < s) :
    Calls Try.prog 41 #[(.int .u8 ((s : Nat) : Int))] w (Ret fun r w' => r = (.tuple #[(.int .i64 ((0 : Nat) : Int)), (.int .i64 ((1 : Nat) : Int))]) ∧ Ext w w') := by
  refine calls_of (n := 13) (σ := [(0, (.int .u8 ((s : Nat) : Int)))]) Try.func41 rfl (by kernel_rfl) ?_
  refine wpC_seq ?_
  refine wpC_region ?_
  refine wpF_run 2 [(3, (.int .i64 ((0 : Nat) : Int))), (2, (.int .i64 ((0 : Nat) : Int)))] (by kernel_rfl) ?_
  refine wpF_end (by kernel_rfl) ?_
  refine then_code ?_
  refine wpC_seq ?_
  refine wpC_seq ?_
  refine wpC_region ?_
  refine wpF_run 1 [(4, (.int .u8 ((s : Nat) : Int)))] (by kernel_rfl) ?_
  refine wpF_end (by kernel_rfl) ?_
  refine then_code ?_
  refine wpC_block ?_
  refine wpC_seq ?_
  refine wpC_region ?_
  refine wpF_step (op_eqv (d := (some 6)) (.bool ((((s : Nat) : Int) == ((0 : Nat) : Int)))) (.bool false) (by kernel_rfl) (congrArg Value.bool (cmpEqF (by omega))) ?_)
  refine wpF_run 1 [(5, (.bool false))] (by kernel_rfl) ?_
  refine wpF_end (by kernel_rfl) ?_
  refine then_code ?_
  refine wpC_false (by kernel_rfl) ?_
  refine wpC_seq ?_
  refine wpC_seq ?_
  refine wpC_region ?_
  refine wpF_step (op_eqv (d := (some 8)) (.bool ((((s : Nat) : Int) == ((1 : Nat) : Int)))) (.bool false) (by kernel_rfl) (congrArg Value.bool (cmpEqF (by omega))) ?_)
  refine wpF_run 1 [(7, (.bool false))] (by kernel_rfl) ?_
  refine wpF_end (by kernel_rfl) ?_
  refine then_code ?_
  refine wpC_false (by kernel_rfl) ?_
  refine wpC_region ?_
  refine wpF_step (op_eqv (d := (some 9)) (.bool ((((s : Nat) : Int) == ((2 : Nat) : Int)))) (.bool false) (by kernel_rfl) (congrArg Value.bool (cmpEqF (by omega))) ?_)
  refine wpF_run 1 [(7, (.bool false))] (by kernel_rfl) ?_
  refine wpF_end (by kernel_rfl) ?_
  refine then_code ?_
  refine wpC_false (by kernel_rfl) ?_
  refine wpC_skip ?_
  refine inBlock_normal ?_
  refine then_code ?_
  refine wpC_seq ?_
  refine wpC_region ?_
  refine wpF_run 2 [(3, (.int .i64 ((1 : Nat) : Int))), (2, (.int .i64 ((0 : Nat) : Int)))] (by kernel_rfl) ?_
  refine wpF_end (by kernel_rfl) ?_
  refine then_code ?_
  refine wpC_ret ?_
  refine body_ret2 (by kernel_rfl) (show resVal Try.prog 13 _ _ (.tmp 2) (.int .i64 ((0 : Nat) : Int)) by (show _ = _; kernel_rfl)) (show resVal Try.prog 13 _ _ (.tmp 3) (.int .i64 ((1 : Nat) : Int)) by (show _ = _; kernel_rfl)) ?_
  exact ⟨rfl, (Ext.refl _)⟩

theorem c_State0   (w : World)  :
    Calls Try.prog 42 #[(.int .i64 ((0 : Nat) : Int))] w (Ret fun r w' => r = (.tuple #[(.int .u8 ((1 : Nat) : Int)), (.int .i64 ((0 : Nat) : Int))]) ∧ Ext w w') := by
  refine calls_of (n := 13) (σ := [(0, (.int .i64 ((0 : Nat) : Int)))]) Try.func42 rfl (by kernel_rfl) ?_
  refine wpC_seq ?_
  refine wpC_region ?_
  refine wpF_run 2 [(3, (.int .i64 ((0 : Nat) : Int))), (2, (.int .u8 ((0 : Nat) : Int)))] (by kernel_rfl) ?_
  refine wpF_end (by kernel_rfl) ?_
  refine then_code ?_
  refine wpC_seq ?_
  refine wpC_seq ?_
  refine wpC_region ?_
  refine wpF_run 6 [(9, (.bool false)), (8, undef), (7, undef), (6, (.bool false)), (5, (.bool false)), (4, (.int .i64 ((0 : Nat) : Int)))] (by kernel_rfl) ?_
  refine wpF_end (by kernel_rfl) ?_
  refine then_code ?_
  refine wpC_false (by kernel_rfl) ?_
  refine wpC_skip ?_
  refine then_code ?_
  refine wpC_seq ?_
  refine wpC_region ?_
  refine wpF_run 1 [(10, (.int .i64 ((0 : Nat) : Int)))] (by kernel_rfl) ?_
  refine wpF_step (op_eqv (d := (some 11)) (.int .u8 (IntKind.u8.wrap ((0 : Nat) : Int))) (.int .u8 ((0 % 2 ^ 8 : Nat) : Int)) (by kernel_rfl) (congrArg (Value.int .u8) (wrapU rfl rfl)) ?_)
  refine wpF_step (op_eqv (d := (some 12)) (.int .u8 (IntKind.u8.wrap (((0 % 2 ^ 8 : Nat) : Int) + ((1 : Nat) : Int)))) (.int .u8 (((0 % 2 ^ 8 + 1) % 2 ^ 8 : Nat) : Int)) (by kernel_rfl) (congrArg (Value.int .u8) (wrapU rfl (by simp))) ?_)
  refine wpF_run 2 [(3, (.int .i64 ((0 : Nat) : Int))), (2, (.int .u8 (((0 % 2 ^ 8 + 1) % 2 ^ 8 : Nat) : Int)))] (by kernel_rfl) ?_
  refine wpF_end (by kernel_rfl) ?_
  refine then_code ?_
  refine wpC_ret ?_
  refine body_ret2 (by kernel_rfl) (show resVal Try.prog 13 _ _ (.tmp 2) (.int .u8 (((0 % 2 ^ 8 + 1) % 2 ^ 8 : Nat) : Int)) by (show _ = _; kernel_rfl)) (show resVal Try.prog 13 _ _ (.tmp 3) (.int .i64 ((0 : Nat) : Int)) by (show _ = _; kernel_rfl)) ?_
  exact ⟨rfl, (Ext.refl _)⟩

theorem c_State1   (w : World)  :
    Calls Try.prog 42 #[(.int .i64 ((1 : Nat) : Int))] w (Ret fun r w' => r = (.tuple #[(.int .u8 ((2 : Nat) : Int)), (.int .i64 ((0 : Nat) : Int))]) ∧ Ext w w') := by
  refine calls_of (n := 13) (σ := [(0, (.int .i64 ((1 : Nat) : Int)))]) Try.func42 rfl (by kernel_rfl) ?_
  refine wpC_seq ?_
  refine wpC_region ?_
  refine wpF_run 2 [(3, (.int .i64 ((0 : Nat) : Int))), (2, (.int .u8 ((0 : Nat) : Int)))] (by kernel_rfl) ?_
  refine wpF_end (by kernel_rfl) ?_
  refine then_code ?_
  refine wpC_seq ?_
  refine wpC_seq ?_
  refine wpC_region ?_
  refine wpF_run 6 [(9, (.bool false)), (8, (.bool false)), (7, (.int .i64 ((1 : Nat) : Int))), (6, (.bool true)), (5, (.bool true)), (4, (.int .i64 ((1 : Nat) : Int)))] (by kernel_rfl) ?_
  refine wpF_end (by kernel_rfl) ?_
  refine then_code ?_
  refine wpC_false (by kernel_rfl) ?_
  refine wpC_skip ?_
  refine then_code ?_
  refine wpC_seq ?_
  refine wpC_region ?_
  refine wpF_run 1 [(10, (.int .i64 ((1 : Nat) : Int)))] (by kernel_rfl) ?_
  refine wpF_step (op_eqv (d := (some 11)) (.int .u8 (IntKind.u8.wrap ((1 : Nat) : Int))) (.int .u8 ((1 % 2 ^ 8 : Nat) : Int)) (by kernel_rfl) (congrArg (Value.int .u8) (wrapU rfl rfl)) ?_)
  refine wpF_step (op_eqv (d := (some 12)) (.int .u8 (IntKind.u8.wrap (((1 % 2 ^ 8 : Nat) : Int) + ((1 : Nat) : Int)))) (.int .u8 (((1 % 2 ^ 8 + 1) % 2 ^ 8 : Nat) : Int)) (by kernel_rfl) (congrArg (Value.int .u8) (wrapU rfl (by simp))) ?_)
  refine wpF_run 2 [(3, (.int .i64 ((0 : Nat) : Int))), (2, (.int .u8 (((1 % 2 ^ 8 + 1) % 2 ^ 8 : Nat) : Int)))] (by kernel_rfl) ?_
  refine wpF_end (by kernel_rfl) ?_
  refine then_code ?_
  refine wpC_ret ?_
  refine body_ret2 (by kernel_rfl) (show resVal Try.prog 13 _ _ (.tmp 2) (.int .u8 (((1 % 2 ^ 8 + 1) % 2 ^ 8 : Nat) : Int)) by (show _ = _; kernel_rfl)) (show resVal Try.prog 13 _ _ (.tmp 3) (.int .i64 ((0 : Nat) : Int)) by (show _ = _; kernel_rfl)) ?_
  exact ⟨rfl, (Ext.refl _)⟩

theorem c_StateBad (p : Int)  (w : World) (hp0 : p ≠ 0) (hp1 : p ≠ 1) :
    Calls Try.prog 42 #[(.int .i64 p)] w (Ret fun r w' => r = (.tuple #[(.int .u8 ((0 : Nat) : Int)), (.int .i64 ((1 : Nat) : Int))]) ∧ Ext w w') := by
  refine calls_of (n := 13) (σ := [(0, (.int .i64 p))]) Try.func42 rfl (by kernel_rfl) ?_
  refine wpC_seq ?_
  refine wpC_region ?_
  refine wpF_run 2 [(3, (.int .i64 ((0 : Nat) : Int))), (2, (.int .u8 ((0 : Nat) : Int)))] (by kernel_rfl) ?_
  refine wpF_end (by kernel_rfl) ?_
  refine then_code ?_
  refine wpC_seq ?_
  refine wpC_seq ?_
  refine wpC_region ?_
  refine wpF_run 1 [(4, (.int .i64 p))] (by kernel_rfl) ?_
  refine wpF_step (op_eqv (d := (some 5)) (.bool ((p != ((0 : Nat) : Int)))) (.bool true) (by kernel_rfl) (congrArg Value.bool (cmpNeT (by omega))) ?_)
  refine wpF_run 2 [(7, (.int .i64 p)), (6, (.bool true))] (by kernel_rfl) ?_
  refine wpF_step (op_eqv (d := (some 8)) (.bool ((p != ((1 : Nat) : Int)))) (.bool true) (by kernel_rfl) (congrArg Value.bool (cmpNeT (by omega))) ?_)
  refine wpF_run 1 [(9, (.bool true))] (by kernel_rfl) ?_
  refine wpF_end (by kernel_rfl) ?_
  refine then_code ?_
  refine wpC_true (by kernel_rfl) ?_
  refine wpC_seq ?_
  refine wpC_region ?_
  refine wpF_run 2 [(3, (.int .i64 ((1 : Nat) : Int))), (2, (.int .u8 ((0 : Nat) : Int)))] (by kernel_rfl) ?_
  refine wpF_end (by kernel_rfl) ?_
  refine then_code ?_
  refine wpC_ret ?_
  refine then_ret ?_
  refine body_ret2 (by kernel_rfl) (show resVal Try.prog 13 _ _ (.tmp 2) (.int .u8 ((0 : Nat) : Int)) by (show _ = _; kernel_rfl)) (show resVal Try.prog 13 _ _ (.tmp 3) (.int .i64 ((1 : Nat) : Int)) by (show _ = _; kernel_rfl)) ?_
  exact ⟨rfl, (Ext.refl _)⟩

theorem c_lives10   (w : World)  :
    Calls Try.prog 33 #[] w (Ret fun r w' => r = (.bool true) ∧ Ext w w') := by
  refine calls_of (n := 148) (σ := []) Try.func33 rfl (by kernel_rfl) ?_
  refine wpC_seq ?_
  refine wpC_region ?_
  refine wpF_run 1 [(0, (.bool false))] (by kernel_rfl) ?_
  refine wpF_end (by kernel_rfl) ?_
  refine then_code ?_
  refine wpC_seq ?_
  refine wpC_region ?_
  refine wpF_run 1 [(26, (.agg (recC Rec.zero).toArray))] (by kernel_rfl) ?_
  refine wpF_step (op_callAt (d := (some 27)) (by kernel_rfl) (c_PutRecord Rec.zero _ (by rfl)) ?_)
  rintro _ w1 ⟨a1, rfl, hFz1_0, hEw1⟩
  have hzw1 := hEw1.size
  refine wpF_run 5 [(2, (.int .i64 ((0 : Nat) : Int))), (1, (.slice a1 45 45)), (29, (.int .i64 ((0 : Nat) : Int))), (28, (.slice a1 45 45)), (25, (.tuple #[(.slice a1 45 45), (.int .i64 ((0 : Nat) : Int))]))] (by kernel_rfl) ?_
  refine wpF_end (by kernel_rfl) ?_
  refine then_code ?_
  refine wpC_seq ?_
  refine wpC_region ?_
  refine wpF_step (op_make (d := (some 30)) 23 5 1 1 45 .i64 .i64 (.int .u8 ((0 : Nat) : Int)) (by kernel_rfl) (by kernel_rfl) (by kernel_rfl) (by omega) (by omega) ?_)
  rw [show (Value.cells (.int .u8 ((0 : Nat) : Int))) = #[(.int .u8 ((0 : Nat) : Int))] from rfl, Nat.mul_one, madeCells_one]
  intro w2 hBw2 hEw2
  have hzw2 := hEw2.size; have hlw2 := hBw2.lt
  have hSw2 : Bs w1.heap.size (w1.heap.size + 1) w2 (some ⟨w1.heap.size, 0, none⟩) 45 45 (List.replicate 45 0) := Bs.of_blk hBw2 (u8s_zero _) (by simp) (Nat.le_refl _) (by simp only [maxLen]; omega) (Nat.le_refl _) (Nat.lt_succ_self _)
  refine wpF_run 1 [(3, (.slice (some ⟨w1.heap.size, 0, none⟩) 45 45))] (by kernel_rfl) ?_
  refine wpF_end (by kernel_rfl) ?_
  refine then_code ?_
  refine wpC_seq ?_
  refine wpC_region ?_
  refine wpF_run 1 [(31, (.slice (some ⟨w1.heap.size, 0, none⟩) 45 45))] (by kernel_rfl) ?_
  refine wpF_step (op_v (d := (some 32)) (s := Instr.indexAt 23 (.slice (some ⟨w1.heap.size, 0, none⟩) 45 45) (.int .i64 ((0 : Nat) : Int))) (v := (.pointer (some ⟨w1.heap.size, 0 + 0 * 1, none⟩))) (by kernel_rfl) (rn_ixs (E := 5) (sz := 1) (by kernel_rfl) (by kernel_rfl) (by omega)) ?_)
  refine wpF_step (op_store (d := none) 5 w1.heap.size (0 + 0 * 1) 5 (.int .u8 ((3 : Nat) : Int)) (List.replicate 45 (.int .u8 ((0 : Nat) : Int))) ([(.int .u8 ((3 : Nat) : Int))]) (by kernel_rfl) hBw2 rfl (by kernel_rfl) (by decide) (by simp [Value.oneCell']) ?_)
  intro w3 hBw3 hCw3
  have hzw3 := hCw3.size
  rw [show setFrom (List.replicate 45 (.int .u8 ((0 : Nat) : Int))) (0 + 0 * 1) ([(.int .u8 ((3 : Nat) : Int))]) = u8s ((3 : UInt8) :: List.replicate 44 (0 : UInt8)) from by kernel_rfl] at hBw3
  have hSw3 : Bs w1.heap.size (w1.heap.size + 1) w3 (some ⟨w1.heap.size, 0, none⟩) 45 45 ((3 : UInt8) :: List.replicate 44 (0 : UInt8)) := Bs.of_blk hBw3 (by kernel_rfl) rfl (Nat.le_refl _) (by decide) (Nat.le_refl _) (Nat.lt_succ_self _)
  refine wpF_end (by kernel_rfl) ?_
  refine then_code ?_
  refine wpC_seq ?_
  refine wpC_region ?_
  refine wpF_run 1 [(34, (.slice (some ⟨w1.heap.size, 0, none⟩) 45 45))] (by kernel_rfl) ?_
  refine wpF_step (op_callAt (d := (some 35)) (by kernel_rfl) (c_GetRecordBad _ hSw3 (rfl) (by decide)) ?_)
  rintro _ w4 ⟨rfl, hEw4⟩
  have hzw4 := hEw4.size
  refine wpF_run 3 [(37, (.int .i64 ((1 : Nat) : Int))), (36, (.agg (recC Rec.zero).toArray)), (33, (.tuple #[(.agg (recC Rec.zero).toArray), (.int .i64 ((1 : Nat) : Int))]))] (by kernel_rfl) ?_
  refine wpF_step (op_new (d := (some 4)) (s := Instr.alloc 52 true (.tuple #[])) (.pointer (some ⟨w4.heap.size, 0, none⟩)) (recC Rec.zero) 52 (by kernel_rfl) (by kernel_rfl) ?_)
  intro w5 hBw5 hEw5
  have hzw5 := hEw5.size; have hlw5 := hBw5.lt
  refine wpF_step (op_store (d := none) 52 w4.heap.size 0 52 (.agg (recC Rec.zero).toArray) (recC Rec.zero) (recC Rec.zero) (by kernel_rfl) hBw5 rfl (by rw [recC_len]; kernel_rfl) (by simp) (recC_one _) ?_)
  intro w6 hBw6 hCw6
  have hzw6 := hCw6.size
  rw [setFrom_all _ _ (by simp)] at hBw6
  refine wpF_run 1 [(5, (.int .i64 ((1 : Nat) : Int)))] (by kernel_rfl) ?_
  refine wpF_end (by kernel_rfl) ?_
  refine then_code ?_
  refine wpC_seq ?_
  refine wpC_region ?_
  refine wpF_run 2 [(39, (.slice (some ⟨w1.heap.size, 0, none⟩) 45 45)), (38, (.slice (some ⟨w1.heap.size, 0, none⟩) 45 45))] (by kernel_rfl) ?_
  refine wpF_step (op_v (d := (some 40)) (s := Instr.indexAt 23 (.slice (some ⟨w1.heap.size, 0, none⟩) 45 45) (.int .i64 ((0 : Nat) : Int))) (v := (.pointer (some ⟨w1.heap.size, 0 + 0 * 1, none⟩))) (by kernel_rfl) (rn_ixs (E := 5) (sz := 1) (by kernel_rfl) (by kernel_rfl) (by omega)) ?_)
  refine wpF_step (op_store (d := none) 5 w1.heap.size (0 + 0 * 1) 5 (.int .u8 ((0 : Nat) : Int)) (u8s ((3 : UInt8) :: List.replicate 44 (0 : UInt8))) ([(.int .u8 ((0 : Nat) : Int))]) (by kernel_rfl) (((((hBw3.ext hEw4)).ext hEw5)).chg hCw6 (fun hs => by have h : _ = _ := hs; omega)) rfl (by kernel_rfl) (by decide) (by simp [Value.oneCell']) ?_)
  intro w7 hBw7 hCw7
  have hzw7 := hCw7.size
  rw [show setFrom (u8s ((3 : UInt8) :: List.replicate 44 (0 : UInt8))) (0 + 0 * 1) ([(.int .u8 ((0 : Nat) : Int))]) = u8s (List.replicate 45 (0 : UInt8)) from by kernel_rfl] at hBw7
  have hSw7 : Bs w1.heap.size (w1.heap.size + 1) w7 (some ⟨w1.heap.size, 0, none⟩) 45 45 (List.replicate 45 (0 : UInt8)) := Bs.of_blk hBw7 (by kernel_rfl) rfl (Nat.le_refl _) (by decide) (Nat.le_refl _) (Nat.lt_succ_self _)
  refine wpF_step (op_v (d := (some 41)) (s := Instr.indexAt 23 (.slice (some ⟨w1.heap.size, 0, none⟩) 45 45) (.int .i64 ((44 : Nat) : Int))) (v := (.pointer (some ⟨w1.heap.size, 0 + 44 * 1, none⟩))) (by kernel_rfl) (rn_ixs (E := 5) (sz := 1) (by kernel_rfl) (by kernel_rfl) (by omega)) ?_)
  refine wpF_step (op_store (d := none) 5 w1.heap.size (0 + 44 * 1) 5 (.int .u8 ((1 : Nat) : Int)) (u8s (List.replicate 45 (0 : UInt8))) ([(.int .u8 ((1 : Nat) : Int))]) (by kernel_rfl) hBw7 rfl (by kernel_rfl) (by decide) (by simp [Value.oneCell']) ?_)
  intro w8 hBw8 hCw8
  have hzw8 := hCw8.size
  rw [show setFrom (u8s (List.replicate 45 (0 : UInt8))) (0 + 44 * 1) ([(.int .u8 ((1 : Nat) : Int))]) = u8s (List.replicate 44 (0 : UInt8) ++ [(1 : UInt8)]) from by kernel_rfl] at hBw8
  have hSw8 : Bs w1.heap.size (w1.heap.size + 1) w8 (some ⟨w1.heap.size, 0, none⟩) 45 45 (List.replicate 44 (0 : UInt8) ++ [(1 : UInt8)]) := Bs.of_blk hBw8 (by kernel_rfl) rfl (Nat.le_refl _) (by decide) (Nat.le_refl _) (Nat.lt_succ_self _)
  refine wpF_end (by kernel_rfl) ?_
  refine then_code ?_
  refine wpC_seq ?_
  refine wpC_region ?_
  refine wpF_run 1 [(43, (.slice (some ⟨w1.heap.size, 0, none⟩) 45 45))] (by kernel_rfl) ?_
  refine wpF_step (op_callAt (d := (some 44)) (by kernel_rfl) (c_GetRecordBad _ hSw8 (by decide) (by decide)) ?_)
  rintro _ w9 ⟨rfl, hEw9⟩
  have hzw9 := hEw9.size
  refine wpF_run 3 [(46, (.int .i64 ((1 : Nat) : Int))), (45, (.agg (recC Rec.zero).toArray)), (42, (.tuple #[(.agg (recC Rec.zero).toArray), (.int .i64 ((1 : Nat) : Int))]))] (by kernel_rfl) ?_
  refine wpF_step (op_new (d := (some 6)) (s := Instr.alloc 52 true (.tuple #[])) (.pointer (some ⟨w9.heap.size, 0, none⟩)) (recC Rec.zero) 52 (by kernel_rfl) (by kernel_rfl) ?_)
  intro w10 hBw10 hEw10
  have hzw10 := hEw10.size; have hlw10 := hBw10.lt
  refine wpF_step (op_store (d := none) 52 w9.heap.size 0 52 (.agg (recC Rec.zero).toArray) (recC Rec.zero) (recC Rec.zero) (by kernel_rfl) hBw10 rfl (by rw [recC_len]; kernel_rfl) (by simp) (recC_one _) ?_)
  intro w11 hBw11 hCw11
  have hzw11 := hCw11.size
  rw [setFrom_all _ _ (by simp)] at hBw11
  refine wpF_run 1 [(7, (.int .i64 ((1 : Nat) : Int)))] (by kernel_rfl) ?_
  refine wpF_end (by kernel_rfl) ?_
  refine then_code ?_
  refine wpC_seq ?_
  refine wpC_region ?_
  refine wpF_run 1 [(48, (.slice (some ⟨w1.heap.size, 0, none⟩) 45 45))] (by kernel_rfl) ?_
  obtain ⟨a2, hR1, hS1⟩ := (((((hSw8.ext hEw9)).ext hEw10)).chg hCw11 (fun k h1 h2 hs => by have h : k = _ := hs; omega)).slice (P := Try.prog) (T := 23) (E := 5) (xl := none) (xh := (some (.int .i64 ((44 : Nat) : Int)))) (mx := none) (x := 0) (r := 44) (m := 45) (by kernel_rfl) (by kernel_rfl) (.inl ⟨rfl, rfl⟩) (.inr ⟨_, rfl⟩) (.inl ⟨rfl, rfl⟩) (by simp) (by omega) (by omega) (by omega) (by omega)
  refine wpF_step (op_v (d := (some 49)) (s := Instr.sliceAt 23 (.slice (some ⟨w1.heap.size, 0, none⟩) 45 45) none (some (.int .i64 ((44 : Nat) : Int))) none) (v := (.slice a2 (44 - 0) (45 - 0))) (by kernel_rfl) (hR1 _) ?_)
  refine wpF_step (op_callAt (d := (some 50)) (by kernel_rfl) (c_GetRecordShort _ hS1 (by omega)) ?_)
  rintro _ w12 ⟨rfl, hEw12⟩
  have hzw12 := hEw12.size
  refine wpF_run 3 [(52, (.int .i64 ((6 : Nat) : Int))), (51, (.agg (recC Rec.zero).toArray)), (47, (.tuple #[(.agg (recC Rec.zero).toArray), (.int .i64 ((6 : Nat) : Int))]))] (by kernel_rfl) ?_
  refine wpF_step (op_new (d := (some 8)) (s := Instr.alloc 52 true (.tuple #[])) (.pointer (some ⟨w12.heap.size, 0, none⟩)) (recC Rec.zero) 52 (by kernel_rfl) (by kernel_rfl) ?_)
  intro w13 hBw13 hEw13
  have hzw13 := hEw13.size; have hlw13 := hBw13.lt
  refine wpF_step (op_store (d := none) 52 w12.heap.size 0 52 (.agg (recC Rec.zero).toArray) (recC Rec.zero) (recC Rec.zero) (by kernel_rfl) hBw13 rfl (by rw [recC_len]; kernel_rfl) (by simp) (recC_one _) ?_)
  intro w14 hBw14 hCw14
  have hzw14 := hCw14.size
  rw [setFrom_all _ _ (by simp)] at hBw14
  refine wpF_run 1 [(9, (.int .i64 ((6 : Nat) : Int)))] (by kernel_rfl) ?_
  refine wpF_end (by kernel_rfl) ?_
  refine then_code ?_
  refine wpC_seq ?_
  refine wpC_region ?_
  refine wpF_run 2 [(55, (.agg (entC (Ent.mk 0 (Dig.mk (1 :: List.replicate 31 0) rfl) (by decide))).toArray)), (54, (.agg (digC (Dig.mk (1 :: List.replicate 31 0) rfl)).toArray))] (by kernel_rfl) ?_
  refine wpF_step (op_callAt (d := (some 56)) (by kernel_rfl) (c_PutEntryBad (Ent.mk 0 (Dig.mk (1 :: List.replicate 31 0) rfl) (by decide)) _ (by decide)) ?_)
  rintro _ w15 ⟨rfl, hEw15⟩
  have hzw15 := hEw15.size
  refine wpF_run 5 [(11, (.int .i64 ((1 : Nat) : Int))), (10, (.slice none 0 0)), (58, (.int .i64 ((1 : Nat) : Int))), (57, (.slice none 0 0)), (53, (.tuple #[(.slice none 0 0), (.int .i64 ((1 : Nat) : Int))]))] (by kernel_rfl) ?_
  refine wpF_end (by kernel_rfl) ?_
  refine then_code ?_
  refine wpC_seq ?_
  refine wpC_region ?_
  refine wpF_step (op_make (d := (some 60)) 23 5 1 1 34 .i64 .i64 (.int .u8 ((0 : Nat) : Int)) (by kernel_rfl) (by kernel_rfl) (by kernel_rfl) (by omega) (by omega) ?_)
  rw [show (Value.cells (.int .u8 ((0 : Nat) : Int))) = #[(.int .u8 ((0 : Nat) : Int))] from rfl, Nat.mul_one, madeCells_one]
  intro w16 hBw16 hEw16
  have hzw16 := hEw16.size; have hlw16 := hBw16.lt
  have hSw16 : Bs w15.heap.size (w15.heap.size + 1) w16 (some ⟨w15.heap.size, 0, none⟩) 34 34 (List.replicate 34 0) := Bs.of_blk hBw16 (u8s_zero _) (by simp) (Nat.le_refl _) (by simp only [maxLen]; omega) (Nat.le_refl _) (Nat.lt_succ_self _)
  refine wpF_step (op_callAt (d := (some 61)) (by kernel_rfl) (c_GetEntryLong _ hSw16 (by omega)) ?_)
  rintro _ w17 ⟨rfl, hEw17⟩
  have hzw17 := hEw17.size
  refine wpF_run 3 [(63, (.int .i64 ((5 : Nat) : Int))), (62, (.agg (entC Ent.zero).toArray)), (59, (.tuple #[(.agg (entC Ent.zero).toArray), (.int .i64 ((5 : Nat) : Int))]))] (by kernel_rfl) ?_
  refine wpF_step (op_new (d := (some 12)) (s := Instr.alloc 61 true (.tuple #[])) (.pointer (some ⟨w17.heap.size, 0, none⟩)) (entC Ent.zero) 61 (by kernel_rfl) (by kernel_rfl) ?_)
  intro w18 hBw18 hEw18
  have hzw18 := hEw18.size; have hlw18 := hBw18.lt
  refine wpF_step (op_store (d := none) 61 w17.heap.size 0 61 (.agg (entC Ent.zero).toArray) (entC Ent.zero) (entC Ent.zero) (by kernel_rfl) hBw18 rfl (by rw [entC_len]; kernel_rfl) (by simp) (entC_one _) ?_)
  intro w19 hBw19 hCw19
  have hzw19 := hCw19.size
  rw [setFrom_all _ _ (by simp)] at hBw19
  refine wpF_run 1 [(13, (.int .i64 ((5 : Nat) : Int)))] (by kernel_rfl) ?_
  refine wpF_end (by kernel_rfl) ?_
  refine then_code ?_
  refine wpC_seq ?_
  refine wpC_region ?_
  refine wpF_run 1 [(64, (.agg (celC (Cel.mk Dig.zero 1 2 (by decide) (by decide))).toArray))] (by kernel_rfl) ?_
  refine wpF_step (op_callAt (d := (some 65)) (by kernel_rfl) (c_PutCell (Cel.mk Dig.zero 1 2 (by decide) (by decide)) _) ?_)
  rintro _ w20 ⟨a3, rfl, hFz7_0, hEw20⟩
  have hzw20 := hEw20.size
  refine wpF_run 1 [(14, (.slice a3 48 48))] (by kernel_rfl) ?_
  refine wpF_end (by kernel_rfl) ?_
  refine then_code ?_
  refine wpC_seq ?_
  refine wpC_seq ?_
  refine wpC_region ?_
  refine wpF_run 2 [(67, (.int .i64 ((0 : Nat) : Int))), (66, (.slice a1 45 45))] (by kernel_rfl) ?_
  refine wpF_step (op_make (d := (some 68)) 23 5 1 1 45 .i64 .i64 (.int .u8 ((0 : Nat) : Int)) (by kernel_rfl) (by kernel_rfl) (by kernel_rfl) (by omega) (by omega) ?_)
  rw [show (Value.cells (.int .u8 ((0 : Nat) : Int))) = #[(.int .u8 ((0 : Nat) : Int))] from rfl, Nat.mul_one, madeCells_one]
  intro w21 hBw21 hEw21
  have hzw21 := hEw21.size; have hlw21 := hBw21.lt
  have hSw21 : Bs w20.heap.size (w20.heap.size + 1) w21 (some ⟨w20.heap.size, 0, none⟩) 45 45 (List.replicate 45 0) := Bs.of_blk hBw21 (u8s_zero _) (by simp) (Nat.le_refl _) (by simp only [maxLen]; omega) (Nat.le_refl _) (Nat.lt_succ_self _)
  refine wpF_step (op_callAt (d := (some 69)) (by kernel_rfl) (c_same10 0 0 _ (((((((((((((((((((((((((((((((((((((((hFz1_0.ext hEw2)).chg hCw3 (fun k h1 h2 hs => by have h : k = _ := hs; omega))).ext hEw4)).ext hEw5)).chg hCw6 (fun k h1 h2 hs => by have h : k = _ := hs; omega))).chg hCw7 (fun k h1 h2 hs => by have h : k = _ := hs; omega))).chg hCw8 (fun k h1 h2 hs => by have h : k = _ := hs; omega))).ext hEw9)).ext hEw10)).chg hCw11 (fun k h1 h2 hs => by have h : k = _ := hs; omega))).ext hEw12)).ext hEw13)).chg hCw14 (fun k h1 h2 hs => by have h : k = _ := hs; omega))).ext hEw15)).ext hEw16)).ext hEw17)).ext hEw18)).chg hCw19 (fun k h1 h2 hs => by have h : k = _ := hs; omega))).ext hEw20)).ext hEw21) hSw21 (rfl) (by decide) (rfl)) ?_)
  rintro _ _ ⟨rfl, rfl⟩
  refine wpF_run 28 [(97, (.slice a3 48 48)), (96, (.bool false)), (95, (.bool false)), (94, (.bool false)), (93, (.int .i64 ((48 : Nat) : Int))), (92, (.slice a3 48 48)), (91, (.bool false)), (90, (.bool false)), (89, (.bool false)), (88, (.int .i64 ((5 : Nat) : Int))), (87, (.bool false)), (86, (.bool false)), (85, (.bool false)), (84, (.int .i64 ((1 : Nat) : Int))), (83, (.bool false)), (82, (.bool false)), (81, (.bool false)), (80, (.int .i64 ((6 : Nat) : Int))), (79, (.bool false)), (78, (.bool false)), (77, (.bool false)), (76, (.int .i64 ((1 : Nat) : Int))), (75, (.bool false)), (74, (.bool false)), (73, (.bool false)), (72, (.int .i64 ((1 : Nat) : Int))), (71, (.bool false)), (70, (.bool false))] (by kernel_rfl) ?_
  obtain ⟨a4, hR2, hS2⟩ := (hFz7_0.ext hEw21).slice (P := Try.prog) (T := 23) (E := 5) (xl := (some (.int .i64 ((32 : Nat) : Int)))) (xh := none) (mx := none) (x := 32) (r := 48) (m := 48) (by kernel_rfl) (by kernel_rfl) (.inr ⟨_, rfl⟩) (.inl ⟨rfl, rfl⟩) (.inl ⟨rfl, rfl⟩) (by simp) (by omega) (by omega) (by omega) (by omega)
  refine wpF_step (op_v (d := (some 98)) (s := Instr.sliceAt 23 (.slice a3 48 48) (some (.int .i64 ((32 : Nat) : Int))) none none) (v := (.slice a4 (48 - 32) (48 - 32))) (by kernel_rfl) (hR2 _) ?_)
  refine wpF_step (op_v (d := (some 99)) (s := convert 23 9 (.slice a4 (48 - 32) (48 - 32))) (v := (.string ⟨(((celB (Cel.mk Dig.zero 1 2 (by decide) (by decide))).drop 32).take (48 - 32)).toArray⟩)) (by kernel_rfl) (run_string (E := 5) (by kernel_rfl) (by kernel_rfl) (by kernel_rfl) hS2) ?_)
  refine wpF_step (op_eqv (d := (some 100)) (.bool (!((⟨(((celB (Cel.mk Dig.zero 1 2 (by decide) (by decide))).drop 32).take (48 - 32)).toArray⟩ : ByteArray).toList == (⟨(([0, 0, 0, 0, 0, 0, 0, 1, 0, 0, 0, 0, 0, 0, 0, 2] : List UInt8)).toArray⟩ : ByteArray).toList))) (.bool false) (by kernel_rfl) (congrArg Value.bool (strNF (by decide))) ?_)
  refine wpF_run 1 [(101, (.bool false))] (by kernel_rfl) ?_
  refine wpF_end (by kernel_rfl) ?_
  refine then_code ?_
  refine wpC_false (by kernel_rfl) ?_
  refine wpC_skip ?_
  refine then_code ?_
  refine wpC_seq ?_
  refine wpC_region ?_
  refine wpF_step (op_callAt (d := (some 103)) (by kernel_rfl) (c_Slot2 _) ?_)
  rintro _ w22 ⟨rfl, hEw22⟩
  have hzw22 := hEw22.size
  refine wpF_run 5 [(16, (.int .i64 ((0 : Nat) : Int))), (15, (.int .i64 ((1 : Nat) : Int))), (105, (.int .i64 ((0 : Nat) : Int))), (104, (.int .i64 ((1 : Nat) : Int))), (102, (.tuple #[(.int .i64 ((1 : Nat) : Int)), (.int .i64 ((0 : Nat) : Int))]))] (by kernel_rfl) ?_
  refine wpF_end (by kernel_rfl) ?_
  refine then_code ?_
  refine wpC_seq ?_
  refine wpC_region ?_
  refine wpF_step (op_callAt (d := (some 107)) (by kernel_rfl) (c_Slot0 _) ?_)
  rintro _ w23 ⟨rfl, hEw23⟩
  have hzw23 := hEw23.size
  refine wpF_run 5 [(18, (.int .i64 ((11 : Nat) : Int))), (17, (.int .i64 ((0 : Nat) : Int))), (109, (.int .i64 ((11 : Nat) : Int))), (108, (.int .i64 ((0 : Nat) : Int))), (106, (.tuple #[(.int .i64 ((0 : Nat) : Int)), (.int .i64 ((11 : Nat) : Int))]))] (by kernel_rfl) ?_
  refine wpF_end (by kernel_rfl) ?_
  refine then_code ?_
  refine wpC_seq ?_
  refine wpC_region ?_
  refine wpF_step (op_callAt (d := (some 111)) (by kernel_rfl) (c_SlotBad 3 _ (by omega)) ?_)
  rintro _ w24 ⟨rfl, hEw24⟩
  have hzw24 := hEw24.size
  refine wpF_run 5 [(20, (.int .i64 ((1 : Nat) : Int))), (19, (.int .i64 ((0 : Nat) : Int))), (113, (.int .i64 ((1 : Nat) : Int))), (112, (.int .i64 ((0 : Nat) : Int))), (110, (.tuple #[(.int .i64 ((0 : Nat) : Int)), (.int .i64 ((1 : Nat) : Int))]))] (by kernel_rfl) ?_
  refine wpF_end (by kernel_rfl) ?_
  refine then_code ?_
  refine wpC_seq ?_
  refine wpC_region ?_
  refine wpF_step (op_callAt (d := (some 115)) (by kernel_rfl) (c_State0 _) ?_)
  rintro _ w25 ⟨rfl, hEw25⟩
  have hzw25 := hEw25.size
  refine wpF_run 5 [(22, (.int .i64 ((0 : Nat) : Int))), (21, (.int .u8 ((1 : Nat) : Int))), (117, (.int .i64 ((0 : Nat) : Int))), (116, (.int .u8 ((1 : Nat) : Int))), (114, (.tuple #[(.int .u8 ((1 : Nat) : Int)), (.int .i64 ((0 : Nat) : Int))]))] (by kernel_rfl) ?_
  refine wpF_end (by kernel_rfl) ?_
  refine then_code ?_
  refine wpC_seq ?_
  refine wpC_region ?_
  refine wpF_step (op_callAt (d := (some 119)) (by kernel_rfl) (c_StateBad ((2 : Nat) : Int) _ (by omega) (by omega)) ?_)
  rintro _ w26 ⟨rfl, hEw26⟩
  have hzw26 := hEw26.size
  refine wpF_run 5 [(24, (.int .i64 ((1 : Nat) : Int))), (23, (.int .u8 ((0 : Nat) : Int))), (121, (.int .i64 ((1 : Nat) : Int))), (120, (.int .u8 ((0 : Nat) : Int))), (118, (.tuple #[(.int .u8 ((0 : Nat) : Int)), (.int .i64 ((1 : Nat) : Int))]))] (by kernel_rfl) ?_
  refine wpF_end (by kernel_rfl) ?_
  refine then_code ?_
  refine wpC_seq ?_
  refine wpC_region ?_
  refine wpF_run 27 [(0, (.bool true)), (147, (.bool true)), (146, (.bool true)), (145, (.int .i64 ((1 : Nat) : Int))), (144, (.bool true)), (143, (.bool true)), (142, (.bool true)), (141, (.int .i64 ((0 : Nat) : Int))), (140, (.bool true)), (139, (.bool true)), (138, (.bool true)), (137, (.int .u8 ((1 : Nat) : Int))), (136, (.bool true)), (135, (.bool true)), (134, (.bool true)), (133, (.int .i64 ((1 : Nat) : Int))), (132, (.bool true)), (131, (.bool true)), (130, (.bool true)), (129, (.int .i64 ((11 : Nat) : Int))), (128, (.bool true)), (127, (.bool true)), (126, (.bool true)), (125, (.int .i64 ((0 : Nat) : Int))), (124, (.bool true)), (123, (.bool true)), (122, (.int .i64 ((1 : Nat) : Int)))] (by kernel_rfl) ?_
  refine wpF_end (by kernel_rfl) ?_
  refine then_code ?_
  refine wpC_ret ?_
  refine body_ret1 (by kernel_rfl) (show resVal Try.prog 148 _ _ (.tmp 0) (.bool true) by (show _ = _; kernel_rfl)) ?_
  exact ⟨rfl, ((((((((Ext.own (((((Ext.own (((Ext.own (((Ext.own (Ext.own (Ext.own (((Ext.own (hEw1.trans hEw2) hCw3 (by omega)).trans hEw4).trans hEw5) hCw6 (by omega)) hCw7 (by omega)) hCw8 (by omega)).trans hEw9).trans hEw10) hCw11 (by omega)).trans hEw12).trans hEw13) hCw14 (by omega)).trans hEw15).trans hEw16).trans hEw17).trans hEw18) hCw19 (by omega)).trans hEw20).trans hEw21).trans hEw22).trans hEw23).trans hEw24).trans hEw25).trans hEw26)⟩

end Go.Proofs.Ytigeaknjhnichaa
